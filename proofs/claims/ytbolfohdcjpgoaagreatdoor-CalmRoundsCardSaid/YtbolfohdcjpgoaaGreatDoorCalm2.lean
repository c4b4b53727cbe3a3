/- How long it takes (package calm), and the document's answer for it (package ploverrounds): Rounds, Starts, Round. -/
import Derived.Test.YtbolfohdcjpgoaaGreatDoorCalm
set_option linter.unusedSimpArgs false
set_option linter.unusedVariables false
set_option linter.unusedSectionVars false
open Go Go.RowKit
namespace Go.Sl
open Go.Proofs
section
variable {w0 : World} {l F F1 : HL} {K : Value → HL → Prop}
set_option maxRecDepth 16000 in
theorem Rounds_spec [Laid w0] {c : Cfg} {a m : Int} (h : K (.tuple #[iv (roundsOf c a m).1, iv (roundsOf c a m).2]) l) : CallG Tryz.prog w0 9 [.agg c.row.toArray, iv a, iv m].toArray l K := by
  refine CallG.weak (CallG.enter Tryz.func9 rfl rfl fun cs => ?_)
  repeat' (first | refine step ?_ | refine knowI fun hk => ?_ | refine got rfl ?_ | refine And.intro rfl ?_ | (refine And.intro (fun hc => ?_) (fun hc => ?_) <;> (try (exfalso; first | omega | (simp only [List.length_nil, List.length_cons] at hc; omega)))) | (refine And.intro ?_ ?_; focus omega) | (refine And.intro ?_ ?_; focus (simp only [List.length_map, List.length_set, List.length_replicate, List.length_append, List.length_range, List.length_cons, List.length_nil, Nat.blt_eq, Nat.ble_eq]; omega)) | refine anyB fun b => ?_ | refine got (nth_rowI rfl) ?_ | refine got (nth_row0 rfl) ?_ | refine got (nth_row2 rfl) ?_ | fail)
  refine calmMay_spec ?_
  by_cases hm : c.May ∧ 0 ≤ a ∧ a ≤ 1048576 ∧ 0 ≤ m ∧ m ≤ 16
  · have e : roundsOf c a m = (40 + 20 * m + (4 + 2 * c.wait) * (a + 1), 0) := if_pos hm
    rw [e] at h
    rw [decide_eq_true hm.1]
    have hm0 := hm.1
    unfold Cfg.May at hm0
    have hmul : 0 ≤ (4 + 2 * c.wait) * (a + 1) ∧ (4 + 2 * c.wait) * (a + 1) ≤ 2004 * 1048577 := ⟨Int.mul_nonneg (by omega) (by omega), Int.mul_le_mul (by omega) (by omega) (by omega) (by omega)⟩
    repeat' (first | refine step ?_ | refine knowI fun hk => ?_ | refine got rfl ?_ | refine And.intro rfl ?_ | (refine And.intro (fun hc => ?_) (fun hc => ?_) <;> (try (exfalso; first | omega | (simp only [List.length_nil, List.length_cons] at hc; omega)))) | (refine And.intro ?_ ?_; focus omega) | (refine And.intro ?_ ?_; focus (simp only [List.length_map, List.length_set, List.length_replicate, List.length_append, List.length_range, List.length_cons, List.length_nil, Nat.blt_eq, Nat.ble_eq]; omega)) | refine anyB fun b => ?_ | refine got (nth_rowI rfl) ?_ | refine got (nth_row0 rfl) ?_ | refine got (nth_row2 rfl) ?_ | fail)
    refine retG Tryz.func9 rfl ?_
    repeat' (first | refine step ?_ | refine knowI fun hk => ?_ | refine got rfl ?_ | refine And.intro rfl ?_ | (refine And.intro (fun hc => ?_) (fun hc => ?_) <;> (try (exfalso; first | omega | (simp only [List.length_nil, List.length_cons] at hc; omega)))) | (refine And.intro ?_ ?_; focus omega) | (refine And.intro ?_ ?_; focus (simp only [List.length_map, List.length_set, List.length_replicate, List.length_append, List.length_range, List.length_cons, List.length_nil, Nat.blt_eq, Nat.ble_eq]; omega)) | refine anyB fun b => ?_ | refine got (nth_rowI rfl) ?_ | refine got (nth_row0 rfl) ?_ | refine got (nth_row2 rfl) ?_ | fail)
    exact Wk.mk (Ent.drop (.refl _)) h
  · have e : roundsOf c a m = (0, 1) := if_neg hm
    rw [e] at h
    by_cases hc : c.May
    · rw [decide_eq_true hc]
      have h2 : a < 0 ∨ 1048576 < a ∨ m < 0 ∨ 16 < m := by
        rcases Int.lt_or_le a 0 with h1 | h1
        · exact .inl h1
        · rcases Int.lt_or_le 1048576 a with h2 | h2
          · exact .inr (.inl h2)
          · rcases Int.lt_or_le m 0 with h3 | h3
            · exact .inr (.inr (.inl h3))
            · rcases Int.lt_or_le 16 m with h4 | h4
              · exact .inr (.inr (.inr h4))
              · exact absurd ⟨hc, h1, h2, h3, h4⟩ hm
      repeat' (first | refine step ?_ | refine knowI fun hk => ?_ | refine got rfl ?_ | refine And.intro rfl ?_ | (refine And.intro (fun hc => ?_) (fun hc => ?_) <;> (try (exfalso; first | omega | (simp only [List.length_nil, List.length_cons] at hc; omega)))) | (refine And.intro ?_ ?_; focus omega) | (refine And.intro ?_ ?_; focus (simp only [List.length_map, List.length_set, List.length_replicate, List.length_append, List.length_range, List.length_cons, List.length_nil, Nat.blt_eq, Nat.ble_eq]; omega)) | refine anyB fun b => ?_ | refine got (nth_rowI rfl) ?_ | refine got (nth_row0 rfl) ?_ | refine got (nth_row2 rfl) ?_ | fail)
      all_goals (refine retG Tryz.func9 rfl ?_)
      all_goals repeat' (first | refine step ?_ | refine knowI fun hk => ?_ | refine got rfl ?_ | refine And.intro rfl ?_ | (refine And.intro (fun hc => ?_) (fun hc => ?_) <;> (try (exfalso; first | omega | (simp only [List.length_nil, List.length_cons] at hc; omega)))) | (refine And.intro ?_ ?_; focus omega) | (refine And.intro ?_ ?_; focus (simp only [List.length_map, List.length_set, List.length_replicate, List.length_append, List.length_range, List.length_cons, List.length_nil, Nat.blt_eq, Nat.ble_eq]; omega)) | refine anyB fun b => ?_ | refine got (nth_rowI rfl) ?_ | refine got (nth_row0 rfl) ?_ | refine got (nth_row2 rfl) ?_ | fail)
      all_goals exact Wk.mk (Ent.drop (.refl _)) h
    · rw [decide_eq_false hc]
      repeat' (first | refine step ?_ | refine knowI fun hk => ?_ | refine got rfl ?_ | refine And.intro rfl ?_ | (refine And.intro (fun hc => ?_) (fun hc => ?_) <;> (try (exfalso; first | omega | (simp only [List.length_nil, List.length_cons] at hc; omega)))) | (refine And.intro ?_ ?_; focus omega) | (refine And.intro ?_ ?_; focus (simp only [List.length_map, List.length_set, List.length_replicate, List.length_append, List.length_range, List.length_cons, List.length_nil, Nat.blt_eq, Nat.ble_eq]; omega)) | refine anyB fun b => ?_ | refine got (nth_rowI rfl) ?_ | refine got (nth_row0 rfl) ?_ | refine got (nth_row2 rfl) ?_ | fail)
      refine retG Tryz.func9 rfl ?_
      repeat' (first | refine step ?_ | refine knowI fun hk => ?_ | refine got rfl ?_ | refine And.intro rfl ?_ | (refine And.intro (fun hc => ?_) (fun hc => ?_) <;> (try (exfalso; first | omega | (simp only [List.length_nil, List.length_cons] at hc; omega)))) | (refine And.intro ?_ ?_; focus omega) | (refine And.intro ?_ ?_; focus (simp only [List.length_map, List.length_set, List.length_replicate, List.length_append, List.length_range, List.length_cons, List.length_nil, Nat.blt_eq, Nat.ble_eq]; omega)) | refine anyB fun b => ?_ | refine got (nth_rowI rfl) ?_ | refine got (nth_row0 rfl) ?_ | refine got (nth_row2 rfl) ?_ | fail)
      exact Wk.mk (Ent.drop (.refl _)) h
set_option maxRecDepth 16000 in
theorem bRounds_spec {c : Cfg} {a m : Int} (h : K (.tuple #[iv (roundsOf c a m).1, iv (roundsOf c a m).2]) l) : CallG Tryz.prog w0 10 [.agg c.row.toArray, iv a, iv m].toArray l K := by
  refine CallG.weak (CallG.enter Tryz.func10 rfl rfl fun cs => ?_)
  repeat' (first | refine step ?_ | refine knowI fun hk => ?_ | refine got rfl ?_ | refine And.intro rfl ?_ | (refine And.intro (fun hc => ?_) (fun hc => ?_) <;> (try (exfalso; first | omega | (simp only [List.length_nil, List.length_cons] at hc; omega)))) | (refine And.intro ?_ ?_; focus omega) | (refine And.intro ?_ ?_; focus (simp only [List.length_map, List.length_set, List.length_replicate, List.length_append, List.length_range, List.length_cons, List.length_nil, Nat.blt_eq, Nat.ble_eq]; omega)) | refine anyB fun b => ?_ | refine got (nth_rowI rfl) ?_ | refine got (nth_row0 rfl) ?_ | refine got (nth_row2 rfl) ?_ | fail)
  refine bMay_spec ?_
  by_cases hm : c.May ∧ 0 ≤ a ∧ a ≤ 1048576 ∧ 0 ≤ m ∧ m ≤ 16
  · have e : roundsOf c a m = (40 + 20 * m + (4 + 2 * c.wait) * (a + 1), 0) := if_pos hm
    rw [e] at h
    rw [decide_eq_true hm.1]
    have hm0 := hm.1
    unfold Cfg.May at hm0
    have hmul : 0 ≤ (4 + 2 * c.wait) * (a + 1) ∧ (4 + 2 * c.wait) * (a + 1) ≤ 2004 * 1048577 := ⟨Int.mul_nonneg (by omega) (by omega), Int.mul_le_mul (by omega) (by omega) (by omega) (by omega)⟩
    repeat' (first | refine step ?_ | refine knowI fun hk => ?_ | refine got rfl ?_ | refine And.intro rfl ?_ | (refine And.intro (fun hc => ?_) (fun hc => ?_) <;> (try (exfalso; first | omega | (simp only [List.length_nil, List.length_cons] at hc; omega)))) | (refine And.intro ?_ ?_; focus omega) | (refine And.intro ?_ ?_; focus (simp only [List.length_map, List.length_set, List.length_replicate, List.length_append, List.length_range, List.length_cons, List.length_nil, Nat.blt_eq, Nat.ble_eq]; omega)) | refine anyB fun b => ?_ | refine got (nth_rowI rfl) ?_ | refine got (nth_row0 rfl) ?_ | refine got (nth_row2 rfl) ?_ | fail)
    refine retG Tryz.func10 rfl ?_
    repeat' (first | refine step ?_ | refine knowI fun hk => ?_ | refine got rfl ?_ | refine And.intro rfl ?_ | (refine And.intro (fun hc => ?_) (fun hc => ?_) <;> (try (exfalso; first | omega | (simp only [List.length_nil, List.length_cons] at hc; omega)))) | (refine And.intro ?_ ?_; focus omega) | (refine And.intro ?_ ?_; focus (simp only [List.length_map, List.length_set, List.length_replicate, List.length_append, List.length_range, List.length_cons, List.length_nil, Nat.blt_eq, Nat.ble_eq]; omega)) | refine anyB fun b => ?_ | refine got (nth_rowI rfl) ?_ | refine got (nth_row0 rfl) ?_ | refine got (nth_row2 rfl) ?_ | fail)
    exact Wk.mk (Ent.drop (.refl _)) h
  · have e : roundsOf c a m = (0, 1) := if_neg hm
    rw [e] at h
    by_cases hc : c.May
    · rw [decide_eq_true hc]
      have h2 : a < 0 ∨ 1048576 < a ∨ m < 0 ∨ 16 < m := by
        rcases Int.lt_or_le a 0 with h1 | h1
        · exact .inl h1
        · rcases Int.lt_or_le 1048576 a with h2 | h2
          · exact .inr (.inl h2)
          · rcases Int.lt_or_le m 0 with h3 | h3
            · exact .inr (.inr (.inl h3))
            · rcases Int.lt_or_le 16 m with h4 | h4
              · exact .inr (.inr (.inr h4))
              · exact absurd ⟨hc, h1, h2, h3, h4⟩ hm
      repeat' (first | refine step ?_ | refine knowI fun hk => ?_ | refine got rfl ?_ | refine And.intro rfl ?_ | (refine And.intro (fun hc => ?_) (fun hc => ?_) <;> (try (exfalso; first | omega | (simp only [List.length_nil, List.length_cons] at hc; omega)))) | (refine And.intro ?_ ?_; focus omega) | (refine And.intro ?_ ?_; focus (simp only [List.length_map, List.length_set, List.length_replicate, List.length_append, List.length_range, List.length_cons, List.length_nil, Nat.blt_eq, Nat.ble_eq]; omega)) | refine anyB fun b => ?_ | refine got (nth_rowI rfl) ?_ | refine got (nth_row0 rfl) ?_ | refine got (nth_row2 rfl) ?_ | fail)
      all_goals (refine retG Tryz.func10 rfl ?_)
      all_goals repeat' (first | refine step ?_ | refine knowI fun hk => ?_ | refine got rfl ?_ | refine And.intro rfl ?_ | (refine And.intro (fun hc => ?_) (fun hc => ?_) <;> (try (exfalso; first | omega | (simp only [List.length_nil, List.length_cons] at hc; omega)))) | (refine And.intro ?_ ?_; focus omega) | (refine And.intro ?_ ?_; focus (simp only [List.length_map, List.length_set, List.length_replicate, List.length_append, List.length_range, List.length_cons, List.length_nil, Nat.blt_eq, Nat.ble_eq]; omega)) | refine anyB fun b => ?_ | refine got (nth_rowI rfl) ?_ | refine got (nth_row0 rfl) ?_ | refine got (nth_row2 rfl) ?_ | fail)
      all_goals exact Wk.mk (Ent.drop (.refl _)) h
    · rw [decide_eq_false hc]
      repeat' (first | refine step ?_ | refine knowI fun hk => ?_ | refine got rfl ?_ | refine And.intro rfl ?_ | (refine And.intro (fun hc => ?_) (fun hc => ?_) <;> (try (exfalso; first | omega | (simp only [List.length_nil, List.length_cons] at hc; omega)))) | (refine And.intro ?_ ?_; focus omega) | (refine And.intro ?_ ?_; focus (simp only [List.length_map, List.length_set, List.length_replicate, List.length_append, List.length_range, List.length_cons, List.length_nil, Nat.blt_eq, Nat.ble_eq]; omega)) | refine anyB fun b => ?_ | refine got (nth_rowI rfl) ?_ | refine got (nth_row0 rfl) ?_ | refine got (nth_row2 rfl) ?_ | fail)
      refine retG Tryz.func10 rfl ?_
      repeat' (first | refine step ?_ | refine knowI fun hk => ?_ | refine got rfl ?_ | refine And.intro rfl ?_ | (refine And.intro (fun hc => ?_) (fun hc => ?_) <;> (try (exfalso; first | omega | (simp only [List.length_nil, List.length_cons] at hc; omega)))) | (refine And.intro ?_ ?_; focus omega) | (refine And.intro ?_ ?_; focus (simp only [List.length_map, List.length_set, List.length_replicate, List.length_append, List.length_range, List.length_cons, List.length_nil, Nat.blt_eq, Nat.ble_eq]; omega)) | refine anyB fun b => ?_ | refine got (nth_rowI rfl) ?_ | refine got (nth_row0 rfl) ?_ | refine got (nth_row2 rfl) ?_ | fail)
      exact Wk.mk (Ent.drop (.refl _)) h
/-- steps, or none -/
def NoSteps (v : Value) (F : HL) : HL := Steps v [] :: F
set_option maxRecDepth 16000 in
theorem Starts_spec [Laid w0] {c : Cfg} (h0 : ¬ c.May → K (.tuple #[nilS, iv 1]) l) (h1 : c.May → ∀ a cap, K (.tuple #[.slice a c.nodes.toNat cap, iv 0]) (Steps (.slice a c.nodes.toNat cap) (startsOf c.nodes.toNat) :: l)) :
    CallG Tryz.prog w0 13 [.agg c.row.toArray].toArray l K := by
  refine CallG.weak (CallG.enter Tryz.func13 rfl rfl fun cs => ?_)
  repeat' (first | refine step ?_ | refine knowI fun hk => ?_ | refine got rfl ?_ | refine And.intro rfl ?_ | (refine And.intro (fun hc => ?_) (fun hc => ?_) <;> (try (exfalso; first | omega | (simp only [List.length_nil, List.length_cons] at hc; omega)))) | (refine And.intro ?_ ?_; focus omega) | (refine And.intro ?_ ?_; focus (simp only [List.length_map, List.length_set, List.length_replicate, List.length_append, List.length_range, List.length_cons, List.length_nil, Nat.blt_eq, Nat.ble_eq]; omega)) | refine anyB fun b => ?_ | refine got (nth_rowI rfl) ?_ | refine got (nth_row0 rfl) ?_ | refine got (nth_row2 rfl) ?_ | fail)
  refine calmMay_spec ?_
  by_cases hm : c.May
  · rw [decide_eq_true hm]
    have hm0 := hm
    unfold Cfg.May at hm0
    repeat' (first | refine step ?_ | refine knowI fun hk => ?_ | refine got rfl ?_ | refine And.intro rfl ?_ | (refine And.intro (fun hc => ?_) (fun hc => ?_) <;> (try (exfalso; first | omega | (simp only [List.length_nil, List.length_cons] at hc; omega)))) | (refine And.intro ?_ ?_; focus omega) | (refine And.intro ?_ ?_; focus (simp only [List.length_map, List.length_set, List.length_replicate, List.length_append, List.length_range, List.length_cons, List.length_nil, Nat.blt_eq, Nat.ble_eq]; omega)) | refine anyB fun b => ?_ | refine got (nth_rowI rfl) ?_ | refine got (nth_row0 rfl) ?_ | refine got (nth_row2 rfl) ?_ | fail)
    generalize b = cb
    refine Run.loop (fun x : Nat × Option Addr × Nat => [(1, pt cb), (4, .slice x.2.1 x.1 x.2.2), (10, iv c.nodes), (11, iv x.1)])
      (fun x => SlR (.slice x.2.1 x.1 x.2.2) 109 8 x.1 ((startsOf x.1).flatMap stRow) :: cells cb c.row 23 :: l) (fun x => x.1 ≤ c.nodes.toNat) (fun x => c.nodes.toNat - x.1) (0, none, 0) (Nat.zero_le _) (by repeat (first | exact Sub.nil _ | refine Sub.cons rfl ?_ | refine Sub.ci rfl (by omega) ?_)) (slr_nil 109 8 _) ?_
    rintro ⟨k, a, cap⟩ hk ih
    dsimp only at hk ih ⊢
    by_cases hlt : k < c.nodes.toNat
    · repeat' (first | refine step ?_ | refine knowI fun hk => ?_ | refine got rfl ?_ | refine And.intro rfl ?_ | (refine And.intro (fun hc => ?_) (fun hc => ?_) <;> (try (exfalso; first | omega | (simp only [List.length_nil, List.length_cons] at hc; omega)))) | (refine And.intro ?_ ?_; focus omega) | (refine And.intro ?_ ?_; focus (simp only [List.length_map, List.length_set, List.length_replicate, List.length_append, List.length_range, List.length_cons, List.length_nil, Nat.blt_eq, Nat.ble_eq]; omega)) | refine anyB fun b => ?_ | refine got (nth_rowI rfl) ?_ | refine got (nth_row0 rfl) ?_ | refine got (nth_row2 rfl) ?_ | fail)
      refine appendG rfl (by decide) (by omega) fun a2 cp2 => ?_
      repeat' (first | refine step ?_ | refine knowI fun hk => ?_ | refine got rfl ?_ | refine And.intro rfl ?_ | (refine And.intro (fun hc => ?_) (fun hc => ?_) <;> (try (exfalso; first | omega | (simp only [List.length_nil, List.length_cons] at hc; omega)))) | (refine And.intro ?_ ?_; focus omega) | (refine And.intro ?_ ?_; focus (simp only [List.length_map, List.length_set, List.length_replicate, List.length_append, List.length_range, List.length_cons, List.length_nil, Nat.blt_eq, Nat.ble_eq]; omega)) | refine anyB fun b => ?_ | refine got (nth_rowI rfl) ?_ | refine got (nth_row0 rfl) ?_ | refine got (nth_row2 rfl) ?_ | fail)
      refine Run.sub ?_ (Run.ent ?_ (ih (k + 1, a2, cp2) (by dsimp only; omega) (by dsimp only; omega)))
      · exact (by repeat (first | exact Sub.nil _ | refine Sub.cons rfl ?_ | refine Sub.ci rfl (by omega) ?_))
      · dsimp only
        rw [startsOf_succ, List.flatMap_append, List.flatMap_singleton]
        exact fin
    · obtain rfl : k = c.nodes.toNat := by omega
      repeat' (first | refine step ?_ | refine knowI fun hk => ?_ | refine got rfl ?_ | refine And.intro rfl ?_ | (refine And.intro (fun hc => ?_) (fun hc => ?_) <;> (try (exfalso; first | omega | (simp only [List.length_nil, List.length_cons] at hc; omega)))) | (refine And.intro ?_ ?_; focus omega) | (refine And.intro ?_ ?_; focus (simp only [List.length_map, List.length_set, List.length_replicate, List.length_append, List.length_range, List.length_cons, List.length_nil, Nat.blt_eq, Nat.ble_eq]; omega)) | refine anyB fun b => ?_ | refine got (nth_rowI rfl) ?_ | refine got (nth_row0 rfl) ?_ | refine got (nth_row2 rfl) ?_ | fail)
      refine retG Tryz.func13 rfl ?_
      repeat' (first | refine step ?_ | refine knowI fun hk => ?_ | refine got rfl ?_ | refine And.intro rfl ?_ | (refine And.intro (fun hc => ?_) (fun hc => ?_) <;> (try (exfalso; first | omega | (simp only [List.length_nil, List.length_cons] at hc; omega)))) | (refine And.intro ?_ ?_; focus omega) | (refine And.intro ?_ ?_; focus (simp only [List.length_map, List.length_set, List.length_replicate, List.length_append, List.length_range, List.length_cons, List.length_nil, Nat.blt_eq, Nat.ble_eq]; omega)) | refine anyB fun b => ?_ | refine got (nth_rowI rfl) ?_ | refine got (nth_row0 rfl) ?_ | refine got (nth_row2 rfl) ?_ | fail)
      have hh := h1 hm a cap
      unfold Steps at hh
      rw [startsOf_length] at hh
      exact Wk.mk fin hh
  · rw [decide_eq_false hm]
    repeat' (first | refine step ?_ | refine knowI fun hk => ?_ | refine got rfl ?_ | refine And.intro rfl ?_ | (refine And.intro (fun hc => ?_) (fun hc => ?_) <;> (try (exfalso; first | omega | (simp only [List.length_nil, List.length_cons] at hc; omega)))) | (refine And.intro ?_ ?_; focus omega) | (refine And.intro ?_ ?_; focus (simp only [List.length_map, List.length_set, List.length_replicate, List.length_append, List.length_range, List.length_cons, List.length_nil, Nat.blt_eq, Nat.ble_eq]; omega)) | refine anyB fun b => ?_ | refine got (nth_rowI rfl) ?_ | refine got (nth_row0 rfl) ?_ | refine got (nth_row2 rfl) ?_ | fail)
    refine retG Tryz.func13 rfl ?_
    repeat' (first | refine step ?_ | refine knowI fun hk => ?_ | refine got rfl ?_ | refine And.intro rfl ?_ | (refine And.intro (fun hc => ?_) (fun hc => ?_) <;> (try (exfalso; first | omega | (simp only [List.length_nil, List.length_cons] at hc; omega)))) | (refine And.intro ?_ ?_; focus omega) | (refine And.intro ?_ ?_; focus (simp only [List.length_map, List.length_set, List.length_replicate, List.length_append, List.length_range, List.length_cons, List.length_nil, Nat.blt_eq, Nat.ble_eq]; omega)) | refine anyB fun b => ?_ | refine got (nth_rowI rfl) ?_ | refine got (nth_row0 rfl) ?_ | refine got (nth_row2 rfl) ?_ | fail)
    exact Wk.mk fin (h0 hm)
set_option maxRecDepth 16000 in
theorem bStarts_spec {c : Cfg} (h0 : ¬ c.May → K (.tuple #[nilS, iv 1]) l) (h1 : c.May → ∀ a cap, K (.tuple #[.slice a c.nodes.toNat cap, iv 0]) (Steps (.slice a c.nodes.toNat cap) (startsOf c.nodes.toNat) :: l)) :
    CallG Tryz.prog w0 14 [.agg c.row.toArray].toArray l K := by
  refine CallG.weak (CallG.enter Tryz.func14 rfl rfl fun cs => ?_)
  repeat' (first | refine step ?_ | refine knowI fun hk => ?_ | refine got rfl ?_ | refine And.intro rfl ?_ | (refine And.intro (fun hc => ?_) (fun hc => ?_) <;> (try (exfalso; first | omega | (simp only [List.length_nil, List.length_cons] at hc; omega)))) | (refine And.intro ?_ ?_; focus omega) | (refine And.intro ?_ ?_; focus (simp only [List.length_map, List.length_set, List.length_replicate, List.length_append, List.length_range, List.length_cons, List.length_nil, Nat.blt_eq, Nat.ble_eq]; omega)) | refine anyB fun b => ?_ | refine got (nth_rowI rfl) ?_ | refine got (nth_row0 rfl) ?_ | refine got (nth_row2 rfl) ?_ | fail)
  refine bMay_spec ?_
  by_cases hm : c.May
  · rw [decide_eq_true hm]
    have hm0 := hm
    unfold Cfg.May at hm0
    repeat' (first | refine step ?_ | refine knowI fun hk => ?_ | refine got rfl ?_ | refine And.intro rfl ?_ | (refine And.intro (fun hc => ?_) (fun hc => ?_) <;> (try (exfalso; first | omega | (simp only [List.length_nil, List.length_cons] at hc; omega)))) | (refine And.intro ?_ ?_; focus omega) | (refine And.intro ?_ ?_; focus (simp only [List.length_map, List.length_set, List.length_replicate, List.length_append, List.length_range, List.length_cons, List.length_nil, Nat.blt_eq, Nat.ble_eq]; omega)) | refine anyB fun b => ?_ | refine got (nth_rowI rfl) ?_ | refine got (nth_row0 rfl) ?_ | refine got (nth_row2 rfl) ?_ | fail)
    generalize b = cb
    refine Run.loop (fun x : Nat × Option Addr × Nat => [(1, pt cb), (4, .slice x.2.1 x.1 x.2.2), (5, iv x.1)])
      (fun x => SlR (.slice x.2.1 x.1 x.2.2) 109 8 x.1 ((startsOf x.1).flatMap stRow) :: cells cb c.row 23 :: l) (fun x => x.1 ≤ c.nodes.toNat) (fun x => c.nodes.toNat - x.1) (0, none, 0) (Nat.zero_le _) (by repeat (first | exact Sub.nil _ | refine Sub.cons rfl ?_ | refine Sub.ci rfl (by omega) ?_)) (slr_nil 109 8 _) ?_
    rintro ⟨k, a, cap⟩ hk ih
    dsimp only at hk ih ⊢
    by_cases hlt : k < c.nodes.toNat
    · repeat' (first | refine step ?_ | refine knowI fun hk => ?_ | refine got rfl ?_ | refine And.intro rfl ?_ | (refine And.intro (fun hc => ?_) (fun hc => ?_) <;> (try (exfalso; first | omega | (simp only [List.length_nil, List.length_cons] at hc; omega)))) | (refine And.intro ?_ ?_; focus omega) | (refine And.intro ?_ ?_; focus (simp only [List.length_map, List.length_set, List.length_replicate, List.length_append, List.length_range, List.length_cons, List.length_nil, Nat.blt_eq, Nat.ble_eq]; omega)) | refine anyB fun b => ?_ | refine got (nth_rowI rfl) ?_ | refine got (nth_row0 rfl) ?_ | refine got (nth_row2 rfl) ?_ | fail)
      refine appendG rfl (by decide) (by omega) fun a2 cp2 => ?_
      repeat' (first | refine step ?_ | refine knowI fun hk => ?_ | refine got rfl ?_ | refine And.intro rfl ?_ | (refine And.intro (fun hc => ?_) (fun hc => ?_) <;> (try (exfalso; first | omega | (simp only [List.length_nil, List.length_cons] at hc; omega)))) | (refine And.intro ?_ ?_; focus omega) | (refine And.intro ?_ ?_; focus (simp only [List.length_map, List.length_set, List.length_replicate, List.length_append, List.length_range, List.length_cons, List.length_nil, Nat.blt_eq, Nat.ble_eq]; omega)) | refine anyB fun b => ?_ | refine got (nth_rowI rfl) ?_ | refine got (nth_row0 rfl) ?_ | refine got (nth_row2 rfl) ?_ | fail)
      refine Run.sub ?_ (Run.ent ?_ (ih (k + 1, a2, cp2) (by dsimp only; omega) (by dsimp only; omega)))
      · exact (by repeat (first | exact Sub.nil _ | refine Sub.cons rfl ?_ | refine Sub.ci rfl (by omega) ?_))
      · dsimp only
        rw [startsOf_succ, List.flatMap_append, List.flatMap_singleton]
        exact fin
    · obtain rfl : k = c.nodes.toNat := by omega
      repeat' (first | refine step ?_ | refine knowI fun hk => ?_ | refine got rfl ?_ | refine And.intro rfl ?_ | (refine And.intro (fun hc => ?_) (fun hc => ?_) <;> (try (exfalso; first | omega | (simp only [List.length_nil, List.length_cons] at hc; omega)))) | (refine And.intro ?_ ?_; focus omega) | (refine And.intro ?_ ?_; focus (simp only [List.length_map, List.length_set, List.length_replicate, List.length_append, List.length_range, List.length_cons, List.length_nil, Nat.blt_eq, Nat.ble_eq]; omega)) | refine anyB fun b => ?_ | refine got (nth_rowI rfl) ?_ | refine got (nth_row0 rfl) ?_ | refine got (nth_row2 rfl) ?_ | fail)
      refine retG Tryz.func14 rfl ?_
      repeat' (first | refine step ?_ | refine knowI fun hk => ?_ | refine got rfl ?_ | refine And.intro rfl ?_ | (refine And.intro (fun hc => ?_) (fun hc => ?_) <;> (try (exfalso; first | omega | (simp only [List.length_nil, List.length_cons] at hc; omega)))) | (refine And.intro ?_ ?_; focus omega) | (refine And.intro ?_ ?_; focus (simp only [List.length_map, List.length_set, List.length_replicate, List.length_append, List.length_range, List.length_cons, List.length_nil, Nat.blt_eq, Nat.ble_eq]; omega)) | refine anyB fun b => ?_ | refine got (nth_rowI rfl) ?_ | refine got (nth_row0 rfl) ?_ | refine got (nth_row2 rfl) ?_ | fail)
      have hh := h1 hm a cap
      unfold Steps at hh
      rw [startsOf_length] at hh
      exact Wk.mk fin hh
  · rw [decide_eq_false hm]
    repeat' (first | refine step ?_ | refine knowI fun hk => ?_ | refine got rfl ?_ | refine And.intro rfl ?_ | (refine And.intro (fun hc => ?_) (fun hc => ?_) <;> (try (exfalso; first | omega | (simp only [List.length_nil, List.length_cons] at hc; omega)))) | (refine And.intro ?_ ?_; focus omega) | (refine And.intro ?_ ?_; focus (simp only [List.length_map, List.length_set, List.length_replicate, List.length_append, List.length_range, List.length_cons, List.length_nil, Nat.blt_eq, Nat.ble_eq]; omega)) | refine anyB fun b => ?_ | refine got (nth_rowI rfl) ?_ | refine got (nth_row0 rfl) ?_ | refine got (nth_row2 rfl) ?_ | fail)
    refine retG Tryz.func14 rfl ?_
    repeat' (first | refine step ?_ | refine knowI fun hk => ?_ | refine got rfl ?_ | refine And.intro rfl ?_ | (refine And.intro (fun hc => ?_) (fun hc => ?_) <;> (try (exfalso; first | omega | (simp only [List.length_nil, List.length_cons] at hc; omega)))) | (refine And.intro ?_ ?_; focus omega) | (refine And.intro ?_ ?_; focus (simp only [List.length_map, List.length_set, List.length_replicate, List.length_append, List.length_range, List.length_cons, List.length_nil, Nat.blt_eq, Nat.ble_eq]; omega)) | refine anyB fun b => ?_ | refine got (nth_rowI rfl) ?_ | refine got (nth_row0 rfl) ?_ | refine got (nth_row2 rfl) ?_ | fail)
    exact Wk.mk fin (h0 hm)
set_option maxRecDepth 16000 in
theorem all_spec {ns : List Int} {v : Value} (hn : ns.length ≤ 1000) (hp : Rem l (Ints v ns) F) (h : ∀ a cap, K (.slice a (5 * ns.length) cap) (SlR (.slice a (5 * ns.length) cap) 109 8 (5 * ns.length) ((allOf ns).flatMap stRow) :: Ints v ns :: F)) :
    CallG Tryz.prog w0 41 [v].toArray l K := by
  refine CallG.ent hp.ent ?_
  refine CallG.weak (CallG.enter Tryz.func41 rfl rfl fun cs => ?_)
  refine Run.know (p := ∃ a cap, v = .slice a ns.length cap) (fun w hs => (slr_len hs).2) ?_
  rintro ⟨na, ncap, rfl⟩
  repeat' (first | refine step ?_ | refine knowI fun hk => ?_ | refine got rfl ?_ | refine And.intro rfl ?_ | (refine And.intro (fun hc => ?_) (fun hc => ?_) <;> (try (exfalso; first | omega | (simp only [List.length_nil, List.length_cons] at hc; omega)))) | (refine And.intro ?_ ?_; focus omega) | (refine And.intro ?_ ?_; focus (simp only [List.length_map, List.length_set, List.length_replicate, List.length_append, List.length_range, List.length_cons, List.length_nil, Nat.blt_eq, Nat.ble_eq]; omega)) | refine anyB fun b => ?_ | refine got (nth_rowI rfl) ?_ | refine got (nth_row0 rfl) ?_ | refine got (nth_row2 rfl) ?_ | fail)
  refine Run.loop (fun x : Nat × Option Addr × Nat => [(3, .slice x.2.1 (5 * x.1) x.2.2), (7, .slice na ns.length ncap), (8, .int .i64 ns.length), (9, iv x.1)])
    (fun x => SlR (.slice x.2.1 (5 * x.1) x.2.2) 109 8 (5 * x.1) ((allOf (ns.take x.1)).flatMap stRow) :: Ints (.slice na ns.length ncap) ns :: F) (fun x => x.1 ≤ ns.length) (fun x => ns.length - x.1) (0, none, 0) (Nat.zero_le _) (by repeat (first | exact Sub.nil _ | refine Sub.cons rfl ?_ | refine Sub.ci rfl (by omega) ?_)) (slr_nil 109 8 _) ?_
  rintro ⟨k, a, cap⟩ hk ih
  dsimp only at hk ih ⊢
  by_cases hlt : k < ns.length
  · haveI : RowAt ns k ns[k] := ⟨List.getElem?_eq_getElem hlt⟩
    refine openSl (.slice na ns.length ncap) (fun _ h0 _ => by omega) fun bl pre junk cap' hv hcap hjunk hlen => ?_
    obtain ⟨rfl, rfl⟩ : na = some ⟨bl, pre.length, none⟩ ∧ ncap = cap' := by simpa using hv
    repeat' (first | refine step ?_ | refine knowI fun hk => ?_ | refine got rfl ?_ | refine And.intro rfl ?_ | (refine And.intro (fun hc => ?_) (fun hc => ?_) <;> (try (exfalso; first | omega | (simp only [List.length_nil, List.length_cons] at hc; omega)))) | (refine And.intro ?_ ?_; focus omega) | (refine And.intro ?_ ?_; focus (simp only [List.length_map, List.length_set, List.length_replicate, List.length_append, List.length_range, List.length_cons, List.length_nil, Nat.blt_eq, Nat.ble_eq]; omega)) | refine anyB fun b => ?_ | refine got (nth_rowI rfl) ?_ | refine got (nth_row0 rfl) ?_ | refine got (nth_row2 rfl) ?_ | fail)
    refine appendG rfl (by decide) (by omega) fun a2 cp2 => ?_
    repeat' (first | refine step ?_ | refine knowI fun hk => ?_ | refine got rfl ?_ | refine And.intro rfl ?_ | (refine And.intro (fun hc => ?_) (fun hc => ?_) <;> (try (exfalso; first | omega | (simp only [List.length_nil, List.length_cons] at hc; omega)))) | (refine And.intro ?_ ?_; focus omega) | (refine And.intro ?_ ?_; focus (simp only [List.length_map, List.length_set, List.length_replicate, List.length_append, List.length_range, List.length_cons, List.length_nil, Nat.blt_eq, Nat.ble_eq]; omega)) | refine anyB fun b => ?_ | refine got (nth_rowI rfl) ?_ | refine got (nth_row0 rfl) ?_ | refine got (nth_row2 rfl) ?_ | fail)
    refine Run.sub ?_ (Run.ent ?_ (ih (k + 1, a2, cp2) (by dsimp only; omega) (by dsimp only; omega)))
    · exact (by repeat (first | exact Sub.nil _ | refine Sub.cons rfl ?_ | refine Sub.ci rfl (by omega) ?_))
    · dsimp only
      have e : (allOf (ns.take (k + 1))).flatMap stRow = (allOf (ns.take k)).flatMap stRow ++ (stRow (3, ns[k], 255) ++ stRow (3, ns[k], 255) ++ stRow (3, ns[k], 255) ++ stRow (3, ns[k], 255) ++ stRow (3, ns[k], 255)) := by
        rw [List.take_add_one, List.getElem?_eq_getElem hlt, Option.toList_some, allOf_snoc, List.flatMap_append]; rfl
      simp only [stRow, List.cons_append, List.nil_append] at e
      simp only [stRow] at *
      rw [Nat.mul_succ, e]
      exact Ent.trans (foldSl bl pre junk hlen hcap hjunk) fin
  · obtain rfl : k = ns.length := by omega
    repeat' (first | refine step ?_ | refine knowI fun hk => ?_ | refine got rfl ?_ | refine And.intro rfl ?_ | (refine And.intro (fun hc => ?_) (fun hc => ?_) <;> (try (exfalso; first | omega | (simp only [List.length_nil, List.length_cons] at hc; omega)))) | (refine And.intro ?_ ?_; focus omega) | (refine And.intro ?_ ?_; focus (simp only [List.length_map, List.length_set, List.length_replicate, List.length_append, List.length_range, List.length_cons, List.length_nil, Nat.blt_eq, Nat.ble_eq]; omega)) | refine anyB fun b => ?_ | refine got (nth_rowI rfl) ?_ | refine got (nth_row0 rfl) ?_ | refine got (nth_row2 rfl) ?_ | fail)
    refine retG Tryz.func41 rfl ?_
    repeat' (first | refine step ?_ | refine knowI fun hk => ?_ | refine got rfl ?_ | refine And.intro rfl ?_ | (refine And.intro (fun hc => ?_) (fun hc => ?_) <;> (try (exfalso; first | omega | (simp only [List.length_nil, List.length_cons] at hc; omega)))) | (refine And.intro ?_ ?_; focus omega) | (refine And.intro ?_ ?_; focus (simp only [List.length_map, List.length_set, List.length_replicate, List.length_append, List.length_range, List.length_cons, List.length_nil, Nat.blt_eq, Nat.ble_eq]; omega)) | refine anyB fun b => ?_ | refine got (nth_rowI rfl) ?_ | refine got (nth_row0 rfl) ?_ | refine got (nth_row2 rfl) ?_ | fail)
    have hh := h a cap
    rw [List.take_length]
    exact Wk.mk fin hh
theorem allOf_reps (k : Int) (j : Nat) : (List.replicate (j + 1) ((3, k, 255) : St)).flatMap stRow = (List.replicate j ((3, k, 255) : St)).flatMap stRow ++ stRow (3, k, 255) := by
  rw [List.replicate_succ', List.flatMap_append, List.flatMap_singleton]
theorem placesAt_length (k : Nat) : (placesAt k).length = k + 1 := by simp [placesAt, iota_length]
theorem placesAt_get {n k : Nat} (h : k ≤ n) : (placesAt n)[k]? = some (if k = n then -1 else (k : Int)) := by
  unfold placesAt
  by_cases e : k = n
  · subst e
    rw [List.getElem?_append_right (by rw [iota_length]; omega), iota_length, Nat.sub_self, if_pos rfl]; rfl
  · rw [List.getElem?_append_left (by rw [iota_length]; omega), if_neg e]
    simp [iota, show k < n by omega]
set_option maxRecDepth 16000 in
theorem ball_spec {c : Cfg} (hm : 1 ≤ c.nodes ∧ c.nodes ≤ 8) (h : ∀ a cap, K (.slice a (5 * (c.nodes.toNat + 1)) cap) (SlR (.slice a (5 * (c.nodes.toNat + 1)) cap) 109 8 (5 * (c.nodes.toNat + 1)) ((allOf (placesAt c.nodes.toNat)).flatMap stRow) :: l)) :
    CallG Tryz.prog w0 42 [.agg c.row.toArray].toArray l K := by
  refine CallG.weak (CallG.enter Tryz.func42 rfl rfl fun cs => ?_)
  repeat' (first | refine step ?_ | refine knowI fun hk => ?_ | refine got rfl ?_ | refine And.intro rfl ?_ | (refine And.intro (fun hc => ?_) (fun hc => ?_) <;> (try (exfalso; first | omega | (simp only [List.length_nil, List.length_cons] at hc; omega)))) | (refine And.intro ?_ ?_; focus omega) | (refine And.intro ?_ ?_; focus (simp only [List.length_map, List.length_set, List.length_replicate, List.length_append, List.length_range, List.length_cons, List.length_nil, Nat.blt_eq, Nat.ble_eq]; omega)) | refine anyB fun b => ?_ | refine got (nth_rowI rfl) ?_ | refine got (nth_row0 rfl) ?_ | refine got (nth_row2 rfl) ?_ | fail)
  generalize b = cb
  have hpl := placesAt_length c.nodes.toNat
  refine Run.loop (fun x : Nat × Option Addr × Nat => [(1, pt cb), (3, .slice x.2.1 (5 * x.1) x.2.2), (4, iv x.1)])
    (fun x => SlR (.slice x.2.1 (5 * x.1) x.2.2) 109 8 (5 * x.1) ((allOf ((placesAt c.nodes.toNat).take x.1)).flatMap stRow) :: cells cb c.row 23 :: l) (fun x => x.1 ≤ c.nodes.toNat + 1) (fun x => c.nodes.toNat + 1 - x.1) (0, none, 0) (Nat.zero_le _) (by repeat (first | exact Sub.nil _ | refine Sub.cons rfl ?_ | refine Sub.ci rfl (by omega) ?_)) (slr_nil 109 8 _) ?_
  rintro ⟨k, a, cap⟩ hk ih
  dsimp only at hk ih ⊢
  by_cases hlt : k < c.nodes.toNat + 1
  · have hg := placesAt_get (n := c.nodes.toNat) (k := k) (by omega)
    obtain ⟨pk, hpk⟩ : ∃ pk : Int, pk = if k = c.nodes.toNat then -1 else (k : Int) := ⟨_, rfl⟩
    rw [← hpk] at hg
    repeat' (first | refine step ?_ | refine knowI fun hk => ?_ | refine got rfl ?_ | refine And.intro rfl ?_ | (refine And.intro (fun hc => ?_) (fun hc => ?_) <;> (try (exfalso; first | omega | (simp only [List.length_nil, List.length_cons] at hc; omega)))) | (refine And.intro ?_ ?_; focus omega) | (refine And.intro ?_ ?_; focus (simp only [List.length_map, List.length_set, List.length_replicate, List.length_append, List.length_range, List.length_cons, List.length_nil, Nat.blt_eq, Nat.ble_eq]; omega)) | refine anyB fun b => ?_ | refine got (nth_rowI rfl) ?_ | refine got (nth_row0 rfl) ?_ | refine got (nth_row2 rfl) ?_ | fail)
    · obtain rfl : pk = -1 := by rw [hpk, if_pos (by omega)]
      refine Run.loop (fun x : Nat × Option Addr × Nat => [(1, pt cb), (3, .slice x.2.1 (5 * k + x.1) x.2.2), (4, iv k), (5, iv (-1)), (6, iv x.1)])
        (fun x => SlR (.slice x.2.1 (5 * k + x.1) x.2.2) 109 8 (5 * k + x.1) ((allOf ((placesAt c.nodes.toNat).take k)).flatMap stRow ++ (List.replicate x.1 ((3, -1, 255) : St)).flatMap stRow) :: cells cb c.row 23 :: l) (fun x => x.1 ≤ 5) (fun x => 5 - x.1) (0, a, cap) (Nat.zero_le _) (by repeat (first | exact Sub.nil _ | refine Sub.cons rfl ?_ | refine Sub.ci rfl (by omega) ?_)) (by rw [List.replicate_zero, List.flatMap_nil, List.append_nil]; exact fin) ?_
      rintro ⟨j, a3, cap3⟩ hj ih2
      dsimp only at hj ih2 ⊢
      by_cases hjlt : j < 5
      · repeat' (first | refine step ?_ | refine knowI fun hk => ?_ | refine got rfl ?_ | refine And.intro rfl ?_ | (refine And.intro (fun hc => ?_) (fun hc => ?_) <;> (try (exfalso; first | omega | (simp only [List.length_nil, List.length_cons] at hc; omega)))) | (refine And.intro ?_ ?_; focus omega) | (refine And.intro ?_ ?_; focus (simp only [List.length_map, List.length_set, List.length_replicate, List.length_append, List.length_range, List.length_cons, List.length_nil, Nat.blt_eq, Nat.ble_eq]; omega)) | refine anyB fun b => ?_ | refine got (nth_rowI rfl) ?_ | refine got (nth_row0 rfl) ?_ | refine got (nth_row2 rfl) ?_ | fail)
        refine appendG rfl (by decide) (by omega) fun a4 cp4 => ?_
        repeat' (first | refine step ?_ | refine knowI fun hk => ?_ | refine got rfl ?_ | refine And.intro rfl ?_ | (refine And.intro (fun hc => ?_) (fun hc => ?_) <;> (try (exfalso; first | omega | (simp only [List.length_nil, List.length_cons] at hc; omega)))) | (refine And.intro ?_ ?_; focus omega) | (refine And.intro ?_ ?_; focus (simp only [List.length_map, List.length_set, List.length_replicate, List.length_append, List.length_range, List.length_cons, List.length_nil, Nat.blt_eq, Nat.ble_eq]; omega)) | refine anyB fun b => ?_ | refine got (nth_rowI rfl) ?_ | refine got (nth_row0 rfl) ?_ | refine got (nth_row2 rfl) ?_ | fail)
        refine Run.sub ?_ (Run.ent ?_ (ih2 (j + 1, a4, cp4) (by dsimp only; omega) (by dsimp only; omega)))
        · exact (by repeat (first | exact Sub.nil _ | refine Sub.cons rfl ?_ | refine Sub.ci rfl (by omega) ?_))
        · dsimp only
          rw [allOf_reps, ← List.append_assoc]
          exact fin
      · obtain rfl : j = 5 := by omega
        repeat' (first | refine step ?_ | refine knowI fun hk => ?_ | refine got rfl ?_ | refine And.intro rfl ?_ | (refine And.intro (fun hc => ?_) (fun hc => ?_) <;> (try (exfalso; first | omega | (simp only [List.length_nil, List.length_cons] at hc; omega)))) | (refine And.intro ?_ ?_; focus omega) | (refine And.intro ?_ ?_; focus (simp only [List.length_map, List.length_set, List.length_replicate, List.length_append, List.length_range, List.length_cons, List.length_nil, Nat.blt_eq, Nat.ble_eq]; omega)) | refine anyB fun b => ?_ | refine got (nth_rowI rfl) ?_ | refine got (nth_row0 rfl) ?_ | refine got (nth_row2 rfl) ?_ | fail)
        refine Run.sub ?_ (Run.ent ?_ (ih (k + 1, a3, cap3) (by dsimp only; omega) (by dsimp only; omega)))
        · exact (by repeat (first | exact Sub.nil _ | refine Sub.cons rfl ?_ | refine Sub.ci rfl (by omega) ?_))
        · dsimp only
          rw [List.take_add_one, hg, Option.toList_some, allOf_snoc, List.flatMap_append]
          exact fin
    · obtain rfl : pk = (k : Int) := by rw [hpk, if_neg (by omega)]
      refine Run.loop (fun x : Nat × Option Addr × Nat => [(1, pt cb), (3, .slice x.2.1 (5 * k + x.1) x.2.2), (4, iv k), (5, iv k), (6, iv x.1)])
        (fun x => SlR (.slice x.2.1 (5 * k + x.1) x.2.2) 109 8 (5 * k + x.1) ((allOf ((placesAt c.nodes.toNat).take k)).flatMap stRow ++ (List.replicate x.1 ((3, (k : Int), 255) : St)).flatMap stRow) :: cells cb c.row 23 :: l) (fun x => x.1 ≤ 5) (fun x => 5 - x.1) (0, a, cap) (Nat.zero_le _) (by repeat (first | exact Sub.nil _ | refine Sub.cons rfl ?_ | refine Sub.ci rfl (by omega) ?_)) (by rw [List.replicate_zero, List.flatMap_nil, List.append_nil]; exact fin) ?_
      rintro ⟨j, a3, cap3⟩ hj ih2
      dsimp only at hj ih2 ⊢
      by_cases hjlt : j < 5
      · repeat' (first | refine step ?_ | refine knowI fun hk => ?_ | refine got rfl ?_ | refine And.intro rfl ?_ | (refine And.intro (fun hc => ?_) (fun hc => ?_) <;> (try (exfalso; first | omega | (simp only [List.length_nil, List.length_cons] at hc; omega)))) | (refine And.intro ?_ ?_; focus omega) | (refine And.intro ?_ ?_; focus (simp only [List.length_map, List.length_set, List.length_replicate, List.length_append, List.length_range, List.length_cons, List.length_nil, Nat.blt_eq, Nat.ble_eq]; omega)) | refine anyB fun b => ?_ | refine got (nth_rowI rfl) ?_ | refine got (nth_row0 rfl) ?_ | refine got (nth_row2 rfl) ?_ | fail)
        refine appendG rfl (by decide) (by omega) fun a4 cp4 => ?_
        repeat' (first | refine step ?_ | refine knowI fun hk => ?_ | refine got rfl ?_ | refine And.intro rfl ?_ | (refine And.intro (fun hc => ?_) (fun hc => ?_) <;> (try (exfalso; first | omega | (simp only [List.length_nil, List.length_cons] at hc; omega)))) | (refine And.intro ?_ ?_; focus omega) | (refine And.intro ?_ ?_; focus (simp only [List.length_map, List.length_set, List.length_replicate, List.length_append, List.length_range, List.length_cons, List.length_nil, Nat.blt_eq, Nat.ble_eq]; omega)) | refine anyB fun b => ?_ | refine got (nth_rowI rfl) ?_ | refine got (nth_row0 rfl) ?_ | refine got (nth_row2 rfl) ?_ | fail)
        refine Run.sub ?_ (Run.ent ?_ (ih2 (j + 1, a4, cp4) (by dsimp only; omega) (by dsimp only; omega)))
        · exact (by repeat (first | exact Sub.nil _ | refine Sub.cons rfl ?_ | refine Sub.ci rfl (by omega) ?_))
        · dsimp only
          rw [allOf_reps, ← List.append_assoc]
          exact fin
      · obtain rfl : j = 5 := by omega
        repeat' (first | refine step ?_ | refine knowI fun hk => ?_ | refine got rfl ?_ | refine And.intro rfl ?_ | (refine And.intro (fun hc => ?_) (fun hc => ?_) <;> (try (exfalso; first | omega | (simp only [List.length_nil, List.length_cons] at hc; omega)))) | (refine And.intro ?_ ?_; focus omega) | (refine And.intro ?_ ?_; focus (simp only [List.length_map, List.length_set, List.length_replicate, List.length_append, List.length_range, List.length_cons, List.length_nil, Nat.blt_eq, Nat.ble_eq]; omega)) | refine anyB fun b => ?_ | refine got (nth_rowI rfl) ?_ | refine got (nth_row0 rfl) ?_ | refine got (nth_row2 rfl) ?_ | fail)
        refine Run.sub ?_ (Run.ent ?_ (ih (k + 1, a3, cap3) (by dsimp only; omega) (by dsimp only; omega)))
        · exact (by repeat (first | exact Sub.nil _ | refine Sub.cons rfl ?_ | refine Sub.ci rfl (by omega) ?_))
        · dsimp only
          rw [List.take_add_one, hg, Option.toList_some, allOf_snoc, List.flatMap_append]
          exact fin
  · obtain rfl : k = c.nodes.toNat + 1 := by omega
    repeat' (first | refine step ?_ | refine knowI fun hk => ?_ | refine got rfl ?_ | refine And.intro rfl ?_ | (refine And.intro (fun hc => ?_) (fun hc => ?_) <;> (try (exfalso; first | omega | (simp only [List.length_nil, List.length_cons] at hc; omega)))) | (refine And.intro ?_ ?_; focus omega) | (refine And.intro ?_ ?_; focus (simp only [List.length_map, List.length_set, List.length_replicate, List.length_append, List.length_range, List.length_cons, List.length_nil, Nat.blt_eq, Nat.ble_eq]; omega)) | refine anyB fun b => ?_ | refine got (nth_rowI rfl) ?_ | refine got (nth_row0 rfl) ?_ | refine got (nth_row2 rfl) ?_ | fail)
    refine retG Tryz.func42 rfl ?_
    repeat' (first | refine step ?_ | refine knowI fun hk => ?_ | refine got rfl ?_ | refine And.intro rfl ?_ | (refine And.intro (fun hc => ?_) (fun hc => ?_) <;> (try (exfalso; first | omega | (simp only [List.length_nil, List.length_cons] at hc; omega)))) | (refine And.intro ?_ ?_; focus omega) | (refine And.intro ?_ ?_; focus (simp only [List.length_map, List.length_set, List.length_replicate, List.length_append, List.length_range, List.length_cons, List.length_nil, Nat.blt_eq, Nat.ble_eq]; omega)) | refine anyB fun b => ?_ | refine got (nth_rowI rfl) ?_ | refine got (nth_row0 rfl) ?_ | refine got (nth_row2 rfl) ?_ | fail)
    have hh := h a cap
    rw [List.take_of_length_le (by omega)]
    exact Wk.mk fin hh
end
end Go.Sl
