/- How long it takes (package calm), and the document's answer for it (package ploverrounds). -/
import Derived.Test.YtbolfohdcjpgoaaGreatDoorCluster
set_option linter.unusedSimpArgs false
set_option linter.unusedVariables false
set_option linter.unusedSectionVars false
open Go Go.RowKit
namespace Go.Sl
open Go.Proofs
/-- a step: its kind, where, how many more -/
abbrev St := Int × Int × Int
abbrev stRow (s : St) : List Value := [iv s.1, iv s.2.1, iv 0, iv s.2.2, iv 0, iv 0, nilS, iv 0]
instance : RowLen stRow 8 := ⟨fun _ => rfl⟩
abbrev Steps (v : Value) (l : List St) : HP := SlR v 109 8 l.length (l.flatMap stRow)
theorem st_one (l : List St) : (l.flatMap stRow).all Value.oneCell' = true := by
  rw [List.all_eq_true]; intro x hx
  rw [List.mem_flatMap] at hx
  obtain ⟨s, _, hx⟩ := hx
  simp only [stRow, List.mem_cons, List.not_mem_nil, or_false] at hx
  rcases hx with rfl | rfl | rfl | rfl | rfl | rfl | rfl | rfl <;> rfl
def startsOf (k : Nat) : List St := (iota k).map fun n => (9, n, 0)
theorem startsOf_length (k : Nat) : (startsOf k).length = k := by simp [startsOf, iota_length]
theorem startsOf_succ (k : Nat) : startsOf (k + 1) = startsOf k ++ [(9, (k : Int), 0)] := by simp [startsOf, iota_succ]
def allOf (l : List Int) : List St := l.flatMap fun k => List.replicate 5 (3, k, 255)
theorem allOf_length : ∀ l : List Int, (allOf l).length = 5 * l.length
  | [] => rfl
  | k :: l => by
    have := allOf_length l
    unfold allOf at this ⊢
    rw [List.flatMap_cons, List.length_append, this]; simp; omega
theorem allOf_snoc (l : List Int) (k : Int) : allOf (l ++ [k]) = allOf l ++ List.replicate 5 (3, k, 255) := by simp [allOf]
def placesAt (k : Nat) : List Int := iota k ++ [-1]
def roundOf (k : Nat) : List St := (7, 0, 0) :: (allOf (placesAt k) ++ allOf (placesAt k))
section
variable {w0 : World} {l F F1 : HL} {K : Value → HL → Prop}
set_option maxRecDepth 16000 in
theorem calmMay_spec [Laid w0] {c : Cfg} (h : K (.bool (decide c.May)) l) : CallG Tryz.prog w0 40 [.agg c.row.toArray].toArray l K := by
  refine CallG.weak (CallG.enter Tryz.func40 rfl rfl fun cs => ?_)
  by_cases hb : 16 ≤ c.blocks ∧ c.blocks ≤ 16384
  · repeat' (first | refine step ?_ | refine knowI fun hk => ?_ | refine got rfl ?_ | refine And.intro rfl ?_ | (refine And.intro (fun hc => ?_) (fun hc => ?_) <;> (try (exfalso; first | omega | (simp only [List.length_nil, List.length_cons] at hc; omega)))) | (refine And.intro ?_ ?_; focus omega) | (refine And.intro ?_ ?_; focus (simp only [List.length_map, List.length_set, List.length_replicate, List.length_append, List.length_range, List.length_cons, List.length_nil, Nat.blt_eq, Nat.ble_eq]; omega)) | refine anyB fun b => ?_ | refine got (nth_rowI rfl) ?_ | refine got (nth_row0 rfl) ?_ | refine got (nth_row2 rfl) ?_ | fail)
    obtain ⟨c', hc'⟩ : ∃ c' : Cfg, c' = { c with blocks := 16 } := ⟨_, rfl⟩
    have hiff : ({ c with blocks := 16 } : Cfg).May ↔ c.May := by simp only [Cfg.May]; omega
    refine ClusterNew_spec (c := { c with blocks := 16 }) ?_ ?_
    · intro hm
      rw [hiff] at hm
      rw [decide_eq_false hm] at h
      repeat' (first | refine step ?_ | refine knowI fun hk => ?_ | refine got rfl ?_ | refine And.intro rfl ?_ | (refine And.intro (fun hc => ?_) (fun hc => ?_) <;> (try (exfalso; first | omega | (simp only [List.length_nil, List.length_cons] at hc; omega)))) | (refine And.intro ?_ ?_; focus omega) | (refine And.intro ?_ ?_; focus (simp only [List.length_map, List.length_set, List.length_replicate, List.length_append, List.length_range, List.length_cons, List.length_nil, Nat.blt_eq, Nat.ble_eq]; omega)) | refine anyB fun b => ?_ | refine got (nth_rowI rfl) ?_ | refine got (nth_row0 rfl) ?_ | refine got (nth_row2 rfl) ?_ | fail)
      refine retG Tryz.func40 rfl ?_
      repeat' (first | refine step ?_ | refine knowI fun hk => ?_ | refine got rfl ?_ | refine And.intro rfl ?_ | (refine And.intro (fun hc => ?_) (fun hc => ?_) <;> (try (exfalso; first | omega | (simp only [List.length_nil, List.length_cons] at hc; omega)))) | (refine And.intro ?_ ?_; focus omega) | (refine And.intro ?_ ?_; focus (simp only [List.length_map, List.length_set, List.length_replicate, List.length_append, List.length_range, List.length_cons, List.length_nil, Nat.blt_eq, Nat.ble_eq]; omega)) | refine anyB fun b => ?_ | refine got (nth_rowI rfl) ?_ | refine got (nth_row0 rfl) ?_ | refine got (nth_row2 rfl) ?_ | fail)
      exact Wk.mk fin h
    · intro hm x homes pl r rd a1 a2 a3 c1 c2 c3 nds h1 h2 h3 h4
      rw [hiff] at hm
      rw [decide_eq_true hm] at h
      repeat' (first | refine step ?_ | refine knowI fun hk => ?_ | refine got rfl ?_ | refine And.intro rfl ?_ | (refine And.intro (fun hc => ?_) (fun hc => ?_) <;> (try (exfalso; first | omega | (simp only [List.length_nil, List.length_cons] at hc; omega)))) | (refine And.intro ?_ ?_; focus omega) | (refine And.intro ?_ ?_; focus (simp only [List.length_map, List.length_set, List.length_replicate, List.length_append, List.length_range, List.length_cons, List.length_nil, Nat.blt_eq, Nat.ble_eq]; omega)) | refine anyB fun b => ?_ | refine got (nth_rowI rfl) ?_ | refine got (nth_row0 rfl) ?_ | refine got (nth_row2 rfl) ?_ | fail)
      refine retG Tryz.func40 rfl ?_
      repeat' (first | refine step ?_ | refine knowI fun hk => ?_ | refine got rfl ?_ | refine And.intro rfl ?_ | (refine And.intro (fun hc => ?_) (fun hc => ?_) <;> (try (exfalso; first | omega | (simp only [List.length_nil, List.length_cons] at hc; omega)))) | (refine And.intro ?_ ?_; focus omega) | (refine And.intro ?_ ?_; focus (simp only [List.length_map, List.length_set, List.length_replicate, List.length_append, List.length_range, List.length_cons, List.length_nil, Nat.blt_eq, Nat.ble_eq]; omega)) | refine anyB fun b => ?_ | refine got (nth_rowI rfl) ?_ | refine got (nth_row0 rfl) ?_ | refine got (nth_row2 rfl) ?_ | fail)
      exact Wk.mk fin h
  · have hm : ¬ c.May := by unfold Cfg.May; omega
    rw [decide_eq_false hm] at h
    repeat' (first | refine step ?_ | refine knowI fun hk => ?_ | refine got rfl ?_ | refine And.intro rfl ?_ | (refine And.intro (fun hc => ?_) (fun hc => ?_) <;> (try (exfalso; first | omega | (simp only [List.length_nil, List.length_cons] at hc; omega)))) | (refine And.intro ?_ ?_; focus omega) | (refine And.intro ?_ ?_; focus (simp only [List.length_map, List.length_set, List.length_replicate, List.length_append, List.length_range, List.length_cons, List.length_nil, Nat.blt_eq, Nat.ble_eq]; omega)) | refine anyB fun b => ?_ | refine got (nth_rowI rfl) ?_ | refine got (nth_row0 rfl) ?_ | refine got (nth_row2 rfl) ?_ | fail)
    all_goals (refine retG Tryz.func40 rfl ?_)
    all_goals repeat' (first | refine step ?_ | refine knowI fun hk => ?_ | refine got rfl ?_ | refine And.intro rfl ?_ | (refine And.intro (fun hc => ?_) (fun hc => ?_) <;> (try (exfalso; first | omega | (simp only [List.length_nil, List.length_cons] at hc; omega)))) | (refine And.intro ?_ ?_; focus omega) | (refine And.intro ?_ ?_; focus (simp only [List.length_map, List.length_set, List.length_replicate, List.length_append, List.length_range, List.length_cons, List.length_nil, Nat.blt_eq, Nat.ble_eq]; omega)) | refine anyB fun b => ?_ | refine got (nth_rowI rfl) ?_ | refine got (nth_row0 rfl) ?_ | refine got (nth_row2 rfl) ?_ | fail)
    all_goals exact Wk.mk fin h
set_option maxRecDepth 100000 in
set_option maxHeartbeats 4000000 in
set_option synthInstance.maxHeartbeats 2000000 in
theorem bMay_spec {c : Cfg} (h : K (.bool (decide c.May)) l) : CallG Tryz.prog w0 28 [.agg c.row.toArray].toArray l K := by
  refine CallG.weak (CallG.enter Tryz.func28 rfl rfl fun cs => ?_)
  repeat' (first | refine step ?_ | refine knowI fun hk => ?_ | refine got rfl ?_ | refine And.intro rfl ?_ | (refine And.intro (fun hc => ?_) (fun hc => ?_) <;> (try (exfalso; first | omega | (simp only [List.length_nil, List.length_cons] at hc; omega)))) | (refine And.intro ?_ ?_; focus omega) | (refine And.intro ?_ ?_; focus (simp only [List.length_map, List.length_set, List.length_replicate, List.length_append, List.length_range, List.length_cons, List.length_nil, Nat.blt_eq, Nat.ble_eq]; omega)) | refine anyB fun b => ?_ | refine got (nth_rowI rfl) ?_ | refine got (nth_row0 rfl) ?_ | refine got (nth_row2 rfl) ?_ | fail)
  refine RunL.norm (by simp only [List.append]; rfl) ?_
  repeat' (first | refine step ?_ | refine knowI fun hk => ?_ | refine got rfl ?_ | refine And.intro rfl ?_ | (refine And.intro (fun hc => ?_) (fun hc => ?_) <;> (try (exfalso; first | omega | (simp only [List.length_nil, List.length_cons] at hc; omega)))) | (refine And.intro ?_ ?_; focus omega) | (refine And.intro ?_ ?_; focus (simp only [List.length_map, List.length_set, List.length_replicate, List.length_append, List.length_range, List.length_cons, List.length_nil, Nat.blt_eq, Nat.ble_eq]; omega)) | refine anyB fun b => ?_ | refine got (nth_rowI rfl) ?_ | refine got (nth_row0 rfl) ?_ | refine got (nth_row2 rfl) ?_ | fail)
  all_goals (refine retG Tryz.func28 rfl ?_)
  all_goals repeat' (first | refine step ?_ | refine knowI fun hk => ?_ | refine got rfl ?_ | refine And.intro rfl ?_ | (refine And.intro (fun hc => ?_) (fun hc => ?_) <;> (try (exfalso; first | omega | (simp only [List.length_nil, List.length_cons] at hc; omega)))) | (refine And.intro ?_ ?_; focus omega) | (refine And.intro ?_ ?_; focus (simp only [List.length_map, List.length_set, List.length_replicate, List.length_append, List.length_range, List.length_cons, List.length_nil, Nat.blt_eq, Nat.ble_eq]; omega)) | refine anyB fun b => ?_ | refine got (nth_rowI rfl) ?_ | refine got (nth_row0 rfl) ?_ | refine got (nth_row2 rfl) ?_ | fail)
  all_goals (refine Wk.mk (Ent.drop (.refl _)) ?_)
  · have e : decide c.May = decide (c.wait ≤ 1000) := decide_eq_decide.2 (by unfold Cfg.May; omega)
    rw [e] at h; exact h
  all_goals (rw [show decide c.May = false from decide_eq_false (by unfold Cfg.May; omega)] at h; exact h)
/-- how many rounds -/
def roundsOf (c : Cfg) (a m : Int) : Int × Int := if c.May ∧ 0 ≤ a ∧ a ≤ 1048576 ∧ 0 ≤ m ∧ m ≤ 16 then (40 + 20 * m + (4 + 2 * c.wait) * (a + 1), 0) else (0, 1)
end
end Go.Sl
