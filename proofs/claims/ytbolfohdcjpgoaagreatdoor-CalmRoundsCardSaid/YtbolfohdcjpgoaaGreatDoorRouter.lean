/- A router (package router) that is new; wheel.New, road.New, chart.Check of a chart that may be. -/
import Derived.Test.YtbolfohdcjpgoaaGreatDoorRingB
import Derived.Test.YtbolfohdcjpgoaaGreatDoorSlC
import Derived.Test.YtbolfohdcjpgoaaGreatDoorNode
set_option linter.unusedSimpArgs false
set_option linter.unusedVariables false
set_option linter.unusedSectionVars false
open Go Go.RowKit
namespace Go.Sl
open Go.Proofs
section
variable {w0 : World} {l F F1 : HL} {K : Value → HL → Prop}
def oddC (n : Int) : Bool := decide (n < 0) || decide (n ≥ 8)
theorem chk1_spec {x : Int} (h : K (.bool (oddC x)) l) : CallG Tryz.prog w0 182 [iv x].toArray l K := by
  refine CallG.enter Tryz.func182 rfl rfl fun cs => ?_
  repeat' (first | refine step ?_ | refine knowI fun hk => ?_ | refine got rfl ?_ | refine And.intro rfl ?_ | (refine And.intro (fun hc => ?_) (fun hc => ?_) <;> (try (exfalso; first | omega | (simp only [List.length_nil, List.length_cons] at hc; omega)))) | (refine And.intro ?_ ?_; focus omega) | (refine And.intro ?_ ?_; focus (simp only [List.length_map, List.length_set, List.length_replicate, List.length_append, List.length_range, List.length_cons, List.length_nil, Nat.blt_eq, Nat.ble_eq]; omega)) | refine anyB fun b => ?_ | refine got (nth_rowI rfl) ?_ | refine got (nth_row0 rfl) ?_ | refine got (nth_row2 rfl) ?_ | fail)
  · refine retG Tryz.func182 rfl ?_
    repeat' (first | refine step ?_ | refine knowI fun hk => ?_ | refine got rfl ?_ | refine And.intro rfl ?_ | (refine And.intro (fun hc => ?_) (fun hc => ?_) <;> (try (exfalso; first | omega | (simp only [List.length_nil, List.length_cons] at hc; omega)))) | (refine And.intro ?_ ?_; focus omega) | (refine And.intro ?_ ?_; focus (simp only [List.length_map, List.length_set, List.length_replicate, List.length_append, List.length_range, List.length_cons, List.length_nil, Nat.blt_eq, Nat.ble_eq]; omega)) | refine anyB fun b => ?_ | refine got (nth_rowI rfl) ?_ | refine got (nth_row0 rfl) ?_ | refine got (nth_row2 rfl) ?_ | fail)
    simpa [oddC, hc, one] using h
  · refine retG Tryz.func182 rfl ?_
    repeat' (first | refine step ?_ | refine knowI fun hk => ?_ | refine got rfl ?_ | refine And.intro rfl ?_ | (refine And.intro (fun hc => ?_) (fun hc => ?_) <;> (try (exfalso; first | omega | (simp only [List.length_nil, List.length_cons] at hc; omega)))) | (refine And.intro ?_ ?_; focus omega) | (refine And.intro ?_ ?_; focus (simp only [List.length_map, List.length_set, List.length_replicate, List.length_append, List.length_range, List.length_cons, List.length_nil, Nat.blt_eq, Nat.ble_eq]; omega)) | refine anyB fun b => ?_ | refine got (nth_rowI rfl) ?_ | refine got (nth_row0 rfl) ?_ | refine got (nth_row2 rfl) ?_ | fail)
    simpa [oddC, hc, one] using h
theorem ChartCheck_ok {ns : List Int} {ep : Int} {a : Option Addr} {cap : Nat} (hin : ∀ x ∈ ns, 0 ≤ x ∧ x < 8) (h1 : 1 ≤ ep ∧ ep ≤ 1099511627776) (h2 : 1 ≤ ns.length ∧ ns.length ≤ 16)
    (hp : Rem l (Ints (.slice a ns.length cap) ns) F) (h : K (iv 0) (Ints (.slice a ns.length cap) ns :: F)) :
    CallG Tryz.prog w0 146 [.agg #[iv ep, .slice a ns.length cap]].toArray l K := by
  refine CallG.ent hp.ent ?_
  refine CallG.weak (CallG.enter Tryz.func146 rfl rfl fun cs => ?_)
  repeat' (first | refine step ?_ | refine knowI fun hk => ?_ | refine got rfl ?_ | refine And.intro rfl ?_ | (refine And.intro (fun hc => ?_) (fun hc => ?_) <;> (try (exfalso; first | omega | (simp only [List.length_nil, List.length_cons] at hc; omega)))) | (refine And.intro ?_ ?_; focus omega) | (refine And.intro ?_ ?_; focus (simp only [List.length_map, List.length_set, List.length_replicate, List.length_append, List.length_range, List.length_cons, List.length_nil, Nat.blt_eq, Nat.ble_eq]; omega)) | refine anyB fun b => ?_ | refine got (nth_rowI rfl) ?_ | refine got (nth_row0 rfl) ?_ | refine got (nth_row2 rfl) ?_ | fail)
  refine ContainsFunc_spec (caps := []) (p := oddC) (fun x hx => by have := hin x hx; unfold InR; omega) (fun x _ l K h => chk1_spec h) (by omega) (.there .here) ?_
  have e : ns.any oddC = false := by
    rw [List.any_eq_false]; intro x hx; have := hin x hx; simp [oddC]; omega
  rw [e]
  repeat' (first | refine step ?_ | refine knowI fun hk => ?_ | refine got rfl ?_ | refine And.intro rfl ?_ | (refine And.intro (fun hc => ?_) (fun hc => ?_) <;> (try (exfalso; first | omega | (simp only [List.length_nil, List.length_cons] at hc; omega)))) | (refine And.intro ?_ ?_; focus omega) | (refine And.intro ?_ ?_; focus (simp only [List.length_map, List.length_set, List.length_replicate, List.length_append, List.length_range, List.length_cons, List.length_nil, Nat.blt_eq, Nat.ble_eq]; omega)) | refine anyB fun b => ?_ | refine got (nth_rowI rfl) ?_ | refine got (nth_row0 rfl) ?_ | refine got (nth_row2 rfl) ?_ | fail)
  refine retG Tryz.func146 rfl ?_
  repeat' (first | refine step ?_ | refine knowI fun hk => ?_ | refine got rfl ?_ | refine And.intro rfl ?_ | (refine And.intro (fun hc => ?_) (fun hc => ?_) <;> (try (exfalso; first | omega | (simp only [List.length_nil, List.length_cons] at hc; omega)))) | (refine And.intro ?_ ?_; focus omega) | (refine And.intro ?_ ?_; focus (simp only [List.length_map, List.length_set, List.length_replicate, List.length_append, List.length_range, List.length_cons, List.length_nil, Nat.blt_eq, Nat.ble_eq]; omega)) | refine anyB fun b => ?_ | refine got (nth_rowI rfl) ?_ | refine got (nth_row0 rfl) ?_ | refine got (nth_row2 rfl) ?_ | fail)
  exact Wk.mk (Ent.cons _ (Ent.drop (.refl _))) h
set_option maxRecDepth 8000 in
theorem CloneInt_spec {ns : List Int} {v : Value} (hn : ns.length ≤ 1000000) (hp : Rem l (Ints v ns) F) (h : ∀ a cap, K (.slice a ns.length cap) (Ints (.slice a ns.length cap) ns :: Ints v ns :: F)) :
    CallG Tryz.prog w0 110 [v].toArray l K := by
  intro w hs
  have hs0 := hs.ent hp.ent
  obtain ⟨hl, hv⟩ := sat_slr hs0
  rcases hv with ⟨rfl, h0, hs1⟩ | ⟨b, pre, junk, cap, rfl, h2, h3, hs1⟩
  · have hns : ns = [] := List.eq_nil_of_length_eq_zero h0
    subst hns
    refine (show CallG Tryz.prog w0 110 [.slice none 0 0].toArray (Ints (.slice none 0 0) [] :: F) K from ?_) w hs0
    refine CallG.weak (CallG.enter Tryz.func110 rfl rfl fun cs => ?_)
    repeat' (first | refine step ?_ | refine knowI fun hk => ?_ | refine got rfl ?_ | refine And.intro rfl ?_ | (refine And.intro (fun hc => ?_) (fun hc => ?_) <;> (try (exfalso; first | omega | (simp only [List.length_nil, List.length_cons] at hc; omega)))) | (refine And.intro ?_ ?_; focus omega) | (refine And.intro ?_ ?_; focus (simp only [List.length_map, List.length_set, List.length_replicate, List.length_append, List.length_range, List.length_cons, List.length_nil, Nat.blt_eq, Nat.ble_eq]; omega)) | refine anyB fun b => ?_ | refine got (nth_rowI rfl) ?_ | refine got (nth_row0 rfl) ?_ | refine got (nth_row2 rfl) ?_ | fail)
    refine retG Tryz.func110 rfl ?_
    repeat' (first | refine step ?_ | refine knowI fun hk => ?_ | refine got rfl ?_ | refine And.intro rfl ?_ | (refine And.intro (fun hc => ?_) (fun hc => ?_) <;> (try (exfalso; first | omega | (simp only [List.length_nil, List.length_cons] at hc; omega)))) | (refine And.intro ?_ ?_; focus omega) | (refine And.intro ?_ ?_; focus (simp only [List.length_map, List.length_set, List.length_replicate, List.length_append, List.length_range, List.length_cons, List.length_nil, Nat.blt_eq, Nat.ble_eq]; omega)) | refine anyB fun b => ?_ | refine got (nth_rowI rfl) ?_ | refine got (nth_row0 rfl) ?_ | refine got (nth_row2 rfl) ?_ | fail)
    exact Wk.mk (slr_nil 3 1 _) (h none 0)
  · refine (show CallG Tryz.prog w0 110 [.slice (some ⟨b, pre.length, none⟩) ns.length cap].toArray (Ints (.slice (some ⟨b, pre.length, none⟩) ns.length cap) ns :: F) K from ?_) w hs0
    refine CallG.weak (CallG.enter Tryz.func110 rfl rfl fun cs => ?_)
    repeat' (first | refine step ?_ | refine knowI fun hk => ?_ | refine got rfl ?_ | refine And.intro rfl ?_ | (refine And.intro (fun hc => ?_) (fun hc => ?_) <;> (try (exfalso; first | omega | (simp only [List.length_nil, List.length_cons] at hc; omega)))) | (refine And.intro ?_ ?_; focus omega) | (refine And.intro ?_ ?_; focus (simp only [List.length_map, List.length_set, List.length_replicate, List.length_append, List.length_range, List.length_cons, List.length_nil, Nat.blt_eq, Nat.ble_eq]; omega)) | refine anyB fun b => ?_ | refine got (nth_rowI rfl) ?_ | refine got (nth_row0 rfl) ?_ | refine got (nth_row2 rfl) ?_ | fail)
    refine BltG.ent (slr_all (n := 0) (sz := 1) rfl _) ?_
    refine appendG (by rw [List.all_eq_true]; intro x hx; rw [List.mem_map] at hx; obtain ⟨y, _, rfl⟩ := hx; rfl) (by decide) (by omega) fun a' cp' => ?_
    repeat' (first | refine step ?_ | refine knowI fun hk => ?_ | refine got rfl ?_ | refine And.intro rfl ?_ | (refine And.intro (fun hc => ?_) (fun hc => ?_) <;> (try (exfalso; first | omega | (simp only [List.length_nil, List.length_cons] at hc; omega)))) | (refine And.intro ?_ ?_; focus omega) | (refine And.intro ?_ ?_; focus (simp only [List.length_map, List.length_set, List.length_replicate, List.length_append, List.length_range, List.length_cons, List.length_nil, Nat.blt_eq, Nat.ble_eq]; omega)) | refine anyB fun b => ?_ | refine got (nth_rowI rfl) ?_ | refine got (nth_row0 rfl) ?_ | refine got (nth_row2 rfl) ?_ | fail)
    refine retG Tryz.func110 rfl ?_
    repeat' (first | refine step ?_ | refine knowI fun hk => ?_ | refine got rfl ?_ | refine And.intro rfl ?_ | (refine And.intro (fun hc => ?_) (fun hc => ?_) <;> (try (exfalso; first | omega | (simp only [List.length_nil, List.length_cons] at hc; omega)))) | (refine And.intro ?_ ?_; focus omega) | (refine And.intro ?_ ?_; focus (simp only [List.length_map, List.length_set, List.length_replicate, List.length_append, List.length_range, List.length_cons, List.length_nil, Nat.blt_eq, Nat.ble_eq]; omega)) | refine anyB fun b => ?_ | refine got (nth_rowI rfl) ?_ | refine got (nth_row0 rfl) ?_ | refine got (nth_row2 rfl) ?_ | fail)
    simp only [Nat.zero_add, List.nil_append]
    exact Wk.mk fin (h a' cp')
/-- a wheel without timers -/
def Wheel0 (b : Nat) : HP := ex fun x : Nat × Nat => all [cells b [iv 0, .map (some x.1), .map (some x.2)] 317, obj x.1 (.map #[] 0), obj x.2 (.map #[] 0)]
theorem WheelNew_spec (h : ∀ b, K (pt b) (Wheel0 b :: l)) : CallG Tryz.prog w0 147 [].toArray l K := by
  refine CallG.weak (CallG.enter Tryz.func147 rfl rfl fun cs => ?_)
  repeat' (first | refine step ?_ | refine knowI fun hk => ?_ | refine got rfl ?_ | refine And.intro rfl ?_ | (refine And.intro (fun hc => ?_) (fun hc => ?_) <;> (try (exfalso; first | omega | (simp only [List.length_nil, List.length_cons] at hc; omega)))) | (refine And.intro ?_ ?_; focus omega) | (refine And.intro ?_ ?_; focus (simp only [List.length_map, List.length_set, List.length_replicate, List.length_append, List.length_range, List.length_cons, List.length_nil, Nat.blt_eq, Nat.ble_eq]; omega)) | refine anyB fun b => ?_ | refine got (nth_rowI rfl) ?_ | refine got (nth_row0 rfl) ?_ | refine got (nth_row2 rfl) ?_ | fail)
  rename_i m1 m2
  refine retG Tryz.func147 rfl ?_
  repeat' (first | refine step ?_ | refine knowI fun hk => ?_ | refine got rfl ?_ | refine And.intro rfl ?_ | (refine And.intro (fun hc => ?_) (fun hc => ?_) <;> (try (exfalso; first | omega | (simp only [List.length_nil, List.length_cons] at hc; omega)))) | (refine And.intro ?_ ?_; focus omega) | (refine And.intro ?_ ?_; focus (simp only [List.length_map, List.length_set, List.length_replicate, List.length_append, List.length_range, List.length_cons, List.length_nil, Nat.blt_eq, Nat.ble_eq]; omega)) | refine anyB fun b => ?_ | refine got (nth_rowI rfl) ?_ | refine got (nth_row0 rfl) ?_ | refine got (nth_row2 rfl) ?_ | fail)
  refine Wk.mk ?_ (h b)
  refine Ent.trans ?_ (ent_ex (fun x : Nat × Nat => all [cells b [iv 0, .map (some x.1), .map (some x.2)] 317, obj x.1 (.map #[] 0), obj x.2 (.map #[] 0)]) (m1, m2) _)
  exact Ent.trans (b := cells b [iv 0, .map (some m1), .map (some m2)] 317 :: obj m1 (.map #[] 0) :: obj m2 (.map #[] 0) :: l) fin (ent_all' [cells b [iv 0, .map (some m1), .map (some m2)] 317, obj m1 (.map #[] 0), obj m2 (.map #[] 0)] l)
abbrev nilS : Value := .slice none 0 0
abbrev road0 (n : Int) : List Value := [iv n, nilS, nilS, nilS, nilS, nilS, nilS, nilS, nilS, nilS]
theorem RoadNew_spec {n : Int} (h0 : 1 ≤ n ∧ n ≤ 8) (h : ∀ b, K (.tuple #[pt b, iv 0]) (cells b (road0 n) 260 :: l)) : CallG Tryz.prog w0 100 [iv n].toArray l K := by
  refine CallG.weak (CallG.enter Tryz.func100 rfl rfl fun cs => ?_)
  repeat' (first | refine step ?_ | refine knowI fun hk => ?_ | refine got rfl ?_ | refine And.intro rfl ?_ | (refine And.intro (fun hc => ?_) (fun hc => ?_) <;> (try (exfalso; first | omega | (simp only [List.length_nil, List.length_cons] at hc; omega)))) | (refine And.intro ?_ ?_; focus omega) | (refine And.intro ?_ ?_; focus (simp only [List.length_map, List.length_set, List.length_replicate, List.length_append, List.length_range, List.length_cons, List.length_nil, Nat.blt_eq, Nat.ble_eq]; omega)) | refine anyB fun b => ?_ | refine got (nth_rowI rfl) ?_ | refine got (nth_row0 rfl) ?_ | refine got (nth_row2 rfl) ?_ | fail)
  refine retG Tryz.func100 rfl ?_
  repeat' (first | refine step ?_ | refine knowI fun hk => ?_ | refine got rfl ?_ | refine And.intro rfl ?_ | (refine And.intro (fun hc => ?_) (fun hc => ?_) <;> (try (exfalso; first | omega | (simp only [List.length_nil, List.length_cons] at hc; omega)))) | (refine And.intro ?_ ?_; focus omega) | (refine And.intro ?_ ?_; focus (simp only [List.length_map, List.length_set, List.length_replicate, List.length_append, List.length_range, List.length_cons, List.length_nil, Nat.blt_eq, Nat.ble_eq]; omega)) | refine anyB fun b => ?_ | refine got (nth_rowI rfl) ?_ | refine got (nth_row0 rfl) ?_ | refine got (nth_row2 rfl) ?_ | fail)
  exact Wk.mk fin (h b)
theorem New1_spec {b : Nat} {c : Cfg} {x : Int} (hp : Rem l (cells b c.row 23) F) (h : K (.bool (decide (c.nodes ≤ x))) (cells b c.row 23 :: F)) : CallG Tryz.prog w0 144 [iv x, pt b].toArray l K := by
  refine CallG.ent hp.ent ?_
  refine CallG.enter Tryz.func144 rfl rfl fun cs => ?_
  repeat' (first | refine step ?_ | refine knowI fun hk => ?_ | refine got rfl ?_ | refine And.intro rfl ?_ | (refine And.intro (fun hc => ?_) (fun hc => ?_) <;> (try (exfalso; first | omega | (simp only [List.length_nil, List.length_cons] at hc; omega)))) | (refine And.intro ?_ ?_; focus omega) | (refine And.intro ?_ ?_; focus (simp only [List.length_map, List.length_set, List.length_replicate, List.length_append, List.length_range, List.length_cons, List.length_nil, Nat.blt_eq, Nat.ble_eq]; omega)) | refine anyB fun b => ?_ | refine got (nth_rowI rfl) ?_ | refine got (nth_row0 rfl) ?_ | refine got (nth_row2 rfl) ?_ | fail)
  refine retG Tryz.func144 rfl ?_
  repeat' (first | refine step ?_ | refine knowI fun hk => ?_ | refine got rfl ?_ | refine And.intro rfl ?_ | (refine And.intro (fun hc => ?_) (fun hc => ?_) <;> (try (exfalso; first | omega | (simp only [List.length_nil, List.length_cons] at hc; omega)))) | (refine And.intro ?_ ?_; focus omega) | (refine And.intro ?_ ?_; focus (simp only [List.length_map, List.length_set, List.length_replicate, List.length_append, List.length_range, List.length_cons, List.length_nil, Nat.blt_eq, Nat.ble_eq]; omega)) | refine anyB fun b => ?_ | refine got (nth_rowI rfl) ?_ | refine got (nth_row0 rfl) ?_ | refine got (nth_row2 rfl) ?_ | fail)
  exact h
def Cfg.rows (c : Cfg) : List (Int × Int) := [(c.nodes, 8), (c.shards, 16), (c.dim, 16), (c.clients, 8), (c.blocks, 16384), (c.tries, 1000), (c.wait, 1000)]
theorem Cfg.may_iff (c : Cfg) : c.May ↔ (∀ x ∈ c.rows, 1 ≤ x.1 ∧ x.1 ≤ x.2) ∧ 16 ≤ c.blocks := by
  simp only [Cfg.May, Cfg.rows, List.mem_cons, List.not_mem_nil, or_false, forall_eq_or_imp, forall_eq]
  omega
set_option maxRecDepth 8000 in
theorem rmay_spec {c : Cfg} (h : K (.bool (decide c.May)) l) : CallG Tryz.prog w0 145 [.agg c.row.toArray].toArray l K := by
  refine CallG.weak (CallG.enter Tryz.func145 rfl rfl fun cs => ?_)
  repeat' (first | refine step ?_ | refine knowI fun hk => ?_ | refine got rfl ?_ | refine And.intro rfl ?_ | (refine And.intro (fun hc => ?_) (fun hc => ?_) <;> (try (exfalso; first | omega | (simp only [List.length_nil, List.length_cons] at hc; omega)))) | (refine And.intro ?_ ?_; focus omega) | (refine And.intro ?_ ?_; focus (simp only [List.length_map, List.length_set, List.length_replicate, List.length_append, List.length_range, List.length_cons, List.length_nil, Nat.blt_eq, Nat.ble_eq]; omega)) | refine anyB fun b => ?_ | refine got (nth_rowI rfl) ?_ | refine got (nth_row0 rfl) ?_ | refine got (nth_row2 rfl) ?_ | fail)
  rename_i cb
  generalize b = tb
  refine Run.loop (fun k : Nat => [(1, pt cb), (26, .slice (some ⟨tb, 0, none⟩) c.rows.length c.rows.length), (27, .int .i64 7), (28, .int .i64 k)])
    (fun _ => SlR (.slice (some ⟨tb, 0, none⟩) c.rows.length c.rows.length) 34 2 c.rows.length (c.rows.flatMap placeRow) :: cells cb c.row 23 :: l) (fun k => k ≤ 7 ∧ ∀ x ∈ c.rows.take k, 1 ≤ x.1 ∧ x.1 ≤ x.2) (fun k => 7 - k) 0 ⟨Nat.zero_le _, by simp⟩ (by repeat (first | exact Sub.nil _ | refine Sub.cons rfl ?_ | refine Sub.ci rfl (by omega) ?_)) (slr_all rfl _) ?_
  rintro k ⟨hk, hall⟩ ih
  have hl7 : c.rows.length = 7 := rfl
  by_cases hlt : k < 7
  · haveI : RowAt c.rows k c.rows[k] := ⟨List.getElem?_eq_getElem (by omega)⟩
    refine openSl (.slice (some ⟨tb, 0, none⟩) c.rows.length c.rows.length) (fun _ h0 _ => by omega) fun bl pre junk cap' hv hcap hjunk hlen => ?_
    obtain ⟨⟨rfl, hpre⟩, rfl⟩ : (tb = bl ∧ 0 = pre.length) ∧ c.rows.length = cap' := by simpa using hv
    rw [hpre]
    have htk : c.rows.take (k + 1) = c.rows.take k ++ [c.rows[k]] := by rw [List.take_add_one, List.getElem?_eq_getElem (by omega)]; rfl
    repeat' (first | refine step ?_ | refine knowI fun hk => ?_ | refine got rfl ?_ | refine And.intro rfl ?_ | (refine And.intro (fun hc => ?_) (fun hc => ?_) <;> (try (exfalso; first | omega | (simp only [List.length_nil, List.length_cons] at hc; omega)))) | (refine And.intro ?_ ?_; focus omega) | (refine And.intro ?_ ?_; focus (simp only [List.length_map, List.length_set, List.length_replicate, List.length_append, List.length_range, List.length_cons, List.length_nil, Nat.blt_eq, Nat.ble_eq]; omega)) | refine anyB fun b => ?_ | refine got (nth_rowI rfl) ?_ | refine got (nth_row0 rfl) ?_ | refine got (nth_row2 rfl) ?_ | fail)
    · refine retG Tryz.func145 rfl ?_
      repeat' (first | refine step ?_ | refine knowI fun hk => ?_ | refine got rfl ?_ | refine And.intro rfl ?_ | (refine And.intro (fun hc => ?_) (fun hc => ?_) <;> (try (exfalso; first | omega | (simp only [List.length_nil, List.length_cons] at hc; omega)))) | (refine And.intro ?_ ?_; focus omega) | (refine And.intro ?_ ?_; focus (simp only [List.length_map, List.length_set, List.length_replicate, List.length_append, List.length_range, List.length_cons, List.length_nil, Nat.blt_eq, Nat.ble_eq]; omega)) | refine anyB fun b => ?_ | refine got (nth_rowI rfl) ?_ | refine got (nth_row0 rfl) ?_ | refine got (nth_row2 rfl) ?_ | fail)
      have e : ¬ c.May := fun hm => by
        have := ((Cfg.may_iff c).1 hm).1 _ (List.getElem_mem (show k < c.rows.length by omega)); omega
      rw [decide_eq_false e] at h
      exact Wk.mk (Ent.drop (Ent.drop (Ent.drop (.refl _)))) h
    · have hpn : pre = [] := List.eq_nil_of_length_eq_zero hpre.symm
      subst hpn
      refine Run.sub ?_ (Run.ent ?_ (ih (k + 1) ⟨by omega, ?_⟩ (by omega)))
      · exact (by repeat (first | exact Sub.nil _ | refine Sub.cons rfl ?_ | refine Sub.ci rfl (by omega) ?_))
      · exact Ent.trans (foldSl tb [] junk hlen hcap hjunk) fin
      · intro x hx
        rw [htk, List.mem_append, List.mem_singleton] at hx
        rcases hx with hx | rfl
        · exact hall x hx
        · omega
    · refine retG Tryz.func145 rfl ?_
      repeat' (first | refine step ?_ | refine knowI fun hk => ?_ | refine got rfl ?_ | refine And.intro rfl ?_ | (refine And.intro (fun hc => ?_) (fun hc => ?_) <;> (try (exfalso; first | omega | (simp only [List.length_nil, List.length_cons] at hc; omega)))) | (refine And.intro ?_ ?_; focus omega) | (refine And.intro ?_ ?_; focus (simp only [List.length_map, List.length_set, List.length_replicate, List.length_append, List.length_range, List.length_cons, List.length_nil, Nat.blt_eq, Nat.ble_eq]; omega)) | refine anyB fun b => ?_ | refine got (nth_rowI rfl) ?_ | refine got (nth_row0 rfl) ?_ | refine got (nth_row2 rfl) ?_ | fail)
      have e : ¬ c.May := fun hm => by
        have := ((Cfg.may_iff c).1 hm).1 _ (List.getElem_mem (show k < c.rows.length by omega)); omega
      rw [decide_eq_false e] at h
      exact Wk.mk (Ent.drop (Ent.drop (Ent.drop (.refl _)))) h
  · obtain rfl : k = 7 := by omega
    repeat' (first | refine step ?_ | refine knowI fun hk => ?_ | refine got rfl ?_ | refine And.intro rfl ?_ | (refine And.intro (fun hc => ?_) (fun hc => ?_) <;> (try (exfalso; first | omega | (simp only [List.length_nil, List.length_cons] at hc; omega)))) | (refine And.intro ?_ ?_; focus omega) | (refine And.intro ?_ ?_; focus (simp only [List.length_map, List.length_set, List.length_replicate, List.length_append, List.length_range, List.length_cons, List.length_nil, Nat.blt_eq, Nat.ble_eq]; omega)) | refine anyB fun b => ?_ | refine got (nth_rowI rfl) ?_ | refine got (nth_row0 rfl) ?_ | refine got (nth_row2 rfl) ?_ | fail)
    refine retG Tryz.func145 rfl ?_
    repeat' (first | refine step ?_ | refine knowI fun hk => ?_ | refine got rfl ?_ | refine And.intro rfl ?_ | (refine And.intro (fun hc => ?_) (fun hc => ?_) <;> (try (exfalso; first | omega | (simp only [List.length_nil, List.length_cons] at hc; omega)))) | (refine And.intro ?_ ?_; focus omega) | (refine And.intro ?_ ?_; focus (simp only [List.length_map, List.length_set, List.length_replicate, List.length_append, List.length_range, List.length_cons, List.length_nil, Nat.blt_eq, Nat.ble_eq]; omega)) | refine anyB fun b => ?_ | refine got (nth_rowI rfl) ?_ | refine got (nth_row0 rfl) ?_ | refine got (nth_row2 rfl) ?_ | fail)
    have e : decide c.May = decide (16 ≤ c.blocks) := decide_eq_decide.2 ⟨fun hm => ((Cfg.may_iff c).1 hm).2, fun hb => (Cfg.may_iff c).2 ⟨fun x hx => hall x (by rw [List.take_of_length_le (by omega)]; exact hx), hb⟩⟩
    rw [e] at h
    exact Wk.mk (Ent.drop (Ent.drop (.refl _))) h
end
end Go.Sl
