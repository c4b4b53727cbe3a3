/- A router (package router) that is new: New. -/
import Derived.Test.YtbolfohdcjpgoaaGreatDoorRouter
set_option linter.unusedSimpArgs false
set_option linter.unusedVariables false
set_option linter.unusedSectionVars false
open Go Go.RowKit
namespace Go.Sl
open Go.Proofs
abbrev rclient0 : List Value := [iv 0, iv 0, .nilIface]
abbrev RouterR (r : Nat) (c : Cfg) (homes : List Int) (a : Option Addr) (cap cb wb m1 m2 : Nat) (F : HL) : HL :=
  cells r [iv c.nodes, iv c.shards, iv c.dim, iv c.clients, iv c.blocks, iv c.tries, iv c.wait, iv 1, .slice a homes.length cap, .slice (some ⟨cb, 0, none⟩) c.clients.toNat c.clients.toNat, pt wb, iv 0, iv 0, .map (some m1), .map (some m2), nilS, nilS, nilS] 256 ::
    Ints (.slice a homes.length cap) homes :: cells cb (List.replicate c.clients.toNat rclient0).flatten 448 :: Wheel0 wb :: obj m1 (.map #[] 0) :: obj m2 (.map #[] 0) :: F
/-- a router that is new -/
def Router0 (r : Nat) (c : Cfg) (homes : List Int) : HP := ex fun x : (Option Addr × Nat) × Nat × Nat × Nat × Nat => all (RouterR r c homes x.1.1 x.1.2 x.2.1 x.2.2.1 x.2.2.2.1 x.2.2.2.2 [])
section
variable {w0 : World} {l F F1 : HL} {K : Value → HL → Prop}
theorem router_close {r : Nat} {c : Cfg} {homes : List Int} (a : Option Addr) (cap cb wb m1 m2 : Nat) : Ent (RouterR r c homes a cap cb wb m1 m2 F) (Router0 r c homes :: F) :=
  (ent_all' (RouterR r c homes a cap cb wb m1 m2 []) F).trans (ent_ex (fun x : (Option Addr × Nat) × Nat × Nat × Nat × Nat => all (RouterR r c homes x.1.1 x.1.2 x.2.1 x.2.2.1 x.2.2.2.1 x.2.2.2.2 [])) ((a, cap), cb, wb, m1, m2) F)
theorem router_close2 {r : Nat} {c : Cfg} {homes : List Int} {a : Option Addr} {cap cb wb m1 m2 : Nat} {l0 : HL}
    (h : Ent l0 (Ints (.slice a homes.length cap) homes :: cells cb (List.replicate c.clients.toNat rclient0).flatten 448 :: Wheel0 wb :: obj m1 (.map #[] 0) :: obj m2 (.map #[] 0) :: F)) :
    Ent (cells r [iv c.nodes, iv c.shards, iv c.dim, iv c.clients, iv c.blocks, iv c.tries, iv c.wait, iv 1, .slice a homes.length cap, .slice (some ⟨cb, 0, none⟩) c.clients.toNat c.clients.toNat, pt wb, iv 0, iv 0, .map (some m1), .map (some m2), nilS, nilS, nilS] 256 :: l0) (Router0 r c homes :: F) :=
  (Ent.cons _ h).trans (router_close a cap cb wb m1 m2)
theorem RouterNew_bad {c : Cfg} {u v : Value} (hm : ¬ c.May) (h : K (.tuple #[.pointer none, iv 1]) l) : CallG Tryz.prog w0 99 [.agg c.row.toArray, .agg #[u, v]].toArray l K := by
  refine CallG.weak (CallG.enter Tryz.func99 rfl rfl fun cs => ?_)
  repeat' (first | refine step ?_ | refine knowI fun hk => ?_ | refine got rfl ?_ | refine And.intro rfl ?_ | (refine And.intro (fun hc => ?_) (fun hc => ?_) <;> (try (exfalso; first | omega | (simp only [List.length_nil, List.length_cons] at hc; omega)))) | (refine And.intro ?_ ?_; focus omega) | (refine And.intro ?_ ?_; focus (simp only [List.length_map, List.length_set, List.length_replicate, List.length_append, List.length_range, List.length_cons, List.length_nil, Nat.blt_eq, Nat.ble_eq]; omega)) | refine anyB fun b => ?_ | refine got (nth_rowI rfl) ?_ | refine got (nth_row0 rfl) ?_ | refine got (nth_row2 rfl) ?_ | fail)
  refine rmay_spec ?_
  rw [decide_eq_false hm]
  repeat' (first | refine step ?_ | refine knowI fun hk => ?_ | refine got rfl ?_ | refine And.intro rfl ?_ | (refine And.intro (fun hc => ?_) (fun hc => ?_) <;> (try (exfalso; first | omega | (simp only [List.length_nil, List.length_cons] at hc; omega)))) | (refine And.intro ?_ ?_; focus omega) | (refine And.intro ?_ ?_; focus (simp only [List.length_map, List.length_set, List.length_replicate, List.length_append, List.length_range, List.length_cons, List.length_nil, Nat.blt_eq, Nat.ble_eq]; omega)) | refine anyB fun b => ?_ | refine got (nth_rowI rfl) ?_ | refine got (nth_row0 rfl) ?_ | refine got (nth_row2 rfl) ?_ | fail)
  refine retG Tryz.func99 rfl ?_
  repeat' (first | refine step ?_ | refine knowI fun hk => ?_ | refine got rfl ?_ | refine And.intro rfl ?_ | (refine And.intro (fun hc => ?_) (fun hc => ?_) <;> (try (exfalso; first | omega | (simp only [List.length_nil, List.length_cons] at hc; omega)))) | (refine And.intro ?_ ?_; focus omega) | (refine And.intro ?_ ?_; focus (simp only [List.length_map, List.length_set, List.length_replicate, List.length_append, List.length_range, List.length_cons, List.length_nil, Nat.blt_eq, Nat.ble_eq]; omega)) | refine anyB fun b => ?_ | refine got (nth_rowI rfl) ?_ | refine got (nth_row0 rfl) ?_ | refine got (nth_row2 rfl) ?_ | fail)
  exact Wk.mk (Ent.drop (Ent.drop (.refl _))) h
set_option maxRecDepth 8000 in
set_option maxHeartbeats 4000000 in
set_option synthInstance.maxHeartbeats 200000 in
set_option synthInstance.maxSize 1000 in
theorem RouterNew_spec {c : Cfg} {homes : List Int} {a : Option Addr} {cap : Nat} (hm : c.May) (hlen : (homes.length : Int) = c.shards) (hh : ∀ x ∈ homes, 0 ≤ x ∧ x < c.nodes) (hp : Rem l (Ints (.slice a homes.length cap) homes) F)
    (h : ∀ r, K (.tuple #[pt r, iv 0]) (Router0 r c homes :: Ints (.slice a homes.length cap) homes :: F)) : CallG Tryz.prog w0 99 [.agg c.row.toArray, .agg #[iv 1, .slice a homes.length cap]].toArray l K := by
  have hm0 := hm
  unfold Cfg.May at hm0
  refine CallG.ent hp.ent ?_
  refine CallG.weak (CallG.enter Tryz.func99 rfl rfl fun cs => ?_)
  repeat' (first | refine step ?_ | refine knowI fun hk => ?_ | refine got rfl ?_ | refine And.intro rfl ?_ | (refine And.intro (fun hc => ?_) (fun hc => ?_) <;> (try (exfalso; first | omega | (simp only [List.length_nil, List.length_cons] at hc; omega)))) | (refine And.intro ?_ ?_; focus omega) | (refine And.intro ?_ ?_; focus (simp only [List.length_map, List.length_set, List.length_replicate, List.length_append, List.length_range, List.length_cons, List.length_nil, Nat.blt_eq, Nat.ble_eq]; omega)) | refine anyB fun b => ?_ | refine got (nth_rowI rfl) ?_ | refine got (nth_row0 rfl) ?_ | refine got (nth_row2 rfl) ?_ | fail)
  rename_i cb
  generalize b = hb
  refine rmay_spec ?_
  rw [decide_eq_true hm]
  repeat' (first | refine step ?_ | refine knowI fun hk => ?_ | refine got rfl ?_ | refine And.intro rfl ?_ | (refine And.intro (fun hc => ?_) (fun hc => ?_) <;> (try (exfalso; first | omega | (simp only [List.length_nil, List.length_cons] at hc; omega)))) | (refine And.intro ?_ ?_; focus omega) | (refine And.intro ?_ ?_; focus (simp only [List.length_map, List.length_set, List.length_replicate, List.length_append, List.length_range, List.length_cons, List.length_nil, Nat.blt_eq, Nat.ble_eq]; omega)) | refine anyB fun b => ?_ | refine got (nth_rowI rfl) ?_ | refine got (nth_row0 rfl) ?_ | refine got (nth_row2 rfl) ?_ | fail)
  refine ChartCheck_ok (fun x hx => by have := hh x hx; omega) (by omega) (by omega) (.there (.there .here)) ?_
  repeat' (first | refine step ?_ | refine knowI fun hk => ?_ | refine got rfl ?_ | refine And.intro rfl ?_ | (refine And.intro (fun hc => ?_) (fun hc => ?_) <;> (try (exfalso; first | omega | (simp only [List.length_nil, List.length_cons] at hc; omega)))) | (refine And.intro ?_ ?_; focus omega) | (refine And.intro ?_ ?_; focus (simp only [List.length_map, List.length_set, List.length_replicate, List.length_append, List.length_range, List.length_cons, List.length_nil, Nat.blt_eq, Nat.ble_eq]; omega)) | refine anyB fun b => ?_ | refine got (nth_rowI rfl) ?_ | refine got (nth_row0 rfl) ?_ | refine got (nth_row2 rfl) ?_ | fail)
  refine ContainsFuncC_spec (caps := [pt cb]) (C := cells cb c.row 23) (p := fun n => decide (c.nodes ≤ n)) (fun x hx => by have := hh x hx; unfold InR; omega) (fun x _ l F K h1 h2 => New1_spec h1 h2) (by omega) .here (.there .here) ?_
  have e : homes.any (fun n => decide (c.nodes ≤ n)) = false := by
    rw [List.any_eq_false]; intro x hx; have := hh x hx; simp; omega
  rw [e]
  repeat' (first | refine step ?_ | refine knowI fun hk => ?_ | refine got rfl ?_ | refine And.intro rfl ?_ | (refine And.intro (fun hc => ?_) (fun hc => ?_) <;> (try (exfalso; first | omega | (simp only [List.length_nil, List.length_cons] at hc; omega)))) | (refine And.intro ?_ ?_; focus omega) | (refine And.intro ?_ ?_; focus (simp only [List.length_map, List.length_set, List.length_replicate, List.length_append, List.length_range, List.length_cons, List.length_nil, Nat.blt_eq, Nat.ble_eq]; omega)) | refine anyB fun b => ?_ | refine got (nth_rowI rfl) ?_ | refine got (nth_row0 rfl) ?_ | refine got (nth_row2 rfl) ?_ | fail)
  refine CloneInt_spec (by omega) .here fun a2 cap2 => ?_
  repeat' (first | refine step ?_ | refine knowI fun hk => ?_ | refine got rfl ?_ | refine And.intro rfl ?_ | (refine And.intro (fun hc => ?_) (fun hc => ?_) <;> (try (exfalso; first | omega | (simp only [List.length_nil, List.length_cons] at hc; omega)))) | (refine And.intro ?_ ?_; focus omega) | (refine And.intro ?_ ?_; focus (simp only [List.length_map, List.length_set, List.length_replicate, List.length_append, List.length_range, List.length_cons, List.length_nil, Nat.blt_eq, Nat.ble_eq]; omega)) | refine anyB fun b => ?_ | refine got (nth_rowI rfl) ?_ | refine got (nth_row0 rfl) ?_ | refine got (nth_row2 rfl) ?_ | fail)
  refine Run.ent (l' := cells cb c.row 23 :: cells hb [iv 1, .slice a2 homes.length cap2] 183 :: Ints (.slice a2 homes.length cap2) homes :: Ints (.slice a homes.length cap) homes :: F) fin ?_
  refine Run.drawI [0, 1] rfl ?_
  repeat' (first | refine step ?_ | refine knowI fun hk => ?_ | refine got rfl ?_ | refine And.intro rfl ?_ | (refine And.intro (fun hc => ?_) (fun hc => ?_) <;> (try (exfalso; first | omega | (simp only [List.length_nil, List.length_cons] at hc; omega)))) | (refine And.intro ?_ ?_; focus omega) | (refine And.intro ?_ ?_; focus (simp only [List.length_map, List.length_set, List.length_replicate, List.length_append, List.length_range, List.length_cons, List.length_nil, Nat.blt_eq, Nat.ble_eq]; omega)) | refine anyB fun b => ?_ | refine got (nth_rowI rfl) ?_ | refine got (nth_row0 rfl) ?_ | refine got (nth_row2 rfl) ?_ | refine And.intro (keepS (by decide +kernel)) ?_ | refine And.intro keepR ?_ | refine RunD.done (by decide +kernel) ?_ | refine tk 0 rfl (by decide +kernel) ?_ | refine tk 1 rfl (by decide +kernel) ?_ | refine tk 2 rfl (by decide +kernel) ?_ | refine tk 3 rfl (by decide +kernel) ?_ | refine ef 4 (by decide +kernel) rfl ?_ | refine ef 5 (by decide +kernel) rfl ?_ | refine ef 6 (by decide +kernel) rfl ?_ | refine ef 7 (by decide +kernel) rfl ?_ | refine tk 8 rfl (by decide +kernel) ?_ | refine ef 9 (by decide +kernel) rfl ?_ | refine tk 10 rfl (by decide +kernel) ?_ | refine tk 11 rfl (by decide +kernel) ?_ | refine ef4 4 5 6 7 (by decide +kernel) (eo rfl ?_) (eo rfl ?_) (eo rfl ?_) (eo rfl ?_) | refine ef3 4 5 6 (by decide +kernel) (eo rfl ?_) (eo rfl ?_) (eo rfl ?_) | refine ef3 4 5 7 (by decide +kernel) (eo rfl ?_) (eo rfl ?_) (eo rfl ?_) | refine ef3 4 6 7 (by decide +kernel) (eo rfl ?_) (eo rfl ?_) (eo rfl ?_) | refine ef3 5 6 7 (by decide +kernel) (eo rfl ?_) (eo rfl ?_) (eo rfl ?_) | refine ef2 4 5 (by decide +kernel) (eo rfl ?_) (eo rfl ?_) | refine ef2 4 6 (by decide +kernel) (eo rfl ?_) (eo rfl ?_) | refine ef2 4 7 (by decide +kernel) (eo rfl ?_) (eo rfl ?_) | refine ef2 5 6 (by decide +kernel) (eo rfl ?_) (eo rfl ?_) | refine ef2 5 7 (by decide +kernel) (eo rfl ?_) (eo rfl ?_) | refine ef2 6 7 (by decide +kernel) (eo rfl ?_) (eo rfl ?_) | refine WheelNew_spec fun b => ?_ | fail)
  all_goals repeat' (first | refine step ?_ | refine knowI fun hk => ?_ | refine got rfl ?_ | refine And.intro rfl ?_ | (refine And.intro (fun hc => ?_) (fun hc => ?_) <;> (try (exfalso; first | omega | (simp only [List.length_nil, List.length_cons] at hc; omega)))) | (refine And.intro ?_ ?_; focus omega) | (refine And.intro ?_ ?_; focus (simp only [List.length_map, List.length_set, List.length_replicate, List.length_append, List.length_range, List.length_cons, List.length_nil, Nat.blt_eq, Nat.ble_eq]; omega)) | refine anyB fun b => ?_ | refine got (nth_rowI rfl) ?_ | refine got (nth_row0 rfl) ?_ | refine got (nth_row2 rfl) ?_ | fail)
  all_goals (refine retG Tryz.func99 rfl ?_)
  all_goals repeat' (first | refine step ?_ | refine knowI fun hk => ?_ | refine got rfl ?_ | refine And.intro rfl ?_ | (refine And.intro (fun hc => ?_) (fun hc => ?_) <;> (try (exfalso; first | omega | (simp only [List.length_nil, List.length_cons] at hc; omega)))) | (refine And.intro ?_ ?_; focus omega) | (refine And.intro ?_ ?_; focus (simp only [List.length_map, List.length_set, List.length_replicate, List.length_append, List.length_range, List.length_cons, List.length_nil, Nat.blt_eq, Nat.ble_eq]; omega)) | refine anyB fun b => ?_ | refine got (nth_rowI rfl) ?_ | refine got (nth_row0 rfl) ?_ | refine got (nth_row2 rfl) ?_ | fail)
  all_goals exact Wk.mk (router_close2 (F := Ints (.slice a homes.length cap) homes :: F) fin) (h _)
end
end Go.Sl
