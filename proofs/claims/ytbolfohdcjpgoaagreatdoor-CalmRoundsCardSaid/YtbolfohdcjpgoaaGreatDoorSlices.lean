/- Go's package slices, at ints: ContainsFunc; Clone. -/
import Derived.Test.YtbolfohdcjpgoaaGreatDoorShard
set_option linter.unusedSimpArgs false
set_option linter.unusedVariables false
set_option linter.unusedSectionVars false
open Go Go.RowKit
namespace Go.Sl
open Go.Proofs
abbrev pt (b : Nat) : Value := .pointer (some ⟨b, 0, none⟩)
theorem perm_erase {α : Type} : ∀ (l : List α) (k : Nat) (hk : k < l.length), l.Perm (l[k] :: l.eraseIdx k)
  | x :: l, 0, _ => .refl _
  | x :: l, k + 1, hk => by
    have ih := perm_erase l k (by simpa using hk)
    simp only [List.getElem_cons_succ, List.eraseIdx_cons_succ]
    exact (ih.cons x).trans (.swap _ _ _)
theorem alls_out {α : Type} {f : α → HP} {l : List α} {k : Nat} {x : α} (h : l[k]? = some x) (F : HL) : Ent (all (l.map f) :: F) (f x :: all ((l.eraseIdx k).map f) :: F) := by
  obtain ⟨hk, rfl⟩ := List.getElem?_eq_some_iff.1 h
  refine (ent_all _ _).trans ?_
  have p := (perm_erase l k hk).map f
  refine (Ent.perm (p.append_right F)).trans ?_
  exact Ent.cons _ (ent_all' _ _)
theorem alls_in {α : Type} {f : α → HP} {l : List α} {k : Nat} (y : α) (hk : k < l.length) (F : HL) : Ent (f y :: all ((l.eraseIdx k).map f) :: F) (all ((l.set k y).map f) :: F) := by
  refine Ent.trans ?_ (ent_all' _ _)
  have hk' : k < (l.set k y).length := by simpa using hk
  have p := (perm_erase (l.set k y) k hk').symm.map f
  rw [List.getElem_set_self, List.eraseIdx_set_eq] at p
  refine Ent.trans ?_ (Ent.perm (p.append_right F))
  exact Ent.cons _ (ent_all _ _)
theorem alls_nil {α : Type} (f : α → HP) (F : HL) : Ent F (all (([] : List α).map f) :: F) := ent_all' [] F
theorem alls_snoc {α : Type} {f : α → HP} (l : List α) (x : α) (F : HL) : Ent (f x :: all (l.map f) :: F) (all ((l ++ [x]).map f) :: F) := by
  refine Ent.trans (Ent.cons _ (ent_all _ _)) (Ent.trans ?_ (ent_all' _ _))
  rw [List.map_append]
  refine Ent.perm ?_
  rw [List.append_assoc]
  exact (List.perm_middle (l₁ := l.map f) (l₂ := F) (a := f x)).symm
theorem alls_uncons {α : Type} {f : α → HP} (x : α) (l : List α) (F : HL) : Ent (all ((x :: l).map f) :: F) (f x :: all (l.map f) :: F) := by
  refine (ent_all _ _).trans ?_
  exact Ent.cons _ (ent_all' _ _)
section
variable {w0 : World} {l F F1 : HL} {K : Value → HL → Prop}
/-- a slice of ints of the call's own -/
abbrev Ints (v : Value) (ns : List Int) : HP := SlR v 3 1 ns.length (ns.map iv)
def idxB (p : Int → Bool) : List Int → Nat → Int
  | [], _ => -1
  | x :: xs, k => if p x then (k : Int) else idxB p xs (k + 1)
theorem idxB_geq {p : Int → Bool} : ∀ (l : List Int) (k : Nat), decide (0 ≤ idxB p l k) = l.any p
  | [], k => rfl
  | x :: xs, k => by
    by_cases hx : p x = true
    · simp [idxB, hx]
    · simp only [idxB, List.any_cons, hx, if_false, Bool.false_or, Bool.false_eq_true]; exact idxB_geq xs (k + 1)
/-- a function of one number that answers a bool -/
def PredG (w0 : World) (f : FuncId) (caps : List Value) (p : Int → Bool) : Prop := ∀ x l K, InR x → K (.bool (p x)) l → CallG Tryz.prog w0 f (iv x :: caps).toArray l K
set_option maxRecDepth 8000 in
theorem IndexFunc_spec {ns : List Int} {p : Int → Bool} {v : Value} {f : FuncId} {caps : List Value} [FnC Tryz.prog f] (hin : ∀ x ∈ ns, InR x) (hf : ∀ x ∈ ns, ∀ l K, K (.bool (p x)) l → CallG Tryz.prog w0 f (iv x :: caps).toArray l K) (hn : ns.length ≤ 1000000000)
    (hp : Rem l (Ints v ns) F) (h : K (.int .i64 (idxB p ns 0)) (Ints v ns :: F)) :
    CallG Tryz.prog w0 122 [v, .func (.func f) #[] caps.toArray].toArray l K := by
  refine CallG.ent hp.ent ?_
  refine CallG.weak (CallG.enter Tryz.func122 rfl rfl fun cs => ?_)
  refine Run.know (p := ∃ a cap, v = .slice a ns.length cap) (fun w hs => (slr_len hs).2) ?_
  rintro ⟨a, cap, rfl⟩
  repeat' (first | refine step ?_ | refine knowI fun hk => ?_ | refine got rfl ?_ | refine And.intro rfl ?_ | (refine And.intro (fun hc => ?_) (fun hc => ?_) <;> (try (exfalso; first | omega | (simp only [List.length_nil, List.length_cons] at hc; omega)))) | (refine And.intro ?_ ?_; focus omega) | (refine And.intro ?_ ?_; focus (simp only [List.length_map, List.length_set, List.length_replicate, List.length_append, List.length_range, List.length_cons, List.length_nil, Nat.blt_eq, Nat.ble_eq]; omega)) | refine anyB fun b => ?_ | refine got (nth_rowI rfl) ?_ | refine got (nth_row0 rfl) ?_ | refine got (nth_row2 rfl) ?_ | fail)
  refine Run.loop (fun k : Nat => [(0, .slice a ns.length cap), (1, .func (.func f) #[] caps.toArray), (7, .int .i64 ns.length), (8, .int .i64 k)])
    (fun _ => Ints (.slice a ns.length cap) ns :: F) (fun k => k ≤ ns.length ∧ idxB p ns 0 = idxB p (ns.drop k) k) (fun k => ns.length - k) 0 ⟨Nat.zero_le _, rfl⟩ (by repeat (first | exact Sub.nil _ | refine Sub.cons rfl ?_ | refine Sub.ci rfl (by omega) ?_)) fin ?_
  rintro k ⟨hk, hi⟩ ih
  by_cases hlt : k < ns.length
  · haveI : RowAt ns k ns[k] := ⟨List.getElem?_eq_getElem hlt⟩
    refine openSl (.slice a ns.length cap) (fun _ h0 _ => by omega) fun bl pre junk cap' hv hcap hjunk hlen => ?_
    obtain ⟨rfl, rfl⟩ : a = some ⟨bl, pre.length, none⟩ ∧ cap = cap' := by simpa using hv
    have e1 : ns.drop k = ns[k] :: ns.drop (k + 1) := List.drop_eq_getElem_cons hlt
    rw [e1, idxB] at hi
    repeat' (first | refine step ?_ | refine knowI fun hk => ?_ | refine got rfl ?_ | refine And.intro rfl ?_ | (refine And.intro (fun hc => ?_) (fun hc => ?_) <;> (try (exfalso; first | omega | (simp only [List.length_nil, List.length_cons] at hc; omega)))) | (refine And.intro ?_ ?_; focus omega) | (refine And.intro ?_ ?_; focus (simp only [List.length_map, List.length_set, List.length_replicate, List.length_append, List.length_range, List.length_cons, List.length_nil, Nat.blt_eq, Nat.ble_eq]; omega)) | refine anyB fun b => ?_ | refine got (nth_rowI rfl) ?_ | refine got (nth_row0 rfl) ?_ | refine got (nth_row2 rfl) ?_ | fail)
    refine hf _ (List.getElem_mem hlt) _ _ ?_
    repeat' (first | refine step ?_ | refine knowI fun hk => ?_ | refine got rfl ?_ | refine And.intro rfl ?_ | (refine And.intro (fun hc => ?_) (fun hc => ?_) <;> (try (exfalso; first | omega | (simp only [List.length_nil, List.length_cons] at hc; omega)))) | (refine And.intro ?_ ?_; focus omega) | (refine And.intro ?_ ?_; focus (simp only [List.length_map, List.length_set, List.length_replicate, List.length_append, List.length_range, List.length_cons, List.length_nil, Nat.blt_eq, Nat.ble_eq]; omega)) | refine anyB fun b => ?_ | refine got (nth_rowI rfl) ?_ | refine got (nth_row0 rfl) ?_ | refine got (nth_row2 rfl) ?_ | fail)
    · refine retG Tryz.func122 rfl ?_
      repeat' (first | refine step ?_ | refine knowI fun hk => ?_ | refine got rfl ?_ | refine And.intro rfl ?_ | (refine And.intro (fun hc => ?_) (fun hc => ?_) <;> (try (exfalso; first | omega | (simp only [List.length_nil, List.length_cons] at hc; omega)))) | (refine And.intro ?_ ?_; focus omega) | (refine And.intro ?_ ?_; focus (simp only [List.length_map, List.length_set, List.length_replicate, List.length_append, List.length_range, List.length_cons, List.length_nil, Nat.blt_eq, Nat.ble_eq]; omega)) | refine anyB fun b => ?_ | refine got (nth_rowI rfl) ?_ | refine got (nth_row0 rfl) ?_ | refine got (nth_row2 rfl) ?_ | fail)
      rw [hi, if_pos hc] at h
      exact Wk.mk (foldSl bl pre junk hlen hcap hjunk) h
    · refine Run.sub ?_ (Run.ent ?_ (ih (k + 1) ⟨by omega, by rw [hi, if_neg (by simp [hc])]⟩ (by omega)))
      · exact (by repeat (first | exact Sub.nil _ | refine Sub.cons rfl ?_ | refine Sub.ci rfl (by omega) ?_))
      · exact foldSl bl pre junk hlen hcap hjunk
  · obtain rfl : k = ns.length := by omega
    repeat' (first | refine step ?_ | refine knowI fun hk => ?_ | refine got rfl ?_ | refine And.intro rfl ?_ | (refine And.intro (fun hc => ?_) (fun hc => ?_) <;> (try (exfalso; first | omega | (simp only [List.length_nil, List.length_cons] at hc; omega)))) | (refine And.intro ?_ ?_; focus omega) | (refine And.intro ?_ ?_; focus (simp only [List.length_map, List.length_set, List.length_replicate, List.length_append, List.length_range, List.length_cons, List.length_nil, Nat.blt_eq, Nat.ble_eq]; omega)) | refine anyB fun b => ?_ | refine got (nth_rowI rfl) ?_ | refine got (nth_row0 rfl) ?_ | refine got (nth_row2 rfl) ?_ | fail)
    refine retG Tryz.func122 rfl ?_
    repeat' (first | refine step ?_ | refine knowI fun hk => ?_ | refine got rfl ?_ | refine And.intro rfl ?_ | (refine And.intro (fun hc => ?_) (fun hc => ?_) <;> (try (exfalso; first | omega | (simp only [List.length_nil, List.length_cons] at hc; omega)))) | (refine And.intro ?_ ?_; focus omega) | (refine And.intro ?_ ?_; focus (simp only [List.length_map, List.length_set, List.length_replicate, List.length_append, List.length_range, List.length_cons, List.length_nil, Nat.blt_eq, Nat.ble_eq]; omega)) | refine anyB fun b => ?_ | refine got (nth_rowI rfl) ?_ | refine got (nth_row0 rfl) ?_ | refine got (nth_row2 rfl) ?_ | fail)
    rw [hi, List.drop_length] at h
    exact Wk.mk fin h
theorem ContainsFunc_spec {ns : List Int} {p : Int → Bool} {v : Value} {f : FuncId} {caps : List Value} [FnC Tryz.prog f] (hin : ∀ x ∈ ns, InR x) (hf : ∀ x ∈ ns, ∀ l K, K (.bool (p x)) l → CallG Tryz.prog w0 f (iv x :: caps).toArray l K) (hn : ns.length ≤ 1000000000)
    (hp : Rem l (Ints v ns) F) (h : K (.bool (ns.any p)) (Ints v ns :: F)) :
    CallG Tryz.prog w0 84 [v, .func (.func f) #[] caps.toArray].toArray l K := by
  refine CallG.ent hp.ent ?_
  refine CallG.weak (CallG.enter Tryz.func84 rfl rfl fun cs => ?_)
  repeat' (first | refine step ?_ | refine knowI fun hk => ?_ | refine got rfl ?_ | refine And.intro rfl ?_ | (refine And.intro (fun hc => ?_) (fun hc => ?_) <;> (try (exfalso; first | omega | (simp only [List.length_nil, List.length_cons] at hc; omega)))) | (refine And.intro ?_ ?_; focus omega) | (refine And.intro ?_ ?_; focus (simp only [List.length_map, List.length_set, List.length_replicate, List.length_append, List.length_range, List.length_cons, List.length_nil, Nat.blt_eq, Nat.ble_eq]; omega)) | refine anyB fun b => ?_ | refine got (nth_rowI rfl) ?_ | refine got (nth_row0 rfl) ?_ | refine got (nth_row2 rfl) ?_ | fail)
  refine IndexFunc_spec hin hf hn .here ?_
  repeat' (first | refine step ?_ | refine knowI fun hk => ?_ | refine got rfl ?_ | refine And.intro rfl ?_ | (refine And.intro (fun hc => ?_) (fun hc => ?_) <;> (try (exfalso; first | omega | (simp only [List.length_nil, List.length_cons] at hc; omega)))) | (refine And.intro ?_ ?_; focus omega) | (refine And.intro ?_ ?_; focus (simp only [List.length_map, List.length_set, List.length_replicate, List.length_append, List.length_range, List.length_cons, List.length_nil, Nat.blt_eq, Nat.ble_eq]; omega)) | refine anyB fun b => ?_ | refine got (nth_rowI rfl) ?_ | refine got (nth_row0 rfl) ?_ | refine got (nth_row2 rfl) ?_ | fail)
  refine retG Tryz.func84 rfl ?_
  repeat' (first | refine step ?_ | refine knowI fun hk => ?_ | refine got rfl ?_ | refine And.intro rfl ?_ | (refine And.intro (fun hc => ?_) (fun hc => ?_) <;> (try (exfalso; first | omega | (simp only [List.length_nil, List.length_cons] at hc; omega)))) | (refine And.intro ?_ ?_; focus omega) | (refine And.intro ?_ ?_; focus (simp only [List.length_map, List.length_set, List.length_replicate, List.length_append, List.length_range, List.length_cons, List.length_nil, Nat.blt_eq, Nat.ble_eq]; omega)) | refine anyB fun b => ?_ | refine got (nth_rowI rfl) ?_ | refine got (nth_row0 rfl) ?_ | refine got (nth_row2 rfl) ?_ | fail)
  rw [idxB_geq]
  exact Wk.mk fin h
set_option maxRecDepth 8000 in
theorem IndexFuncC_spec {ns : List Int} {p : Int → Bool} {v : Value} {C : HP} {f : FuncId} {caps : List Value} [FnC Tryz.prog f] (hin : ∀ x ∈ ns, InR x) (hf : ∀ x ∈ ns, ∀ (l F : HL) (K : Value → HL → Prop), Rem l C F → K (.bool (p x)) (C :: F) → CallG Tryz.prog w0 f (iv x :: caps).toArray l K) (hn : ns.length ≤ 1000000000)
    (hp : Rem l (Ints v ns) F1) (hp2 : Rem F1 C F) (h : K (.int .i64 (idxB p ns 0)) (Ints v ns :: C :: F)) :
    CallG Tryz.prog w0 122 [v, .func (.func f) #[] caps.toArray].toArray l K := by
  refine CallG.ent (hp.ent.trans (Ent.cons _ hp2.ent)) ?_
  refine CallG.weak (CallG.enter Tryz.func122 rfl rfl fun cs => ?_)
  refine Run.know (p := ∃ a cap, v = .slice a ns.length cap) (fun w hs => (slr_len hs).2) ?_
  rintro ⟨a, cap, rfl⟩
  repeat' (first | refine step ?_ | refine knowI fun hk => ?_ | refine got rfl ?_ | refine And.intro rfl ?_ | (refine And.intro (fun hc => ?_) (fun hc => ?_) <;> (try (exfalso; first | omega | (simp only [List.length_nil, List.length_cons] at hc; omega)))) | (refine And.intro ?_ ?_; focus omega) | (refine And.intro ?_ ?_; focus (simp only [List.length_map, List.length_set, List.length_replicate, List.length_append, List.length_range, List.length_cons, List.length_nil, Nat.blt_eq, Nat.ble_eq]; omega)) | refine anyB fun b => ?_ | refine got (nth_rowI rfl) ?_ | refine got (nth_row0 rfl) ?_ | refine got (nth_row2 rfl) ?_ | fail)
  refine Run.loop (fun k : Nat => [(0, .slice a ns.length cap), (1, .func (.func f) #[] caps.toArray), (7, .int .i64 ns.length), (8, .int .i64 k)])
    (fun _ => Ints (.slice a ns.length cap) ns :: C :: F) (fun k => k ≤ ns.length ∧ idxB p ns 0 = idxB p (ns.drop k) k) (fun k => ns.length - k) 0 ⟨Nat.zero_le _, rfl⟩ (by repeat (first | exact Sub.nil _ | refine Sub.cons rfl ?_ | refine Sub.ci rfl (by omega) ?_)) fin ?_
  rintro k ⟨hk, hi⟩ ih
  by_cases hlt : k < ns.length
  · haveI : RowAt ns k ns[k] := ⟨List.getElem?_eq_getElem hlt⟩
    refine openSl (.slice a ns.length cap) (fun _ h0 _ => by omega) fun bl pre junk cap' hv hcap hjunk hlen => ?_
    obtain ⟨rfl, rfl⟩ : a = some ⟨bl, pre.length, none⟩ ∧ cap = cap' := by simpa using hv
    have e1 : ns.drop k = ns[k] :: ns.drop (k + 1) := List.drop_eq_getElem_cons hlt
    rw [e1, idxB] at hi
    repeat' (first | refine step ?_ | refine knowI fun hk => ?_ | refine got rfl ?_ | refine And.intro rfl ?_ | (refine And.intro (fun hc => ?_) (fun hc => ?_) <;> (try (exfalso; first | omega | (simp only [List.length_nil, List.length_cons] at hc; omega)))) | (refine And.intro ?_ ?_; focus omega) | (refine And.intro ?_ ?_; focus (simp only [List.length_map, List.length_set, List.length_replicate, List.length_append, List.length_range, List.length_cons, List.length_nil, Nat.blt_eq, Nat.ble_eq]; omega)) | refine anyB fun b => ?_ | refine got (nth_rowI rfl) ?_ | refine got (nth_row0 rfl) ?_ | refine got (nth_row2 rfl) ?_ | fail)
    refine hf _ (List.getElem_mem hlt) _ _ _ (.there .here) ?_
    repeat' (first | refine step ?_ | refine knowI fun hk => ?_ | refine got rfl ?_ | refine And.intro rfl ?_ | (refine And.intro (fun hc => ?_) (fun hc => ?_) <;> (try (exfalso; first | omega | (simp only [List.length_nil, List.length_cons] at hc; omega)))) | (refine And.intro ?_ ?_; focus omega) | (refine And.intro ?_ ?_; focus (simp only [List.length_map, List.length_set, List.length_replicate, List.length_append, List.length_range, List.length_cons, List.length_nil, Nat.blt_eq, Nat.ble_eq]; omega)) | refine anyB fun b => ?_ | refine got (nth_rowI rfl) ?_ | refine got (nth_row0 rfl) ?_ | refine got (nth_row2 rfl) ?_ | fail)
    · refine retG Tryz.func122 rfl ?_
      repeat' (first | refine step ?_ | refine knowI fun hk => ?_ | refine got rfl ?_ | refine And.intro rfl ?_ | (refine And.intro (fun hc => ?_) (fun hc => ?_) <;> (try (exfalso; first | omega | (simp only [List.length_nil, List.length_cons] at hc; omega)))) | (refine And.intro ?_ ?_; focus omega) | (refine And.intro ?_ ?_; focus (simp only [List.length_map, List.length_set, List.length_replicate, List.length_append, List.length_range, List.length_cons, List.length_nil, Nat.blt_eq, Nat.ble_eq]; omega)) | refine anyB fun b => ?_ | refine got (nth_rowI rfl) ?_ | refine got (nth_row0 rfl) ?_ | refine got (nth_row2 rfl) ?_ | fail)
      rw [hi, if_pos hc] at h
      exact Wk.mk (Ent.trans (b := cells bl (pre ++ ns.map iv ++ junk) 3 :: C :: F) fin (foldSl bl pre junk hlen hcap hjunk)) h
    · refine Run.sub ?_ (Run.ent ?_ (ih (k + 1) ⟨by omega, by rw [hi, if_neg (by simp [hc])]⟩ (by omega)))
      · exact (by repeat (first | exact Sub.nil _ | refine Sub.cons rfl ?_ | refine Sub.ci rfl (by omega) ?_))
      · exact Ent.trans (b := cells bl (pre ++ ns.map iv ++ junk) 3 :: C :: F) fin (foldSl bl pre junk hlen hcap hjunk)
  · obtain rfl : k = ns.length := by omega
    repeat' (first | refine step ?_ | refine knowI fun hk => ?_ | refine got rfl ?_ | refine And.intro rfl ?_ | (refine And.intro (fun hc => ?_) (fun hc => ?_) <;> (try (exfalso; first | omega | (simp only [List.length_nil, List.length_cons] at hc; omega)))) | (refine And.intro ?_ ?_; focus omega) | (refine And.intro ?_ ?_; focus (simp only [List.length_map, List.length_set, List.length_replicate, List.length_append, List.length_range, List.length_cons, List.length_nil, Nat.blt_eq, Nat.ble_eq]; omega)) | refine anyB fun b => ?_ | refine got (nth_rowI rfl) ?_ | refine got (nth_row0 rfl) ?_ | refine got (nth_row2 rfl) ?_ | fail)
    refine retG Tryz.func122 rfl ?_
    repeat' (first | refine step ?_ | refine knowI fun hk => ?_ | refine got rfl ?_ | refine And.intro rfl ?_ | (refine And.intro (fun hc => ?_) (fun hc => ?_) <;> (try (exfalso; first | omega | (simp only [List.length_nil, List.length_cons] at hc; omega)))) | (refine And.intro ?_ ?_; focus omega) | (refine And.intro ?_ ?_; focus (simp only [List.length_map, List.length_set, List.length_replicate, List.length_append, List.length_range, List.length_cons, List.length_nil, Nat.blt_eq, Nat.ble_eq]; omega)) | refine anyB fun b => ?_ | refine got (nth_rowI rfl) ?_ | refine got (nth_row0 rfl) ?_ | refine got (nth_row2 rfl) ?_ | fail)
    rw [hi, List.drop_length] at h
    exact Wk.mk fin h
theorem ContainsFuncC_spec {ns : List Int} {p : Int → Bool} {v : Value} {C : HP} {f : FuncId} {caps : List Value} [FnC Tryz.prog f] (hin : ∀ x ∈ ns, InR x) (hf : ∀ x ∈ ns, ∀ (l F : HL) (K : Value → HL → Prop), Rem l C F → K (.bool (p x)) (C :: F) → CallG Tryz.prog w0 f (iv x :: caps).toArray l K) (hn : ns.length ≤ 1000000000)
    (hp : Rem l (Ints v ns) F1) (hp2 : Rem F1 C F) (h : K (.bool (ns.any p)) (Ints v ns :: C :: F)) :
    CallG Tryz.prog w0 84 [v, .func (.func f) #[] caps.toArray].toArray l K := by
  refine CallG.ent (hp.ent.trans (Ent.cons _ hp2.ent)) ?_
  refine CallG.weak (CallG.enter Tryz.func84 rfl rfl fun cs => ?_)
  repeat' (first | refine step ?_ | refine knowI fun hk => ?_ | refine got rfl ?_ | refine And.intro rfl ?_ | (refine And.intro (fun hc => ?_) (fun hc => ?_) <;> (try (exfalso; first | omega | (simp only [List.length_nil, List.length_cons] at hc; omega)))) | (refine And.intro ?_ ?_; focus omega) | (refine And.intro ?_ ?_; focus (simp only [List.length_map, List.length_set, List.length_replicate, List.length_append, List.length_range, List.length_cons, List.length_nil, Nat.blt_eq, Nat.ble_eq]; omega)) | refine anyB fun b => ?_ | refine got (nth_rowI rfl) ?_ | refine got (nth_row0 rfl) ?_ | refine got (nth_row2 rfl) ?_ | fail)
  refine IndexFuncC_spec hin hf hn .here .here ?_
  repeat' (first | refine step ?_ | refine knowI fun hk => ?_ | refine got rfl ?_ | refine And.intro rfl ?_ | (refine And.intro (fun hc => ?_) (fun hc => ?_) <;> (try (exfalso; first | omega | (simp only [List.length_nil, List.length_cons] at hc; omega)))) | (refine And.intro ?_ ?_; focus omega) | (refine And.intro ?_ ?_; focus (simp only [List.length_map, List.length_set, List.length_replicate, List.length_append, List.length_range, List.length_cons, List.length_nil, Nat.blt_eq, Nat.ble_eq]; omega)) | refine anyB fun b => ?_ | refine got (nth_rowI rfl) ?_ | refine got (nth_row0 rfl) ?_ | refine got (nth_row2 rfl) ?_ | fail)
  refine retG Tryz.func84 rfl ?_
  repeat' (first | refine step ?_ | refine knowI fun hk => ?_ | refine got rfl ?_ | refine And.intro rfl ?_ | (refine And.intro (fun hc => ?_) (fun hc => ?_) <;> (try (exfalso; first | omega | (simp only [List.length_nil, List.length_cons] at hc; omega)))) | (refine And.intro ?_ ?_; focus omega) | (refine And.intro ?_ ?_; focus (simp only [List.length_map, List.length_set, List.length_replicate, List.length_append, List.length_range, List.length_cons, List.length_nil, Nat.blt_eq, Nat.ble_eq]; omega)) | refine anyB fun b => ?_ | refine got (nth_rowI rfl) ?_ | refine got (nth_row0 rfl) ?_ | refine got (nth_row2 rfl) ?_ | fail)
  rw [idxB_geq]
  exact Wk.mk fin h
end
end Go.Sl
