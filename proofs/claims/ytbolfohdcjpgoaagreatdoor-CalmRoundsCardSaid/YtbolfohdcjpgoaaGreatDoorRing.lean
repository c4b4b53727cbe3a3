/- Nodes on a ring (package ring): comparing, sorting, New, Home, Shards. -/
import Derived.Test.YtbolfohdcjpgoaaGreatDoorSortK
import Derived.Test.YtbolfohdcjpgoaaGreatDoorCrc
import Derived.Test.YtbolfohdcjpgoaaGreatDoorShard
import Derived.Test.YtbolfohdcjpgoaaGreatDoorSlices
import Derived.Test.YtbolfohdcjpgoaaGreatDoorShelf
set_option linter.unusedSimpArgs false
set_option linter.unusedVariables false
set_option linter.unusedSectionVars false
open Go Go.RowKit
namespace Go.Sl
open Go.Proofs
section
variable {w0 : World} {l F F1 : HL} {K : Value → HL → Prop}
def cmpI (a b : Int) : Int := if a < b then -1 else if b < a then 1 else 0
theorem isNaN_spec {x : Int} (h : K (.bool false) l) : CallG Tryz.prog w0 220 [iv x].toArray l K := by
  refine CallG.enter Tryz.func220 rfl rfl fun cs => ?_
  repeat' (first | refine step ?_ | refine knowI fun hk => ?_ | refine got rfl ?_ | refine And.intro rfl ?_ | (refine And.intro (fun hc => ?_) (fun hc => ?_) <;> (try (exfalso; first | omega | (simp only [List.length_nil, List.length_cons] at hc; omega)))) | (refine And.intro ?_ ?_; focus omega) | (refine And.intro ?_ ?_; focus (simp only [List.length_map, List.length_set, List.length_replicate, List.length_append, List.length_range, List.length_cons, List.length_nil, Nat.blt_eq, Nat.ble_eq]; omega)) | refine anyB fun b => ?_ | refine got (nth_rowI rfl) ?_ | refine got (nth_row0 rfl) ?_ | refine got (nth_row2 rfl) ?_ | fail)
  refine retG Tryz.func220 rfl ?_
  repeat' (first | refine step ?_ | refine knowI fun hk => ?_ | refine got rfl ?_ | refine And.intro rfl ?_ | (refine And.intro (fun hc => ?_) (fun hc => ?_) <;> (try (exfalso; first | omega | (simp only [List.length_nil, List.length_cons] at hc; omega)))) | (refine And.intro ?_ ?_; focus omega) | (refine And.intro ?_ ?_; focus (simp only [List.length_map, List.length_set, List.length_replicate, List.length_append, List.length_range, List.length_cons, List.length_nil, Nat.blt_eq, Nat.ble_eq]; omega)) | refine anyB fun b => ?_ | refine got (nth_rowI rfl) ?_ | refine got (nth_row0 rfl) ?_ | refine got (nth_row2 rfl) ?_ | fail)
  simpa [one] using h
theorem Compare_spec {x y : Int} (h : K (iv (cmpI x y)) l) : CallG Tryz.prog w0 194 [iv x, iv y].toArray l K := by
  refine CallG.enter Tryz.func194 rfl rfl fun cs => ?_
  repeat' (first | refine step ?_ | refine knowI fun hk => ?_ | refine got rfl ?_ | refine And.intro rfl ?_ | (refine And.intro (fun hc => ?_) (fun hc => ?_) <;> (try (exfalso; first | omega | (simp only [List.length_nil, List.length_cons] at hc; omega)))) | (refine And.intro ?_ ?_; focus omega) | (refine And.intro ?_ ?_; focus (simp only [List.length_map, List.length_set, List.length_replicate, List.length_append, List.length_range, List.length_cons, List.length_nil, Nat.blt_eq, Nat.ble_eq]; omega)) | refine anyB fun b => ?_ | refine got (nth_rowI rfl) ?_ | refine got (nth_row0 rfl) ?_ | refine got (nth_row2 rfl) ?_ | fail)
  refine isNaN_spec ?_
  repeat' (first | refine step ?_ | refine knowI fun hk => ?_ | refine got rfl ?_ | refine And.intro rfl ?_ | (refine And.intro (fun hc => ?_) (fun hc => ?_) <;> (try (exfalso; first | omega | (simp only [List.length_nil, List.length_cons] at hc; omega)))) | (refine And.intro ?_ ?_; focus omega) | (refine And.intro ?_ ?_; focus (simp only [List.length_map, List.length_set, List.length_replicate, List.length_append, List.length_range, List.length_cons, List.length_nil, Nat.blt_eq, Nat.ble_eq]; omega)) | refine anyB fun b => ?_ | refine got (nth_rowI rfl) ?_ | refine got (nth_row0 rfl) ?_ | refine got (nth_row2 rfl) ?_ | fail)
  refine isNaN_spec ?_
  repeat' (first | refine step ?_ | refine knowI fun hk => ?_ | refine got rfl ?_ | refine And.intro rfl ?_ | (refine And.intro (fun hc => ?_) (fun hc => ?_) <;> (try (exfalso; first | omega | (simp only [List.length_nil, List.length_cons] at hc; omega)))) | (refine And.intro ?_ ?_; focus omega) | (refine And.intro ?_ ?_; focus (simp only [List.length_map, List.length_set, List.length_replicate, List.length_append, List.length_range, List.length_cons, List.length_nil, Nat.blt_eq, Nat.ble_eq]; omega)) | refine anyB fun b => ?_ | refine got (nth_rowI rfl) ?_ | refine got (nth_row0 rfl) ?_ | refine got (nth_row2 rfl) ?_ | fail)
  all_goals (refine retG Tryz.func194 rfl ?_)
  all_goals repeat' (first | refine step ?_ | refine knowI fun hk => ?_ | refine got rfl ?_ | refine And.intro rfl ?_ | (refine And.intro (fun hc => ?_) (fun hc => ?_) <;> (try (exfalso; first | omega | (simp only [List.length_nil, List.length_cons] at hc; omega)))) | (refine And.intro ?_ ?_; focus omega) | (refine And.intro ?_ ?_; focus (simp only [List.length_map, List.length_set, List.length_replicate, List.length_append, List.length_range, List.length_cons, List.length_nil, Nat.blt_eq, Nat.ble_eq]; omega)) | refine anyB fun b => ?_ | refine got (nth_rowI rfl) ?_ | refine got (nth_row0 rfl) ?_ | refine got (nth_row2 rfl) ?_ | fail)
  · rw [cmpI, if_pos hc] at h; exact h
  · rename_i h1
    rw [cmpI, if_neg h1, if_pos (by omega)] at h; exact h
  · rename_i h1
    rw [cmpI, if_neg h1, if_neg (by omega)] at h; exact h
def orI (ns : List Int) : Int := (ns.find? (fun x => decide (x ≠ 0))).getD 0
theorem orI_cons (x : Int) (xs : List Int) : orI (x :: xs) = if x ≠ 0 then x else orI xs := by
  unfold orI
  by_cases h : x = 0 <;> simp [h]
set_option maxRecDepth 8000 in
theorem Or_spec {ns : List Int} {v : Value} (hn : ns.length ≤ 1000000000) (hp : Rem l (Ints v ns) F) (h : K (iv (orI ns)) (Ints v ns :: F)) :
    CallG Tryz.prog w0 193 [v].toArray l K := by
  refine CallG.ent hp.ent ?_
  refine CallG.weak (CallG.enter Tryz.func193 rfl rfl fun cs => ?_)
  refine Run.know (p := ∃ a cap, v = .slice a ns.length cap) (fun w hs => (slr_len hs).2) ?_
  rintro ⟨a, cap, rfl⟩
  repeat' (first | refine step ?_ | refine knowI fun hk => ?_ | refine got rfl ?_ | refine And.intro rfl ?_ | (refine And.intro (fun hc => ?_) (fun hc => ?_) <;> (try (exfalso; first | omega | (simp only [List.length_nil, List.length_cons] at hc; omega)))) | (refine And.intro ?_ ?_; focus omega) | (refine And.intro ?_ ?_; focus (simp only [List.length_map, List.length_set, List.length_replicate, List.length_append, List.length_range, List.length_cons, List.length_nil, Nat.blt_eq, Nat.ble_eq]; omega)) | refine anyB fun b => ?_ | refine got (nth_rowI rfl) ?_ | refine got (nth_row0 rfl) ?_ | refine got (nth_row2 rfl) ?_ | fail)
  refine Run.loop (fun k : Nat => [(3, iv 0), (6, .slice a ns.length cap), (7, .int .i64 ns.length), (8, .int .i64 k)])
    (fun _ => Ints (.slice a ns.length cap) ns :: F) (fun k => k ≤ ns.length ∧ orI ns = orI (ns.drop k)) (fun k => ns.length - k) 0 ⟨Nat.zero_le _, rfl⟩ (by repeat (first | exact Sub.nil _ | refine Sub.cons rfl ?_ | refine Sub.ci rfl (by omega) ?_)) fin ?_
  rintro k ⟨hk, hi⟩ ih
  by_cases hlt : k < ns.length
  · haveI : RowAt ns k ns[k] := ⟨List.getElem?_eq_getElem hlt⟩
    refine openSl (.slice a ns.length cap) (fun _ h0 _ => by omega) fun bl pre junk cap' hv hcap hjunk hlen => ?_
    obtain ⟨rfl, rfl⟩ : a = some ⟨bl, pre.length, none⟩ ∧ cap = cap' := by simpa using hv
    have e1 : ns.drop k = ns[k] :: ns.drop (k + 1) := List.drop_eq_getElem_cons hlt
    rw [e1, orI_cons] at hi
    repeat' (first | refine step ?_ | refine knowI fun hk => ?_ | refine got rfl ?_ | refine And.intro rfl ?_ | (refine And.intro (fun hc => ?_) (fun hc => ?_) <;> (try (exfalso; first | omega | (simp only [List.length_nil, List.length_cons] at hc; omega)))) | (refine And.intro ?_ ?_; focus omega) | (refine And.intro ?_ ?_; focus (simp only [List.length_map, List.length_set, List.length_replicate, List.length_append, List.length_range, List.length_cons, List.length_nil, Nat.blt_eq, Nat.ble_eq]; omega)) | refine anyB fun b => ?_ | refine got (nth_rowI rfl) ?_ | refine got (nth_row0 rfl) ?_ | refine got (nth_row2 rfl) ?_ | fail)
    · refine retG Tryz.func193 rfl ?_
      repeat' (first | refine step ?_ | refine knowI fun hk => ?_ | refine got rfl ?_ | refine And.intro rfl ?_ | (refine And.intro (fun hc => ?_) (fun hc => ?_) <;> (try (exfalso; first | omega | (simp only [List.length_nil, List.length_cons] at hc; omega)))) | (refine And.intro ?_ ?_; focus omega) | (refine And.intro ?_ ?_; focus (simp only [List.length_map, List.length_set, List.length_replicate, List.length_append, List.length_range, List.length_cons, List.length_nil, Nat.blt_eq, Nat.ble_eq]; omega)) | refine anyB fun b => ?_ | refine got (nth_rowI rfl) ?_ | refine got (nth_row0 rfl) ?_ | refine got (nth_row2 rfl) ?_ | fail)
      rw [hi, if_pos hc] at h
      exact Wk.mk (foldSl bl pre junk hlen hcap hjunk) h
    · refine Run.sub ?_ (Run.ent ?_ (ih (k + 1) ⟨by omega, by rw [hi, if_neg hc]⟩ (by omega)))
      · exact (by repeat (first | exact Sub.nil _ | refine Sub.cons rfl ?_ | refine Sub.ci rfl (by omega) ?_))
      · exact foldSl bl pre junk hlen hcap hjunk
  · obtain rfl : k = ns.length := by omega
    repeat' (first | refine step ?_ | refine knowI fun hk => ?_ | refine got rfl ?_ | refine And.intro rfl ?_ | (refine And.intro (fun hc => ?_) (fun hc => ?_) <;> (try (exfalso; first | omega | (simp only [List.length_nil, List.length_cons] at hc; omega)))) | (refine And.intro ?_ ?_; focus omega) | (refine And.intro ?_ ?_; focus (simp only [List.length_map, List.length_set, List.length_replicate, List.length_append, List.length_range, List.length_cons, List.length_nil, Nat.blt_eq, Nat.ble_eq]; omega)) | refine anyB fun b => ?_ | refine got (nth_rowI rfl) ?_ | refine got (nth_row0 rfl) ?_ | refine got (nth_row2 rfl) ?_ | fail)
    refine retG Tryz.func193 rfl ?_
    repeat' (first | refine step ?_ | refine knowI fun hk => ?_ | refine got rfl ?_ | refine And.intro rfl ?_ | (refine And.intro (fun hc => ?_) (fun hc => ?_) <;> (try (exfalso; first | omega | (simp only [List.length_nil, List.length_cons] at hc; omega)))) | (refine And.intro ?_ ?_; focus omega) | (refine And.intro ?_ ?_; focus (simp only [List.length_map, List.length_set, List.length_replicate, List.length_append, List.length_range, List.length_cons, List.length_nil, Nat.blt_eq, Nat.ble_eq]; omega)) | refine anyB fun b => ?_ | refine got (nth_rowI rfl) ?_ | refine got (nth_row0 rfl) ?_ | refine got (nth_row2 rfl) ?_ | fail)
    rw [hi, List.drop_length] at h
    exact Wk.mk fin h
abbrev Place := Int × Int
abbrev placeRow (p : Place) : List Value := [iv p.1, iv p.2]
instance : RowLen placeRow 2 := ⟨fun _ => rfl⟩
def cmpP (x y : Place) : Int := if cmpI x.1 y.1 ≠ 0 then cmpI x.1 y.1 else cmpI x.2 y.2
theorem orI_two (a b : Int) : orI [a, b] = if a ≠ 0 then a else b := by
  rw [orI_cons, orI_cons]; by_cases h : b = 0 <;> simp [h, orI]
theorem ringCmp_spec {x y : Place} (h : K (iv (cmpP x y)) l) : CallG Tryz.prog w0 215 [.agg (placeRow x).toArray, .agg (placeRow y).toArray].toArray l K := by
  refine CallG.weak (CallG.enter Tryz.func215 rfl rfl fun cs => ?_)
  repeat' (first | refine step ?_ | refine knowI fun hk => ?_ | refine got rfl ?_ | refine And.intro rfl ?_ | (refine And.intro (fun hc => ?_) (fun hc => ?_) <;> (try (exfalso; first | omega | (simp only [List.length_nil, List.length_cons] at hc; omega)))) | (refine And.intro ?_ ?_; focus omega) | (refine And.intro ?_ ?_; focus (simp only [List.length_map, List.length_set, List.length_replicate, List.length_append, List.length_range, List.length_cons, List.length_nil, Nat.blt_eq, Nat.ble_eq]; omega)) | refine anyB fun b => ?_ | refine got (nth_rowI rfl) ?_ | refine got (nth_row0 rfl) ?_ | refine got (nth_row2 rfl) ?_ | fail)
  refine Run.drawI [0, 1] rfl ?_
  repeat' (first | refine step ?_ | refine knowI fun hk => ?_ | refine got rfl ?_ | refine And.intro rfl ?_ | (refine And.intro (fun hc => ?_) (fun hc => ?_) <;> (try (exfalso; first | omega | (simp only [List.length_nil, List.length_cons] at hc; omega)))) | (refine And.intro ?_ ?_; focus omega) | (refine And.intro ?_ ?_; focus (simp only [List.length_map, List.length_set, List.length_replicate, List.length_append, List.length_range, List.length_cons, List.length_nil, Nat.blt_eq, Nat.ble_eq]; omega)) | refine anyB fun b => ?_ | refine got (nth_rowI rfl) ?_ | refine got (nth_row0 rfl) ?_ | refine got (nth_row2 rfl) ?_ | refine And.intro (keepS (by decide +kernel)) ?_ | refine And.intro keepR ?_ | refine RunD.done (by decide +kernel) ?_ | refine tk 0 rfl (by decide +kernel) ?_ | refine tk 1 rfl (by decide +kernel) ?_ | refine tk 2 rfl (by decide +kernel) ?_ | refine tk 3 rfl (by decide +kernel) ?_ | refine ef 4 (by decide +kernel) rfl ?_ | refine tk 5 rfl (by decide +kernel) ?_ | refine tk 6 rfl (by decide +kernel) ?_ | refine tk 7 rfl (by decide +kernel) ?_ | refine tk 8 rfl (by decide +kernel) ?_ | refine ef 9 (by decide +kernel) rfl ?_ | refine ef 10 (by decide +kernel) rfl ?_ | refine ef 11 (by decide +kernel) rfl ?_ | refine tk 12 rfl (by decide +kernel) ?_ | fail)
  refine Compare_spec ?_
  repeat' (first | refine step ?_ | refine knowI fun hk => ?_ | refine got rfl ?_ | refine And.intro rfl ?_ | (refine And.intro (fun hc => ?_) (fun hc => ?_) <;> (try (exfalso; first | omega | (simp only [List.length_nil, List.length_cons] at hc; omega)))) | (refine And.intro ?_ ?_; focus omega) | (refine And.intro ?_ ?_; focus (simp only [List.length_map, List.length_set, List.length_replicate, List.length_append, List.length_range, List.length_cons, List.length_nil, Nat.blt_eq, Nat.ble_eq]; omega)) | refine anyB fun b => ?_ | refine got (nth_rowI rfl) ?_ | refine got (nth_row0 rfl) ?_ | refine got (nth_row2 rfl) ?_ | refine And.intro (keepS (by decide +kernel)) ?_ | refine And.intro keepR ?_ | refine RunD.done (by decide +kernel) ?_ | refine tk 0 rfl (by decide +kernel) ?_ | refine tk 1 rfl (by decide +kernel) ?_ | refine tk 2 rfl (by decide +kernel) ?_ | refine tk 3 rfl (by decide +kernel) ?_ | refine ef 4 (by decide +kernel) rfl ?_ | refine tk 5 rfl (by decide +kernel) ?_ | refine tk 6 rfl (by decide +kernel) ?_ | refine tk 7 rfl (by decide +kernel) ?_ | refine tk 8 rfl (by decide +kernel) ?_ | refine ef 9 (by decide +kernel) rfl ?_ | refine ef 10 (by decide +kernel) rfl ?_ | refine ef 11 (by decide +kernel) rfl ?_ | refine tk 12 rfl (by decide +kernel) ?_ | fail)
  refine Compare_spec ?_
  repeat' (first | refine step ?_ | refine knowI fun hk => ?_ | refine got rfl ?_ | refine And.intro rfl ?_ | (refine And.intro (fun hc => ?_) (fun hc => ?_) <;> (try (exfalso; first | omega | (simp only [List.length_nil, List.length_cons] at hc; omega)))) | (refine And.intro ?_ ?_; focus omega) | (refine And.intro ?_ ?_; focus (simp only [List.length_map, List.length_set, List.length_replicate, List.length_append, List.length_range, List.length_cons, List.length_nil, Nat.blt_eq, Nat.ble_eq]; omega)) | refine anyB fun b => ?_ | refine got (nth_rowI rfl) ?_ | refine got (nth_row0 rfl) ?_ | refine got (nth_row2 rfl) ?_ | refine And.intro (keepS (by decide +kernel)) ?_ | refine And.intro keepR ?_ | refine RunD.done (by decide +kernel) ?_ | refine tk 0 rfl (by decide +kernel) ?_ | refine tk 1 rfl (by decide +kernel) ?_ | refine tk 2 rfl (by decide +kernel) ?_ | refine tk 3 rfl (by decide +kernel) ?_ | refine ef 4 (by decide +kernel) rfl ?_ | refine tk 5 rfl (by decide +kernel) ?_ | refine tk 6 rfl (by decide +kernel) ?_ | refine tk 7 rfl (by decide +kernel) ?_ | refine tk 8 rfl (by decide +kernel) ?_ | refine ef 9 (by decide +kernel) rfl ?_ | refine ef 10 (by decide +kernel) rfl ?_ | refine ef 11 (by decide +kernel) rfl ?_ | refine tk 12 rfl (by decide +kernel) ?_ | fail)
  refine CallG.ent (slr_all (n := 2) (sz := 1) rfl _) ?_
  refine Or_spec (ns := [cmpI x.1 y.1, cmpI x.2 y.2]) (by simp) .here ?_
  rw [orI_two]
  repeat' (first | refine step ?_ | refine knowI fun hk => ?_ | refine got rfl ?_ | refine And.intro rfl ?_ | (refine And.intro (fun hc => ?_) (fun hc => ?_) <;> (try (exfalso; first | omega | (simp only [List.length_nil, List.length_cons] at hc; omega)))) | (refine And.intro ?_ ?_; focus omega) | (refine And.intro ?_ ?_; focus (simp only [List.length_map, List.length_set, List.length_replicate, List.length_append, List.length_range, List.length_cons, List.length_nil, Nat.blt_eq, Nat.ble_eq]; omega)) | refine anyB fun b => ?_ | refine got (nth_rowI rfl) ?_ | refine got (nth_row0 rfl) ?_ | refine got (nth_row2 rfl) ?_ | refine And.intro (keepS (by decide +kernel)) ?_ | refine And.intro keepR ?_ | refine RunD.done (by decide +kernel) ?_ | refine tk 0 rfl (by decide +kernel) ?_ | refine tk 1 rfl (by decide +kernel) ?_ | refine tk 2 rfl (by decide +kernel) ?_ | refine tk 3 rfl (by decide +kernel) ?_ | refine ef 4 (by decide +kernel) rfl ?_ | refine tk 5 rfl (by decide +kernel) ?_ | refine tk 6 rfl (by decide +kernel) ?_ | refine tk 7 rfl (by decide +kernel) ?_ | refine tk 8 rfl (by decide +kernel) ?_ | refine ef 9 (by decide +kernel) rfl ?_ | refine ef 10 (by decide +kernel) rfl ?_ | refine ef 11 (by decide +kernel) rfl ?_ | refine tk 12 rfl (by decide +kernel) ?_ | fail)
  repeat' (first | refine step ?_ | refine knowI fun hk => ?_ | refine got rfl ?_ | refine And.intro rfl ?_ | (refine And.intro (fun hc => ?_) (fun hc => ?_) <;> (try (exfalso; first | omega | (simp only [List.length_nil, List.length_cons] at hc; omega)))) | (refine And.intro ?_ ?_; focus omega) | (refine And.intro ?_ ?_; focus (simp only [List.length_map, List.length_set, List.length_replicate, List.length_append, List.length_range, List.length_cons, List.length_nil, Nat.blt_eq, Nat.ble_eq]; omega)) | refine anyB fun b => ?_ | refine got (nth_rowI rfl) ?_ | refine got (nth_row0 rfl) ?_ | refine got (nth_row2 rfl) ?_ | fail)
  refine retG Tryz.func215 rfl ?_
  repeat' (first | refine step ?_ | refine knowI fun hk => ?_ | refine got rfl ?_ | refine And.intro rfl ?_ | (refine And.intro (fun hc => ?_) (fun hc => ?_) <;> (try (exfalso; first | omega | (simp only [List.length_nil, List.length_cons] at hc; omega)))) | (refine And.intro ?_ ?_; focus omega) | (refine And.intro ?_ ?_; focus (simp only [List.length_map, List.length_set, List.length_replicate, List.length_append, List.length_range, List.length_cons, List.length_nil, Nat.blt_eq, Nat.ble_eq]; omega)) | refine anyB fun b => ?_ | refine got (nth_rowI rfl) ?_ | refine got (nth_row0 rfl) ?_ | refine got (nth_row2 rfl) ?_ | fail)
  exact Wk.mk (Ent.drop (Ent.drop (Ent.drop (.refl _)))) h
end
end Go.Sl
/- Nodes on a ring (package ring): sorting. -/
open Go Go.RowKit
namespace Go.Sl
open Go.Proofs
section
variable {w0 : World} {l F F1 : HL} {K : Value → HL → Prop}
theorem bitsLen_spec {n : Nat} (hn : n < 18446744073709551616) (h : K (.int .i64 (Lib.bitLen n)) l) : CallG Tryz.prog w0 212 [.int .u64 n].toArray l K :=
  CallG.same (fun w _ => by
    have := Tryz.bits_Len (n : Int) w (by omega) (by omega)
    simpa using this) h
theorem insNone {g : Value} (h : K (.tuple #[]) l) : CallG Tryz.prog w0 253 [.slice none 0 0, iv 0, iv 0, g].toArray l K := by
  refine CallG.enter Tryz.func253 rfl rfl fun cs => ?_
  repeat' (first | refine step ?_ | refine knowI fun hk => ?_ | refine got rfl ?_ | refine And.intro rfl ?_ | (refine And.intro (fun hc => ?_) (fun hc => ?_) <;> (try (exfalso; first | omega | (simp only [List.length_nil, List.length_cons] at hc; omega)))) | (refine And.intro ?_ ?_; focus omega) | (refine And.intro ?_ ?_; focus (simp only [List.length_map, List.length_set, List.length_replicate, List.length_append, List.length_range, List.length_cons, List.length_nil, Nat.blt_eq, Nat.ble_eq]; omega)) | refine anyB fun b => ?_ | refine got (nth_rowI rfl) ?_ | refine got (nth_row0 rfl) ?_ | refine got (nth_row2 rfl) ?_ | fail)
  refine Run.loop1 ?_
  repeat' (first | refine step ?_ | refine knowI fun hk => ?_ | refine got rfl ?_ | refine And.intro rfl ?_ | (refine And.intro (fun hc => ?_) (fun hc => ?_) <;> (try (exfalso; first | omega | (simp only [List.length_nil, List.length_cons] at hc; omega)))) | (refine And.intro ?_ ?_; focus omega) | (refine And.intro ?_ ?_; focus (simp only [List.length_map, List.length_set, List.length_replicate, List.length_append, List.length_range, List.length_cons, List.length_nil, Nat.blt_eq, Nat.ble_eq]; omega)) | refine anyB fun b => ?_ | refine got (nth_rowI rfl) ?_ | refine got (nth_row0 rfl) ?_ | refine got (nth_row2 rfl) ?_ | fail)
  refine fin0 Tryz.func253 rfl ?_
  exact h
theorem pdqNone {g : Value} {m : Int} (h : K (.tuple #[]) l) : CallG Tryz.prog w0 239 [.slice none 0 0, iv 0, iv 0, iv m, g].toArray l K := by
  refine CallG.enter Tryz.func239 rfl rfl fun cs => ?_
  repeat' (first | refine step ?_ | refine knowI fun hk => ?_ | refine got rfl ?_ | refine And.intro rfl ?_ | (refine And.intro (fun hc => ?_) (fun hc => ?_) <;> (try (exfalso; first | omega | (simp only [List.length_nil, List.length_cons] at hc; omega)))) | (refine And.intro ?_ ?_; focus omega) | (refine And.intro ?_ ?_; focus (simp only [List.length_map, List.length_set, List.length_replicate, List.length_append, List.length_range, List.length_cons, List.length_nil, Nat.blt_eq, Nat.ble_eq]; omega)) | refine anyB fun b => ?_ | refine got (nth_rowI rfl) ?_ | refine got (nth_row0 rfl) ?_ | refine got (nth_row2 rfl) ?_ | fail)
  refine Run.loop1 ?_
  repeat' (first | refine step ?_ | refine knowI fun hk => ?_ | refine got rfl ?_ | refine And.intro rfl ?_ | (refine And.intro (fun hc => ?_) (fun hc => ?_) <;> (try (exfalso; first | omega | (simp only [List.length_nil, List.length_cons] at hc; omega)))) | (refine And.intro ?_ ?_; focus omega) | (refine And.intro ?_ ?_; focus (simp only [List.length_map, List.length_set, List.length_replicate, List.length_append, List.length_range, List.length_cons, List.length_nil, Nat.blt_eq, Nat.ble_eq]; omega)) | refine anyB fun b => ?_ | refine got (nth_rowI rfl) ?_ | refine got (nth_row0 rfl) ?_ | refine got (nth_row2 rfl) ?_ | fail)
  refine insNone ?_
  repeat' (first | refine step ?_ | refine knowI fun hk => ?_ | refine got rfl ?_ | refine And.intro rfl ?_ | (refine And.intro (fun hc => ?_) (fun hc => ?_) <;> (try (exfalso; first | omega | (simp only [List.length_nil, List.length_cons] at hc; omega)))) | (refine And.intro ?_ ?_; focus omega) | (refine And.intro ?_ ?_; focus (simp only [List.length_map, List.length_set, List.length_replicate, List.length_append, List.length_range, List.length_cons, List.length_nil, Nat.blt_eq, Nat.ble_eq]; omega)) | refine anyB fun b => ?_ | refine got (nth_rowI rfl) ?_ | refine got (nth_row0 rfl) ?_ | refine got (nth_row2 rfl) ?_ | fail)
  refine retG Tryz.func239 rfl ?_
  repeat' (first | refine step ?_ | refine knowI fun hk => ?_ | refine got rfl ?_ | refine And.intro rfl ?_ | (refine And.intro (fun hc => ?_) (fun hc => ?_) <;> (try (exfalso; first | omega | (simp only [List.length_nil, List.length_cons] at hc; omega)))) | (refine And.intro ?_ ?_; focus omega) | (refine And.intro ?_ ?_; focus (simp only [List.length_map, List.length_set, List.length_replicate, List.length_append, List.length_range, List.length_cons, List.length_nil, Nat.blt_eq, Nat.ble_eq]; omega)) | refine anyB fun b => ?_ | refine got (nth_rowI rfl) ?_ | refine got (nth_row0 rfl) ?_ | refine got (nth_row2 rfl) ?_ | fail)
  exact h
theorem sortNone {g : Value} (h : K (.tuple #[]) l) : CallG Tryz.prog w0 214 [.slice none 0 0, g].toArray l K := by
  refine CallG.enter Tryz.func214 rfl rfl fun cs => ?_
  repeat' (first | refine step ?_ | refine knowI fun hk => ?_ | refine got rfl ?_ | refine And.intro rfl ?_ | (refine And.intro (fun hc => ?_) (fun hc => ?_) <;> (try (exfalso; first | omega | (simp only [List.length_nil, List.length_cons] at hc; omega)))) | (refine And.intro ?_ ?_; focus omega) | (refine And.intro ?_ ?_; focus (simp only [List.length_map, List.length_set, List.length_replicate, List.length_append, List.length_range, List.length_cons, List.length_nil, Nat.blt_eq, Nat.ble_eq]; omega)) | refine anyB fun b => ?_ | refine got (nth_rowI rfl) ?_ | refine got (nth_row0 rfl) ?_ | refine got (nth_row2 rfl) ?_ | fail)
  rw [show ((0 : Nat) : Int) = 0 from rfl]
  refine bitsLen_spec (n := 0) (by omega) ?_
  repeat' (first | refine step ?_ | refine knowI fun hk => ?_ | refine got rfl ?_ | refine And.intro rfl ?_ | (refine And.intro (fun hc => ?_) (fun hc => ?_) <;> (try (exfalso; first | omega | (simp only [List.length_nil, List.length_cons] at hc; omega)))) | (refine And.intro ?_ ?_; focus omega) | (refine And.intro ?_ ?_; focus (simp only [List.length_map, List.length_set, List.length_replicate, List.length_append, List.length_range, List.length_cons, List.length_nil, Nat.blt_eq, Nat.ble_eq]; omega)) | refine anyB fun b => ?_ | refine got (nth_rowI rfl) ?_ | refine got (nth_row0 rfl) ?_ | refine got (nth_row2 rfl) ?_ | fail)
  refine pdqNone ?_
  repeat' (first | refine step ?_ | refine knowI fun hk => ?_ | refine got rfl ?_ | refine And.intro rfl ?_ | (refine And.intro (fun hc => ?_) (fun hc => ?_) <;> (try (exfalso; first | omega | (simp only [List.length_nil, List.length_cons] at hc; omega)))) | (refine And.intro ?_ ?_; focus omega) | (refine And.intro ?_ ?_; focus (simp only [List.length_map, List.length_set, List.length_replicate, List.length_append, List.length_range, List.length_cons, List.length_nil, Nat.blt_eq, Nat.ble_eq]; omega)) | refine anyB fun b => ?_ | refine got (nth_rowI rfl) ?_ | refine got (nth_row0 rfl) ?_ | refine got (nth_row2 rfl) ?_ | fail)
  refine fin0 Tryz.func214 rfl ?_
  exact h
theorem cmpI_lt {a b : Int} : cmpI a b < 0 ↔ a < b := by
  unfold cmpI; split
  · constructor <;> intro h <;> omega
  · split <;> (constructor <;> intro h <;> omega)
theorem cmpI_ne {a b : Int} : cmpI a b ≠ 0 ↔ a ≠ b := by
  unfold cmpI; split
  · constructor <;> intro h <;> omega
  · split <;> (constructor <;> intro h <;> omega)
def ltP (x y : Place) : Prop := x.1 < y.1 ∨ x.1 = y.1 ∧ x.2 < y.2
theorem cmpP_lt {x y : Place} : cmpP x y < 0 ↔ ltP x y := by
  unfold cmpP ltP
  by_cases h : x.1 = y.1
  · have : ¬ cmpI x.1 y.1 ≠ 0 := by rw [cmpI_ne]; simpa using h
    rw [if_neg this, cmpI_lt]; constructor
    · intro h2; exact .inr ⟨h, h2⟩
    · rintro (h2 | h2)
      · omega
      · exact h2.2
  · rw [if_pos (cmpI_ne.2 h), cmpI_lt]; constructor
    · intro h2; exact .inl h2
    · rintro (h2 | h2)
      · exact h2
      · exact absurd h2.1 h
theorem swoP : Go.Sort.SWO (Go.Proofs.ltOf cmpP) where
  irrefl x := by simp only [Go.Proofs.ltOf, decide_eq_false_iff_not, cmpP_lt, ltP]; omega
  trans x y z h1 h2 := by simp only [Go.Proofs.ltOf, decide_eq_true_eq, cmpP_lt, ltP] at *; omega
  ntrans x y z h1 h2 := by simp only [Go.Proofs.ltOf, decide_eq_false_iff_not, cmpP_lt, ltP] at *; omega
instance : Inhabited Place := ⟨(0, 0)⟩
theorem Sort_spec {xs : List Place} {v : Value} (hn : xs.length < 4611686018427387904) (hp : Rem l (SlR v 351 2 xs.length (xs.flatMap placeRow)) F)
    (h : ∀ ys : List Place, ys.Perm xs → (ys.Pairwise fun a b => ¬ ltP b a) → K (.tuple #[]) (SlR v 351 2 ys.length (ys.flatMap placeRow) :: F)) :
    CallG Tryz.prog w0 214 [v, .func (.func 215) #[] #[]].toArray l K := by
  refine sort_bridge (enc := placeRow) (k := 2) (caps := []) (cf := cmpP) (fun _ => rfl) ?_ (fun l K h => sortNone h) (fun w0 l K x y h => ringCmp_spec h) hn hp (fun ys h1 h2 => h ys h1 (h2.imp fun h3 h4 => h3 (cmpP_lt.2 h4)))
  intro blk off cap d w hc hH hb hs
  have hag : Agg Tryz.prog 351 2 := inferInstance
  exact AnyQ.slices_SortFunc Tryz.sortPlace 2 (fun w => run_isAgg_yes hag) (fun w => run_size_agg hag) placeRow (fun _ => rfl) (fun x v hv => by simp [placeRow] at hv; rcases hv with rfl | rfl <;> rfl) cmpP swoP 215 #[] blk off cap d w
    (fun args w => run_callFunc inferInstance args w) hc hH hb hs
end
end Go.Sl
/- Nodes on a ring (package ring): New. -/
open Go Go.RowKit
namespace Go.Sl
open Go.Proofs
abbrev vb (b : Bool) : Value := .bool b
instance : ElV vb (.bool true) true := ⟨rfl⟩
instance : ElV vb (.bool false) false := ⟨rfl⟩
instance : ZerV Tryz.prog 4 (.bool false) := ⟨by kernel_rfl⟩
def nodeB : List UInt8 := [110, 111, 100, 101]
/-- the places of a node -/
def placesOf (n : Int) (k : Nat) : List Place := (List.range k).map fun (i : Nat) => ((spot nodeB n i : Int), n)
abbrev RingR (r mb : Nat) (ns : List Int) (a : Option Addr) (cap : Nat) (pl : List Place) (F : HL) : HL :=
  cells r [.bool true, .map (some mb), .slice a pl.length cap] 348 :: MapA mb vb (ns.map fun n => (n, true)) :: SlR (.slice a pl.length cap) 351 2 pl.length (pl.flatMap placeRow) :: F
def RingA (r : Nat) (ns : List Int) (pl : List Place) : HP := ex fun x : Nat × Option Addr × Nat => all (RingR r x.1 ns x.2.1 x.2.2 pl [])
section
variable {w0 : World} {l F F1 : HL} {K : Value → HL → Prop}
theorem ring_open {r : Nat} {ns : List Int} {pl : List Place} {f : FuncId} {args : Array Value} (hp : Rem l (RingA r ns pl) F)
    (h : ∀ mb a cap, CallG Tryz.prog w0 f args (RingR r mb ns a cap pl F) K) : CallG Tryz.prog w0 f args l K := by
  intro w hs
  obtain ⟨⟨mb, a, cap⟩, hs⟩ := (hs.ent hp.ent).ex
  exact h mb a cap w (hs.ent (ent_all _ _))
theorem ring_close {r mb : Nat} {ns : List Int} {pl : List Place} (a : Option Addr) (cap : Nat) : Ent (RingR r mb ns a cap pl F) (RingA r ns pl :: F) :=
  (ent_all' (RingR r mb ns a cap pl []) F).trans (ent_ex (fun x : Nat × Option Addr × Nat => all (RingR r x.1 ns x.2.1 x.2.2 pl [])) (mb, a, cap) F)
theorem mget_keys {ns : List Int} {a : Int} : mget (ns.map fun n => (n, true)) a = if a ∈ ns then some true else none := by
  induction ns with
  | nil => rfl
  | cons n ns ih =>
    unfold mget at ih ⊢
    rw [List.map_cons, List.find?_cons]
    by_cases h : n = a
    · subst h; simp
    · have : ((n, true).1 == a) = false := by simpa using h
      rw [this]
      simp only [List.mem_cons, Ne.symm h, false_or]; exact ih
theorem mput_new {α : Type} {m : List (Int × α)} {a : Int} {v : α} (h : mget m a = none) : mput m a v = m ++ [(a, v)] := by unfold mput; rw [mget_none h]
theorem placesOf_length (n : Int) (k : Nat) : (placesOf n k).length = k := by simp [placesOf]
theorem places_length (k : Nat) : ∀ ns : List Int, (ns.flatMap fun n => placesOf n k).length = ns.length * k
  | [] => by simp
  | n :: ns => by rw [List.flatMap_cons, List.length_append, placesOf_length, places_length k ns, List.length_cons, Nat.add_mul]; omega
theorem placesOf_succ (n : Int) (j : Nat) : placesOf n (j + 1) = placesOf n j ++ [((spot nodeB n j : Int), n)] := by
  simp [placesOf, List.range_succ]
set_option maxRecDepth 8000 in
theorem RingNew_spec [Laid w0] {ns : List Int} {v : Value} {places : Nat} (hns : ∀ n ∈ ns, 0 ≤ n ∧ n < 8) (hnd : ns.Nodup) (hlen : ns.length ≤ 8) (hpl : 1 ≤ places ∧ places ≤ 64)
    (hp : Rem l (Ints v ns) F) (h : ∀ r pl, pl.Perm (ns.flatMap fun n => placesOf n places) → (pl.Pairwise fun a b => ¬ ltP b a) → K (.tuple #[pt r, .int .i64 0]) (RingA r ns pl :: Ints v ns :: F)) :
    CallG Tryz.prog w0 180 [v, .int .i64 places].toArray l K := by
  refine CallG.ent hp.ent ?_
  refine CallG.weak (CallG.enter Tryz.func180 rfl rfl fun cs => ?_)
  refine Run.know (p := ∃ a cap, v = .slice a ns.length cap) (fun w hs => (slr_len hs).2) ?_
  rintro ⟨na, ncap, rfl⟩
  repeat' (first | refine step ?_ | refine knowI fun hk => ?_ | refine got rfl ?_ | refine And.intro rfl ?_ | (refine And.intro (fun hc => ?_) (fun hc => ?_) <;> (try (exfalso; first | omega | (simp only [List.length_nil, List.length_cons] at hc; omega)))) | (refine And.intro ?_ ?_; focus omega) | (refine And.intro ?_ ?_; focus (simp only [List.length_map, List.length_set, List.length_replicate, List.length_append, List.length_range, List.length_cons, List.length_nil, Nat.blt_eq, Nat.ble_eq]; omega)) | refine anyB fun b => ?_ | refine got (nth_rowI rfl) ?_ | refine got (nth_row0 rfl) ?_ | refine got (nth_row2 rfl) ?_ | fail)
  rename_i mb
  refine Run.loop (fun x : Nat × List Place × Option Addr × Nat => [(1, .int .i64 places), (6, pt b), (19, .slice na ns.length ncap), (20, .int .i64 ns.length), (21, .int .i64 x.1)])
    (fun x => RingR b mb (ns.take x.1) x.2.2.1 x.2.2.2 x.2.1 (Ints (.slice na ns.length ncap) ns :: F))
    (fun x => x.1 ≤ ns.length ∧ x.2.1 = (ns.take x.1).flatMap fun n => placesOf n places) (fun x => ns.length - x.1) (0, [], none, 0) ⟨Nat.zero_le _, rfl⟩ (by repeat (first | exact Sub.nil _ | refine Sub.cons rfl ?_ | refine Sub.ci rfl (by omega) ?_)) ?_ ?_
  · simp only [RingR, List.take_zero, List.map_nil, List.length_nil, List.flatMap_nil]
    refine Ent.trans (slr_nil 351 2 _) (Ent.trans (b := obj mb (.map #[] 0) :: cells b [.bool true, .map (some mb), .slice none 0 0] 348 :: SlR (.slice none 0 0) 351 2 0 [] :: Ints (.slice na ns.length ncap) ns :: F) fin ?_)
    exact Ent.trans (mapa_new mb vb _) fin
  rintro ⟨k, pl, a, cap⟩ ⟨h1, h2⟩ ih
  dsimp only at h1 h2 ih ⊢
  by_cases hlt : k < ns.length
  · haveI : RowAt ns k ns[k] := ⟨List.getElem?_eq_getElem hlt⟩
    have hn := hns _ (List.getElem_mem hlt)
    refine openSl (.slice na ns.length ncap) (fun _ h0 _ => by omega) fun bl pre junk cap' hv hcap hjunk hlen' => ?_
    obtain ⟨rfl, rfl⟩ : na = some ⟨bl, pre.length, none⟩ ∧ ncap = cap' := by simpa using hv
    repeat' (first | refine step ?_ | refine knowI fun hk => ?_ | refine got rfl ?_ | refine And.intro rfl ?_ | (refine And.intro (fun hc => ?_) (fun hc => ?_) <;> (try (exfalso; first | omega | (simp only [List.length_nil, List.length_cons] at hc; omega)))) | (refine And.intro ?_ ?_; focus omega) | (refine And.intro ?_ ?_; focus (simp only [List.length_map, List.length_set, List.length_replicate, List.length_append, List.length_range, List.length_cons, List.length_nil, Nat.blt_eq, Nat.ble_eq]; omega)) | refine anyB fun b => ?_ | refine got (nth_rowI rfl) ?_ | refine got (nth_row0 rfl) ?_ | refine got (nth_row2 rfl) ?_ | fail)
    have hmem : ns[k] ∉ ns.take k := by
      intro hm
      obtain ⟨j, hj, he⟩ := List.getElem_of_mem hm
      rw [List.getElem_take] at he
      have hjk : j < k := by rw [List.length_take] at hj; omega
      have := (List.nodup_iff_pairwise_ne.1 hnd)
      have := List.pairwise_iff_getElem.1 this j k (by omega) hlt hjk
      exact this he
    have hg : mget ((ns.take k).map fun n => (n, true)) ns[k] = none := by rw [mget_keys, if_neg hmem]
    have hput : mput ((ns.take k).map fun n => (n, true)) ns[k] true = (ns.take (k + 1)).map fun n => (n, true) := by
      rw [mput_new hg, List.take_add_one, List.getElem?_eq_getElem hlt, List.map_append]; rfl
    rw [hg, show lkRes vb (Value.bool false) false none = Value.bool false from rfl]
    repeat' (first | refine step ?_ | refine knowI fun hk => ?_ | refine got rfl ?_ | refine And.intro rfl ?_ | (refine And.intro (fun hc => ?_) (fun hc => ?_) <;> (try (exfalso; first | omega | (simp only [List.length_nil, List.length_cons] at hc; omega)))) | (refine And.intro ?_ ?_; focus omega) | (refine And.intro ?_ ?_; focus (simp only [List.length_map, List.length_set, List.length_replicate, List.length_append, List.length_range, List.length_cons, List.length_nil, Nat.blt_eq, Nat.ble_eq]; omega)) | refine anyB fun b => ?_ | refine got (nth_rowI rfl) ?_ | refine got (nth_row0 rfl) ?_ | refine got (nth_row2 rfl) ?_ | fail)
    rw [hput]
    refine Run.loop (fun x : Nat × List Place × Option Addr × Nat => [(1, .int .i64 places), (6, pt b), (8, iv ns[k]), (19, .slice (some ⟨bl, pre.length, none⟩) ns.length ncap), (20, .int .i64 ns.length), (21, .int .i64 k), (44, .int .i64 places), (45, .int .i64 x.1)])
      (fun x => RingR b mb (ns.take (k + 1)) x.2.2.1 x.2.2.2 x.2.1 (cells bl (pre ++ ns.map iv ++ junk) 3 :: F))
      (fun x => x.1 ≤ places ∧ x.2.1 = pl ++ placesOf ns[k] x.1) (fun x => places - x.1) (0, pl, a, cap) ⟨Nat.zero_le _, by simp [placesOf]⟩ (by repeat (first | exact Sub.nil _ | refine Sub.cons rfl ?_ | refine Sub.ci rfl (by omega) ?_)) fin ?_
    rintro ⟨j, pl', a', cap'⟩ ⟨g1, g2⟩ ih2
    dsimp only at g1 g2 ih2 ⊢
    by_cases hj : j < places
    · have hpl' : pl'.length ≤ 1000 := by
        rw [g2, List.length_append, placesOf_length, h2, places_length, List.length_take]
        have : min k ns.length * places ≤ 8 * 64 := Nat.mul_le_mul (by omega) hpl.2
        omega
      repeat' (first | refine step ?_ | refine knowI fun hk => ?_ | refine got rfl ?_ | refine And.intro rfl ?_ | (refine And.intro (fun hc => ?_) (fun hc => ?_) <;> (try (exfalso; first | omega | (simp only [List.length_nil, List.length_cons] at hc; omega)))) | (refine And.intro ?_ ?_; focus omega) | (refine And.intro ?_ ?_; focus (simp only [List.length_map, List.length_set, List.length_replicate, List.length_append, List.length_range, List.length_cons, List.length_nil, Nat.blt_eq, Nat.ble_eq]; omega)) | refine anyB fun b => ?_ | refine got (nth_rowI rfl) ?_ | refine got (nth_row0 rfl) ?_ | refine got (nth_row2 rfl) ?_ | fail)
      refine Run.drawI [0] rfl ?_
      repeat' (first | refine step ?_ | refine knowI fun hk => ?_ | refine got rfl ?_ | refine And.intro rfl ?_ | (refine And.intro (fun hc => ?_) (fun hc => ?_) <;> (try (exfalso; first | omega | (simp only [List.length_nil, List.length_cons] at hc; omega)))) | (refine And.intro ?_ ?_; focus omega) | (refine And.intro ?_ ?_; focus (simp only [List.length_map, List.length_set, List.length_replicate, List.length_append, List.length_range, List.length_cons, List.length_nil, Nat.blt_eq, Nat.ble_eq]; omega)) | refine anyB fun b => ?_ | refine got (nth_rowI rfl) ?_ | refine got (nth_row0 rfl) ?_ | refine got (nth_row2 rfl) ?_ | refine And.intro (keepS (by decide +kernel)) ?_ | refine And.intro keepR ?_ | refine RunD.done (by decide +kernel) ?_ | refine tk 0 rfl (by decide +kernel) ?_ | refine tk 1 rfl (by decide +kernel) ?_ | refine tk 2 rfl (by decide +kernel) ?_ | refine tk 3 rfl (by decide +kernel) ?_ | refine tk 4 rfl (by decide +kernel) ?_ | refine tk 5 rfl (by decide +kernel) ?_ | refine tk 6 rfl (by decide +kernel) ?_ | refine ef 7 (by decide +kernel) rfl ?_ | refine tk 8 rfl (by decide +kernel) ?_ | refine tk 9 rfl (by decide +kernel) ?_ | refine ef 10 (by decide +kernel) rfl ?_ | refine ef 11 (by decide +kernel) rfl ?_ | refine tk 12 rfl (by decide +kernel) ?_ | refine tk 13 rfl (by decide +kernel) ?_ | refine ef' 14 (by decide +kernel) rfl ?_ | fail)
      refine Spot_spec (kind := nodeB) (by simp [nodeB]) (by omega) (by omega) (by omega) (by omega) ?_
      repeat' (first | refine step ?_ | refine knowI fun hk => ?_ | refine got rfl ?_ | refine And.intro rfl ?_ | (refine And.intro (fun hc => ?_) (fun hc => ?_) <;> (try (exfalso; first | omega | (simp only [List.length_nil, List.length_cons] at hc; omega)))) | (refine And.intro ?_ ?_; focus omega) | (refine And.intro ?_ ?_; focus (simp only [List.length_map, List.length_set, List.length_replicate, List.length_append, List.length_range, List.length_cons, List.length_nil, Nat.blt_eq, Nat.ble_eq]; omega)) | refine anyB fun b => ?_ | refine got (nth_rowI rfl) ?_ | refine got (nth_row0 rfl) ?_ | refine got (nth_row2 rfl) ?_ | refine And.intro (keepS (by decide +kernel)) ?_ | refine And.intro keepR ?_ | refine RunD.done (by decide +kernel) ?_ | refine tk 0 rfl (by decide +kernel) ?_ | refine tk 1 rfl (by decide +kernel) ?_ | refine tk 2 rfl (by decide +kernel) ?_ | refine tk 3 rfl (by decide +kernel) ?_ | refine tk 4 rfl (by decide +kernel) ?_ | refine tk 5 rfl (by decide +kernel) ?_ | refine tk 6 rfl (by decide +kernel) ?_ | refine ef 7 (by decide +kernel) rfl ?_ | refine tk 8 rfl (by decide +kernel) ?_ | refine tk 9 rfl (by decide +kernel) ?_ | refine ef 10 (by decide +kernel) rfl ?_ | refine ef 11 (by decide +kernel) rfl ?_ | refine tk 12 rfl (by decide +kernel) ?_ | refine tk 13 rfl (by decide +kernel) ?_ | refine ef' 14 (by decide +kernel) rfl ?_ | fail)
      refine appendG rfl (by decide) (by omega) fun a2 cp2 => ?_
      repeat' (first | refine step ?_ | refine knowI fun hk => ?_ | refine got rfl ?_ | refine And.intro rfl ?_ | (refine And.intro (fun hc => ?_) (fun hc => ?_) <;> (try (exfalso; first | omega | (simp only [List.length_nil, List.length_cons] at hc; omega)))) | (refine And.intro ?_ ?_; focus omega) | (refine And.intro ?_ ?_; focus (simp only [List.length_map, List.length_set, List.length_replicate, List.length_append, List.length_range, List.length_cons, List.length_nil, Nat.blt_eq, Nat.ble_eq]; omega)) | refine anyB fun b => ?_ | refine got (nth_rowI rfl) ?_ | refine got (nth_row0 rfl) ?_ | refine got (nth_row2 rfl) ?_ | refine And.intro (keepS (by decide +kernel)) ?_ | refine And.intro keepR ?_ | refine RunD.done (by decide +kernel) ?_ | refine tk 0 rfl (by decide +kernel) ?_ | refine tk 1 rfl (by decide +kernel) ?_ | refine tk 2 rfl (by decide +kernel) ?_ | refine tk 3 rfl (by decide +kernel) ?_ | refine tk 4 rfl (by decide +kernel) ?_ | refine tk 5 rfl (by decide +kernel) ?_ | refine tk 6 rfl (by decide +kernel) ?_ | refine ef 7 (by decide +kernel) rfl ?_ | refine tk 8 rfl (by decide +kernel) ?_ | refine tk 9 rfl (by decide +kernel) ?_ | refine ef 10 (by decide +kernel) rfl ?_ | refine ef 11 (by decide +kernel) rfl ?_ | refine tk 12 rfl (by decide +kernel) ?_ | refine tk 13 rfl (by decide +kernel) ?_ | refine ef' 14 (by decide +kernel) rfl ?_ | fail)
      repeat' (first | refine step ?_ | refine knowI fun hk => ?_ | refine got rfl ?_ | refine And.intro rfl ?_ | (refine And.intro (fun hc => ?_) (fun hc => ?_) <;> (try (exfalso; first | omega | (simp only [List.length_nil, List.length_cons] at hc; omega)))) | (refine And.intro ?_ ?_; focus omega) | (refine And.intro ?_ ?_; focus (simp only [List.length_map, List.length_set, List.length_replicate, List.length_append, List.length_range, List.length_cons, List.length_nil, Nat.blt_eq, Nat.ble_eq]; omega)) | refine anyB fun b => ?_ | refine got (nth_rowI rfl) ?_ | refine got (nth_row0 rfl) ?_ | refine got (nth_row2 rfl) ?_ | fail)
      refine Run.sub ?_ (Run.ent ?_ (ih2 (j + 1, pl' ++ [((spot nodeB ns[k] j : Int), ns[k])], a2, cp2) ⟨by dsimp only; omega, by dsimp only; rw [placesOf_succ, g2, List.append_assoc]⟩ (by dsimp only; omega)))
      · exact (by repeat (first | exact Sub.nil _ | refine Sub.cons rfl ?_ | refine Sub.ci rfl (by omega) ?_))
      · dsimp only [RingR]
        simp only [List.length_append, List.flatMap_append, List.length_singleton, List.flatMap_singleton]
        exact fin
    · obtain rfl : j = places := by omega
      repeat' (first | refine step ?_ | refine knowI fun hk => ?_ | refine got rfl ?_ | refine And.intro rfl ?_ | (refine And.intro (fun hc => ?_) (fun hc => ?_) <;> (try (exfalso; first | omega | (simp only [List.length_nil, List.length_cons] at hc; omega)))) | (refine And.intro ?_ ?_; focus omega) | (refine And.intro ?_ ?_; focus (simp only [List.length_map, List.length_set, List.length_replicate, List.length_append, List.length_range, List.length_cons, List.length_nil, Nat.blt_eq, Nat.ble_eq]; omega)) | refine anyB fun b => ?_ | refine got (nth_rowI rfl) ?_ | refine got (nth_row0 rfl) ?_ | refine got (nth_row2 rfl) ?_ | fail)
      refine Run.sub ?_ (Run.ent ?_ (ih (k + 1, pl', a', cap') ⟨by dsimp only; omega, ?_⟩ (by dsimp only; omega)))
      · exact (by repeat (first | exact Sub.nil _ | refine Sub.cons rfl ?_ | refine Sub.ci rfl (by omega) ?_))
      · exact Ent.trans (foldSl bl pre junk hlen' hcap hjunk) fin
      · dsimp only
        rw [g2, h2, List.take_add_one, List.getElem?_eq_getElem hlt, List.flatMap_append]; simp
  · obtain rfl : k = ns.length := by omega
    rw [List.take_length] at h2
    repeat' (first | refine step ?_ | refine knowI fun hk => ?_ | refine got rfl ?_ | refine And.intro rfl ?_ | (refine And.intro (fun hc => ?_) (fun hc => ?_) <;> (try (exfalso; first | omega | (simp only [List.length_nil, List.length_cons] at hc; omega)))) | (refine And.intro ?_ ?_; focus omega) | (refine And.intro ?_ ?_; focus (simp only [List.length_map, List.length_set, List.length_replicate, List.length_append, List.length_range, List.length_cons, List.length_nil, Nat.blt_eq, Nat.ble_eq]; omega)) | refine anyB fun b => ?_ | refine got (nth_rowI rfl) ?_ | refine got (nth_row0 rfl) ?_ | refine got (nth_row2 rfl) ?_ | fail)
    refine Sort_spec (by rw [h2, places_length]; have : ns.length * places ≤ 8 * 64 := Nat.mul_le_mul hlen hpl.2; omega) (.there (.there .here)) fun ys hp1 hp2 => ?_
    have hyl : ys.length = pl.length := hp1.length_eq
    repeat' (first | refine step ?_ | refine knowI fun hk => ?_ | refine got rfl ?_ | refine And.intro rfl ?_ | (refine And.intro (fun hc => ?_) (fun hc => ?_) <;> (try (exfalso; first | omega | (simp only [List.length_nil, List.length_cons] at hc; omega)))) | (refine And.intro ?_ ?_; focus omega) | (refine And.intro ?_ ?_; focus (simp only [List.length_map, List.length_set, List.length_replicate, List.length_append, List.length_range, List.length_cons, List.length_nil, Nat.blt_eq, Nat.ble_eq]; omega)) | refine anyB fun b => ?_ | refine got (nth_rowI rfl) ?_ | refine got (nth_row0 rfl) ?_ | refine got (nth_row2 rfl) ?_ | fail)
    refine retG Tryz.func180 rfl ?_
    repeat' (first | refine step ?_ | refine knowI fun hk => ?_ | refine got rfl ?_ | refine And.intro rfl ?_ | (refine And.intro (fun hc => ?_) (fun hc => ?_) <;> (try (exfalso; first | omega | (simp only [List.length_nil, List.length_cons] at hc; omega)))) | (refine And.intro ?_ ?_; focus omega) | (refine And.intro ?_ ?_; focus (simp only [List.length_map, List.length_set, List.length_replicate, List.length_append, List.length_range, List.length_cons, List.length_nil, Nat.blt_eq, Nat.ble_eq]; omega)) | refine anyB fun b => ?_ | refine got (nth_rowI rfl) ?_ | refine got (nth_row0 rfl) ?_ | refine got (nth_row2 rfl) ?_ | fail)
    rw [h2] at hp1
    refine Wk.mk (Ent.trans (b := RingR b mb ns a cap ys (Ints (.slice na ns.length ncap) ns :: F)) ?_ (ring_close a cap)) (h b ys hp1 hp2)
    dsimp only [RingR]
    rw [hyl, List.take_length]
    exact fin
end
end Go.Sl
