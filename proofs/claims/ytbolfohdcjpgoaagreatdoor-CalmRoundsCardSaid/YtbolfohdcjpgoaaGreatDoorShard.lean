/- A shard (package shard) on a disk that is new: what Open and Found do. -/
import Derived.Test.YtbolfohdcjpgoaaGreatDoorLogs
import Derived.Test.YtbolfohdcjpgoaaGreatDoorSlC
set_option linter.unusedSimpArgs false
set_option linter.unusedVariables false
set_option linter.unusedSectionVars false
open Go Go.RowKit
namespace Go.Sl
open Go.Proofs
section
variable {w0 : World} {l F F1 : HL} {K : Value → HL → Prop}
abbrev dedup0 : List Value := .bool true :: (List.replicate 8 [Value.int .i64 0, .int .i64 0, .bool false]).flatten
theorem DedupNew_spec (h : ∀ b, K (.pointer (some ⟨b, 0, none⟩)) (cells b dedup0 270 :: l)) : CallG Tryz.prog w0 132 [].toArray l K := by
  refine CallG.enter Tryz.func132 rfl rfl fun cs => ?_
  repeat' (first | refine step ?_ | refine knowI fun hk => ?_ | refine got rfl ?_ | refine And.intro rfl ?_ | (refine And.intro (fun hc => ?_) (fun hc => ?_) <;> (try (exfalso; first | omega | (simp only [List.length_nil, List.length_cons] at hc; omega)))) | (refine And.intro ?_ ?_; focus omega) | (refine And.intro ?_ ?_; focus (simp only [List.length_map, List.length_set, List.length_replicate, List.length_append, List.length_range, List.length_cons, List.length_nil, Nat.blt_eq, Nat.ble_eq]; omega)) | refine anyB fun b => ?_ | refine got (nth_rowI rfl) ?_ | refine got (nth_row0 rfl) ?_ | refine got (nth_row2 rfl) ?_ | fail)
  refine retG Tryz.func132 rfl ?_
  repeat' (first | refine step ?_ | refine knowI fun hk => ?_ | refine got rfl ?_ | refine And.intro rfl ?_ | (refine And.intro (fun hc => ?_) (fun hc => ?_) <;> (try (exfalso; first | omega | (simp only [List.length_nil, List.length_cons] at hc; omega)))) | (refine And.intro ?_ ?_; focus omega) | (refine And.intro ?_ ?_; focus (simp only [List.length_map, List.length_set, List.length_replicate, List.length_append, List.length_range, List.length_cons, List.length_nil, Nat.blt_eq, Nat.ble_eq]; omega)) | refine anyB fun b => ?_ | refine got (nth_rowI rfl) ?_ | refine got (nth_row0 rfl) ?_ | refine got (nth_row2 rfl) ?_ | fail)
  exact h b
theorem VpNew_spec {dim : Int} (h0 : 1 ≤ dim) (h1 : dim ≤ 16) (h : ∀ b m1 m2, K (.tuple #[.pointer (some ⟨b, 0, none⟩), .int .i64 0]) (cells b [.int .i64 dim, .pointer none, .map (some m1), .map (some m2)] 244 :: obj m1 (.map #[] 0) :: obj m2 (.map #[] 0) :: l)) :
    CallG Tryz.prog w0 131 [.int .i64 dim].toArray l K := by
  refine CallG.weak (CallG.enter Tryz.func131 rfl rfl fun cs => ?_)
  repeat' (first | refine step ?_ | refine knowI fun hk => ?_ | refine got rfl ?_ | refine And.intro rfl ?_ | (refine And.intro (fun hc => ?_) (fun hc => ?_) <;> (try (exfalso; first | omega | (simp only [List.length_nil, List.length_cons] at hc; omega)))) | (refine And.intro ?_ ?_; focus omega) | (refine And.intro ?_ ?_; focus (simp only [List.length_map, List.length_set, List.length_replicate, List.length_append, List.length_range, List.length_cons, List.length_nil, Nat.blt_eq, Nat.ble_eq]; omega)) | refine anyB fun b => ?_ | refine got (nth_rowI rfl) ?_ | refine got (nth_row0 rfl) ?_ | refine got (nth_row2 rfl) ?_ | fail)
  rename_i m1 m2
  refine retG Tryz.func131 rfl ?_
  repeat' (first | refine step ?_ | refine knowI fun hk => ?_ | refine got rfl ?_ | refine And.intro rfl ?_ | (refine And.intro (fun hc => ?_) (fun hc => ?_) <;> (try (exfalso; first | omega | (simp only [List.length_nil, List.length_cons] at hc; omega)))) | (refine And.intro ?_ ?_; focus omega) | (refine And.intro ?_ ?_; focus (simp only [List.length_map, List.length_set, List.length_replicate, List.length_append, List.length_range, List.length_cons, List.length_nil, Nat.blt_eq, Nat.ble_eq]; omega)) | refine anyB fun b => ?_ | refine got (nth_rowI rfl) ?_ | refine got (nth_row0 rfl) ?_ | refine got (nth_row2 rfl) ?_ | fail)
  exact Wk.mk fin (h b m1 m2)
/-- a tree without points, and a table without clients -/
def Tree0 (t : Nat) (dim : Int) : HP := ex fun x : Nat × Nat => all [cells t [.int .i64 dim, .pointer none, .map (some x.1), .map (some x.2)] 244, obj x.1 (.map #[] 0), obj x.2 (.map #[] 0)]
theorem tree0_close (t m1 m2 : Nat) (dim : Int) : Ent (cells t [.int .i64 dim, .pointer none, .map (some m1), .map (some m2)] 244 :: obj m1 (.map #[] 0) :: obj m2 (.map #[] 0) :: F) (Tree0 t dim :: F) :=
  (ent_all' [cells t [.int .i64 dim, .pointer none, .map (some m1), .map (some m2)] 244, obj m1 (.map #[] 0), obj m2 (.map #[] 0)] F).trans
    (ent_ex (fun x : Nat × Nat => all [cells t [.int .i64 dim, .pointer none, .map (some x.1), .map (some x.2)] 244, obj x.1 (.map #[] 0), obj x.2 (.map #[] 0)]) (m1, m2) F)
abbrev ShC (p pl : Nat) (dim st ep mv ver : Int) (t tb : Value) (lat : Value) : HP :=
  cells p [.pointer (some ⟨pl, 0, none⟩), .int .i64 dim, .int .i64 st, .int .i64 ep, .int .i64 mv, .int .i64 ver, t, tb, lat] 152
theorem empty_spec {p pl : Nat} {dim st ep mv ver : Int} {t tb lat : Value} (h0 : 1 ≤ dim) (h1 : dim ≤ 16) (hp : Rem l (ShC p pl dim st ep mv ver t tb lat) F)
    (h : ∀ t' tb', K (.tuple #[]) (ShC p pl dim st ep mv 0 (.pointer (some ⟨t', 0, none⟩)) (.pointer (some ⟨tb', 0, none⟩)) (.slice none 0 0) :: Tree0 t' dim :: cells tb' dedup0 270 :: F)) :
    CallG Tryz.prog w0 91 [.pointer (some ⟨p, 0, none⟩)].toArray l K := by
  refine CallG.ent hp.ent ?_
  refine CallG.weak (CallG.enter Tryz.func91 rfl rfl fun cs => ?_)
  repeat' (first | refine step ?_ | refine knowI fun hk => ?_ | refine got rfl ?_ | refine And.intro rfl ?_ | (refine And.intro (fun hc => ?_) (fun hc => ?_) <;> (try (exfalso; first | omega | (simp only [List.length_nil, List.length_cons] at hc; omega)))) | (refine And.intro ?_ ?_; focus omega) | (refine And.intro ?_ ?_; focus (simp only [List.length_map, List.length_set, List.length_replicate, List.length_append, List.length_range, List.length_cons, List.length_nil, Nat.blt_eq, Nat.ble_eq]; omega)) | refine anyB fun b => ?_ | refine got (nth_rowI rfl) ?_ | refine got (nth_row0 rfl) ?_ | refine got (nth_row2 rfl) ?_ | fail)
  refine VpNew_spec h0 h1 fun t' m1 m2 => ?_
  repeat' (first | refine step ?_ | refine knowI fun hk => ?_ | refine got rfl ?_ | refine And.intro rfl ?_ | (refine And.intro (fun hc => ?_) (fun hc => ?_) <;> (try (exfalso; first | omega | (simp only [List.length_nil, List.length_cons] at hc; omega)))) | (refine And.intro ?_ ?_; focus omega) | (refine And.intro ?_ ?_; focus (simp only [List.length_map, List.length_set, List.length_replicate, List.length_append, List.length_range, List.length_cons, List.length_nil, Nat.blt_eq, Nat.ble_eq]; omega)) | refine anyB fun b => ?_ | refine got (nth_rowI rfl) ?_ | refine got (nth_row0 rfl) ?_ | refine got (nth_row2 rfl) ?_ | fail)
  refine DedupNew_spec fun tb' => ?_
  repeat' (first | refine step ?_ | refine knowI fun hk => ?_ | refine got rfl ?_ | refine And.intro rfl ?_ | (refine And.intro (fun hc => ?_) (fun hc => ?_) <;> (try (exfalso; first | omega | (simp only [List.length_nil, List.length_cons] at hc; omega)))) | (refine And.intro ?_ ?_; focus omega) | (refine And.intro ?_ ?_; focus (simp only [List.length_map, List.length_set, List.length_replicate, List.length_append, List.length_range, List.length_cons, List.length_nil, Nat.blt_eq, Nat.ble_eq]; omega)) | refine anyB fun b => ?_ | refine got (nth_rowI rfl) ?_ | refine got (nth_row0 rfl) ?_ | refine got (nth_row2 rfl) ?_ | fail)
  refine fin0 Tryz.func91 rfl ?_
  refine Wk.mk (Ent.trans (b := cells t' [.int .i64 dim, .pointer none, .map (some m1), .map (some m2)] 244 :: obj m1 (.map #[] 0) :: obj m2 (.map #[] 0) :: ShC p pl dim st ep mv 0 (.pointer (some ⟨t', 0, none⟩)) (.pointer (some ⟨tb', 0, none⟩)) (.slice none 0 0) :: cells tb' dedup0 270 :: F) fin ?_) (h t' tb')
  exact (tree0_close t' m1 m2 dim).trans (Ent.perm (.swap _ _ _))
set_option maxRecDepth 8000 in
theorem ShardOpen_new [Laid w0] {d n : Nat} {dim : Int} (h0 : 1 ≤ dim) (h1 : dim ≤ 16) (hn : 4 ≤ n ∧ n ≤ 16384) (hp : Rem l (Disk d (List.replicate n []) []) F)
    (h : ∀ p pl t tb, K (.tuple #[.pointer (some ⟨p, 0, none⟩), .int .i64 0]) (ShC p pl dim 0 0 0 0 (.pointer (some ⟨t, 0, none⟩)) (.pointer (some ⟨tb, 0, none⟩)) (.slice none 0 0) :: Tree0 t dim :: cells tb dedup0 270 ::
      LogC pl d (.int .i64 0) (.int .i64 0) (.slice none 0 0) (.int .i64 0) :: Disk d ((List.replicate n []).set 0 (headB 0 0)) [] :: F)) :
    CallG Tryz.prog w0 61 [.pointer (some ⟨d, 0, none⟩), .int .i64 dim].toArray l K := by
  refine CallG.ent hp.ent ?_
  refine CallG.weak (CallG.enter Tryz.func61 rfl rfl fun cs => ?_)
  repeat' (first | refine step ?_ | refine knowI fun hk => ?_ | refine got rfl ?_ | refine And.intro rfl ?_ | (refine And.intro (fun hc => ?_) (fun hc => ?_) <;> (try (exfalso; first | omega | (simp only [List.length_nil, List.length_cons] at hc; omega)))) | (refine And.intro ?_ ?_; focus omega) | (refine And.intro ?_ ?_; focus (simp only [List.length_map, List.length_set, List.length_replicate, List.length_append, List.length_range, List.length_cons, List.length_nil, Nat.blt_eq, Nat.ble_eq]; omega)) | refine anyB fun b => ?_ | refine got (nth_rowI rfl) ?_ | refine got (nth_row0 rfl) ?_ | refine got (nth_row2 rfl) ?_ | fail)
  refine LogsOpen_new hn .here fun pl => ?_
  repeat' (first | refine step ?_ | refine knowI fun hk => ?_ | refine got rfl ?_ | refine And.intro rfl ?_ | (refine And.intro (fun hc => ?_) (fun hc => ?_) <;> (try (exfalso; first | omega | (simp only [List.length_nil, List.length_cons] at hc; omega)))) | (refine And.intro ?_ ?_; focus omega) | (refine And.intro ?_ ?_; focus (simp only [List.length_map, List.length_set, List.length_replicate, List.length_append, List.length_range, List.length_cons, List.length_nil, Nat.blt_eq, Nat.ble_eq]; omega)) | refine anyB fun b => ?_ | refine got (nth_rowI rfl) ?_ | refine got (nth_row0 rfl) ?_ | refine got (nth_row2 rfl) ?_ | fail)
  refine empty_spec h0 h1 .here fun t tb => ?_
  repeat' (first | refine step ?_ | refine knowI fun hk => ?_ | refine got rfl ?_ | refine And.intro rfl ?_ | (refine And.intro (fun hc => ?_) (fun hc => ?_) <;> (try (exfalso; first | omega | (simp only [List.length_nil, List.length_cons] at hc; omega)))) | (refine And.intro ?_ ?_; focus omega) | (refine And.intro ?_ ?_; focus (simp only [List.length_map, List.length_set, List.length_replicate, List.length_append, List.length_range, List.length_cons, List.length_nil, Nat.blt_eq, Nat.ble_eq]; omega)) | refine anyB fun b => ?_ | refine got (nth_rowI rfl) ?_ | refine got (nth_row0 rfl) ?_ | refine got (nth_row2 rfl) ?_ | fail)
  refine All_nil (.there (.there (.there .here))) ?_
  repeat' (first | refine step ?_ | refine knowI fun hk => ?_ | refine got rfl ?_ | refine And.intro rfl ?_ | (refine And.intro (fun hc => ?_) (fun hc => ?_) <;> (try (exfalso; first | omega | (simp only [List.length_nil, List.length_cons] at hc; omega)))) | (refine And.intro ?_ ?_; focus omega) | (refine And.intro ?_ ?_; focus (simp only [List.length_map, List.length_set, List.length_replicate, List.length_append, List.length_range, List.length_cons, List.length_nil, Nat.blt_eq, Nat.ble_eq]; omega)) | refine anyB fun b => ?_ | refine got (nth_rowI rfl) ?_ | refine got (nth_row0 rfl) ?_ | refine got (nth_row2 rfl) ?_ | fail)
  refine Run.loop1 ?_
  repeat' (first | refine step ?_ | refine knowI fun hk => ?_ | refine got rfl ?_ | refine And.intro rfl ?_ | (refine And.intro (fun hc => ?_) (fun hc => ?_) <;> (try (exfalso; first | omega | (simp only [List.length_nil, List.length_cons] at hc; omega)))) | (refine And.intro ?_ ?_; focus omega) | (refine And.intro ?_ ?_; focus (simp only [List.length_map, List.length_set, List.length_replicate, List.length_append, List.length_range, List.length_cons, List.length_nil, Nat.blt_eq, Nat.ble_eq]; omega)) | refine anyB fun b => ?_ | refine got (nth_rowI rfl) ?_ | refine got (nth_row0 rfl) ?_ | refine got (nth_row2 rfl) ?_ | fail)
  refine retG Tryz.func61 rfl ?_
  repeat' (first | refine step ?_ | refine knowI fun hk => ?_ | refine got rfl ?_ | refine And.intro rfl ?_ | (refine And.intro (fun hc => ?_) (fun hc => ?_) <;> (try (exfalso; first | omega | (simp only [List.length_nil, List.length_cons] at hc; omega)))) | (refine And.intro ?_ ?_; focus omega) | (refine And.intro ?_ ?_; focus (simp only [List.length_map, List.length_set, List.length_replicate, List.length_append, List.length_range, List.length_cons, List.length_nil, Nat.blt_eq, Nat.ble_eq]; omega)) | refine anyB fun b => ?_ | refine got (nth_rowI rfl) ?_ | refine got (nth_row0 rfl) ?_ | refine got (nth_row2 rfl) ?_ | fail)
  exact Wk.mk fin (h b pl t tb)
end
end Go.Sl
/- A shard (package shard): numbers as values, and texts. -/
open Go Go.RowKit
namespace Go.Sl
open Go.Proofs
section
variable {w0 : World} {l F F1 : HL} {K : Value → HL → Prop}
theorem BltG.ent {P : Program} {b : Builtin} {ts : Array TypeId} {ty : TypeId} {vs : List Value} {l' : HL} (h : Ent l l') (k : BltG P w0 b ts ty vs l' K) : BltG P w0 b ts ty vs l K := fun c w hs => k c w (hs.ent h)
abbrev iv (n : Int) : Value := .int .i64 n
set_option maxRecDepth 8000 in
theorem ints_spec {ns : List Int} {b : Nat} (hn : ns.length ≤ 100000) (hp : Rem l (cells b (ns.map iv) 3) F)
    (h : ∀ a cap, K (.slice a ns.length cap) (SlR (.slice a ns.length cap) 174 4 ns.length ((ns.map intRow).flatMap vcells) :: F)) :
    CallG Tryz.prog w0 104 [.slice (some ⟨b, 0, none⟩) ns.length ns.length].toArray l K := by
  refine CallG.ent hp.ent ?_
  refine CallG.weak (CallG.enter Tryz.func104 rfl rfl fun cs => ?_)
  repeat' (first | refine step ?_ | refine knowI fun hk => ?_ | refine got rfl ?_ | refine And.intro rfl ?_ | (refine And.intro (fun hc => ?_) (fun hc => ?_) <;> (try (exfalso; first | omega | (simp only [List.length_nil, List.length_cons] at hc; omega)))) | (refine And.intro ?_ ?_; focus omega) | (refine And.intro ?_ ?_; focus (simp only [List.length_map, List.length_set, List.length_replicate, List.length_append, List.length_range, List.length_cons, List.length_nil, Nat.blt_eq, Nat.ble_eq]; omega)) | refine anyB fun b => ?_ | refine got (nth_rowI rfl) ?_ | refine got (nth_row0 rfl) ?_ | refine got (nth_row2 rfl) ?_ | fail)
  refine Run.loop (fun x : Nat × Option Addr × Nat => [(6, .slice (some ⟨b, 0, none⟩) ns.length ns.length), (7, .int .i64 ns.length), (8, .int .i64 x.1), (3, .slice x.2.1 x.1 x.2.2)])
    (fun x => SlR (.slice x.2.1 x.1 x.2.2) 174 4 x.1 (((ns.take x.1).map intRow).flatMap vcells) :: cells b (ns.map iv) 3 :: F) (fun x => x.1 ≤ ns.length) (fun x => ns.length - x.1) (0, none, 0) (Nat.zero_le _) (by repeat (first | exact Sub.nil _ | refine Sub.cons rfl ?_ | refine Sub.ci rfl (by omega) ?_))
    (by simp only [List.take_zero, List.map_nil, List.flatMap_nil]; exact slr_nil 174 4 _) ?_
  rintro ⟨k, a, cap⟩ hk ih
  dsimp only at hk ih ⊢
  by_cases hlt : k < ns.length
  · repeat' (first | refine step ?_ | refine knowI fun hk => ?_ | refine got rfl ?_ | refine And.intro rfl ?_ | (refine And.intro (fun hc => ?_) (fun hc => ?_) <;> (try (exfalso; first | omega | (simp only [List.length_nil, List.length_cons] at hc; omega)))) | (refine And.intro ?_ ?_; focus omega) | (refine And.intro ?_ ?_; focus (simp only [List.length_map, List.length_set, List.length_replicate, List.length_append, List.length_range, List.length_cons, List.length_nil, Nat.blt_eq, Nat.ble_eq]; omega)) | refine anyB fun b => ?_ | refine got (nth_rowI rfl) ?_ | refine got (nth_row0 rfl) ?_ | refine got (nth_row2 rfl) ?_ | fail)
    refine got (v := iv ns[k]) (by rw [nth_eq]; simp [hlt]) ?_
    repeat' (first | refine step ?_ | refine knowI fun hk => ?_ | refine got rfl ?_ | refine And.intro rfl ?_ | (refine And.intro (fun hc => ?_) (fun hc => ?_) <;> (try (exfalso; first | omega | (simp only [List.length_nil, List.length_cons] at hc; omega)))) | (refine And.intro ?_ ?_; focus omega) | (refine And.intro ?_ ?_; focus (simp only [List.length_map, List.length_set, List.length_replicate, List.length_append, List.length_range, List.length_cons, List.length_nil, Nat.blt_eq, Nat.ble_eq]; omega)) | refine anyB fun b => ?_ | refine got (nth_rowI rfl) ?_ | refine got (nth_row0 rfl) ?_ | refine got (nth_row2 rfl) ?_ | fail)
    refine Int_spec ?_
    repeat' (first | refine step ?_ | refine knowI fun hk => ?_ | refine got rfl ?_ | refine And.intro rfl ?_ | (refine And.intro (fun hc => ?_) (fun hc => ?_) <;> (try (exfalso; first | omega | (simp only [List.length_nil, List.length_cons] at hc; omega)))) | (refine And.intro ?_ ?_; focus omega) | (refine And.intro ?_ ?_; focus (simp only [List.length_map, List.length_set, List.length_replicate, List.length_append, List.length_range, List.length_cons, List.length_nil, Nat.blt_eq, Nat.ble_eq]; omega)) | refine anyB fun b => ?_ | refine got (nth_rowI rfl) ?_ | refine got (nth_row0 rfl) ?_ | refine got (nth_row2 rfl) ?_ | fail)
    refine appendG rfl (by decide) (by omega) fun a' cp' => ?_
    repeat' (first | refine step ?_ | refine knowI fun hk => ?_ | refine got rfl ?_ | refine And.intro rfl ?_ | (refine And.intro (fun hc => ?_) (fun hc => ?_) <;> (try (exfalso; first | omega | (simp only [List.length_nil, List.length_cons] at hc; omega)))) | (refine And.intro ?_ ?_; focus omega) | (refine And.intro ?_ ?_; focus (simp only [List.length_map, List.length_set, List.length_replicate, List.length_append, List.length_range, List.length_cons, List.length_nil, Nat.blt_eq, Nat.ble_eq]; omega)) | refine anyB fun b => ?_ | refine got (nth_rowI rfl) ?_ | refine got (nth_row0 rfl) ?_ | refine got (nth_row2 rfl) ?_ | fail)
    have e : ((ns.take (k + 1)).map intRow).flatMap vcells = ((ns.take k).map intRow).flatMap vcells ++ vcells (intRow ns[k]) := by
      rw [List.take_add_one, List.getElem?_eq_getElem hlt, List.map_append, List.flatMap_append]; rfl
    refine Run.sub ?_ (Run.ent ?_ (ih (k + 1, a', cp') (by dsimp only; omega) (by dsimp only; omega)))
    · exact (by repeat (first | exact Sub.nil _ | refine Sub.cons rfl ?_ | refine Sub.ci rfl (by omega) ?_))
    · dsimp only
      rw [e]
      exact Ent.cons _ (Ent.tail _ _)
  · obtain rfl : k = ns.length := by omega
    repeat' (first | refine step ?_ | refine knowI fun hk => ?_ | refine got rfl ?_ | refine And.intro rfl ?_ | (refine And.intro (fun hc => ?_) (fun hc => ?_) <;> (try (exfalso; first | omega | (simp only [List.length_nil, List.length_cons] at hc; omega)))) | (refine And.intro ?_ ?_; focus omega) | (refine And.intro ?_ ?_; focus (simp only [List.length_map, List.length_set, List.length_replicate, List.length_append, List.length_range, List.length_cons, List.length_nil, Nat.blt_eq, Nat.ble_eq]; omega)) | refine anyB fun b => ?_ | refine got (nth_rowI rfl) ?_ | refine got (nth_row0 rfl) ?_ | refine got (nth_row2 rfl) ?_ | fail)
    refine retG Tryz.func104 rfl ?_
    repeat' (first | refine step ?_ | refine knowI fun hk => ?_ | refine got rfl ?_ | refine And.intro rfl ?_ | (refine And.intro (fun hc => ?_) (fun hc => ?_) <;> (try (exfalso; first | omega | (simp only [List.length_nil, List.length_cons] at hc; omega)))) | (refine And.intro ?_ ?_; focus omega) | (refine And.intro ?_ ?_; focus (simp only [List.length_map, List.length_set, List.length_replicate, List.length_append, List.length_range, List.length_cons, List.length_nil, Nat.blt_eq, Nat.ble_eq]; omega)) | refine anyB fun b => ?_ | refine got (nth_rowI rfl) ?_ | refine got (nth_row0 rfl) ?_ | refine got (nth_row2 rfl) ?_ | fail)
    rw [List.take_length]
    exact Wk.mk (Ent.trans (Ent.cons _ (Ent.tail _ _)) (Ent.refl _)) (h a cap)
theorem count_ints : ∀ ns : List Int, countL (ns.map .int) = ns.length
  | [] => rfl
  | n :: ns => by simp only [List.map_cons, countL, count, count_ints ns, List.length_cons]; omega
theorem deep_ints : ∀ ns : List Int, deepL (ns.map .int) = 0
  | [] => rfl
  | n :: ns => by simp only [List.map_cons, deepL, deep, deep_ints ns]; omega
theorem mk_kind {kind : List UInt8} {ns : List Int} (hin : ∀ n ∈ ns, InR n) {a : Option Addr} {cap : Nat} :
    Ent (SlR (.slice a (1 + ns.length) cap) 174 4 (1 + ns.length) (vcells (2, 0, kind, none, 0, 0) ++ (ns.map intRow).flatMap vcells) :: F) (vrep (.lst (.txt kind :: ns.map .int)) (3, 0, [], a, 1 + ns.length, cap) :: F) := by
  have e1 : (V.txt kind :: ns.map V.int).length = 1 + ns.length := by simp; omega
  have h1 := lst_close (F := F) (vs := .txt kind :: ns.map .int) (r := (3, 0, [], a, 1 + ns.length, cap)) a cap ((2, 0, kind, none, 0, 0) :: ns.map intRow) (by rw [e1]) (by simp)
  rw [e1] at h1
  refine Ent.trans (Ent.cons _ ?_) h1
  refine Ent.trans ?_ (ent_all' _ F)
  simp only [vreps, List.cons_append]
  exact (reps_ints ns hin F).trans (txt_close rfl)
/-- a text of a kind and numbers -/
def textI (kind : List UInt8) (ns : List Int) : List UInt8 := enc (.lst (.txt kind :: ns.map .int))
set_option maxRecDepth 8000 in
theorem textI_spec [Laid w0] {kind : List UInt8} {ns : List Int} {a : Option Addr} {cap : Nat} (hin : ∀ n ∈ ns, InR n) (hn : ns.length ≤ 1000) (hl : (textI kind ns).length ≤ 65536)
    (hp : Rem l (SlR (.slice a ns.length cap) 174 4 ns.length ((ns.map intRow).flatMap vcells)) F) (h : K (str (textI kind ns)) F) :
    CallG Tryz.prog w0 103 [str kind, .slice a ns.length cap].toArray l K := by
  refine CallG.ent hp.ent ?_
  refine CallG.weak (CallG.enter Tryz.func103 rfl rfl fun cs => ?_)
  repeat' (first | refine step ?_ | refine knowI fun hk => ?_ | refine got rfl ?_ | refine And.intro rfl ?_ | (refine And.intro (fun hc => ?_) (fun hc => ?_) <;> (try (exfalso; first | omega | (simp only [List.length_nil, List.length_cons] at hc; omega)))) | (refine And.intro ?_ ?_; focus omega) | (refine And.intro ?_ ?_; focus (simp only [List.length_map, List.length_set, List.length_replicate, List.length_append, List.length_range, List.length_cons, List.length_nil, Nat.blt_eq, Nat.ble_eq]; omega)) | refine anyB fun b => ?_ | refine got (nth_rowI rfl) ?_ | refine got (nth_row0 rfl) ?_ | refine got (nth_row2 rfl) ?_ | fail)
  refine Str_spec ?_
  repeat' (first | refine step ?_ | refine knowI fun hk => ?_ | refine got rfl ?_ | refine And.intro rfl ?_ | (refine And.intro (fun hc => ?_) (fun hc => ?_) <;> (try (exfalso; first | omega | (simp only [List.length_nil, List.length_cons] at hc; omega)))) | (refine And.intro ?_ ?_; focus omega) | (refine And.intro ?_ ?_; focus (simp only [List.length_map, List.length_set, List.length_replicate, List.length_append, List.length_range, List.length_cons, List.length_nil, Nat.blt_eq, Nat.ble_eq]; omega)) | refine anyB fun b => ?_ | refine got (nth_rowI rfl) ?_ | refine got (nth_row0 rfl) ?_ | refine got (nth_row2 rfl) ?_ | fail)
  refine BltG.ent (slr_all (n := 1) (sz := 4) rfl _) ?_
  refine appendG (by rw [List.all_eq_true]; intro x hx; rw [List.mem_flatMap] at hx; obtain ⟨r, _, hx⟩ := hx; have := vcells_one r; rw [List.all_eq_true] at this; exact this x hx) (by decide) (by omega) fun a' cp' => ?_
  repeat' (first | refine step ?_ | refine knowI fun hk => ?_ | refine got rfl ?_ | refine And.intro rfl ?_ | (refine And.intro (fun hc => ?_) (fun hc => ?_) <;> (try (exfalso; first | omega | (simp only [List.length_nil, List.length_cons] at hc; omega)))) | (refine And.intro ?_ ?_; focus omega) | (refine And.intro ?_ ?_; focus (simp only [List.length_map, List.length_set, List.length_replicate, List.length_append, List.length_range, List.length_cons, List.length_nil, Nat.blt_eq, Nat.ble_eq]; omega)) | refine anyB fun b => ?_ | refine got (nth_rowI rfl) ?_ | refine got (nth_row0 rfl) ?_ | refine got (nth_row2 rfl) ?_ | fail)
  refine List_spec ?_
  repeat' (first | refine step ?_ | refine knowI fun hk => ?_ | refine got rfl ?_ | refine And.intro rfl ?_ | (refine And.intro (fun hc => ?_) (fun hc => ?_) <;> (try (exfalso; first | omega | (simp only [List.length_nil, List.length_cons] at hc; omega)))) | (refine And.intro ?_ ?_; focus omega) | (refine And.intro ?_ ?_; focus (simp only [List.length_map, List.length_set, List.length_replicate, List.length_append, List.length_range, List.length_cons, List.length_nil, Nat.blt_eq, Nat.ble_eq]; omega)) | refine anyB fun b => ?_ | refine got (nth_rowI rfl) ?_ | refine got (nth_row0 rfl) ?_ | refine got (nth_row2 rfl) ?_ | fail)
  refine CallG.ent (mk_kind hin) ?_
  refine BencPut_spec (by have := count_ints ns; simp only [count, countL]; omega) (by have := deep_ints ns; simp only [deep, deepL]; omega) hl .here ?_
  repeat' (first | refine step ?_ | refine knowI fun hk => ?_ | refine got rfl ?_ | refine And.intro rfl ?_ | (refine And.intro (fun hc => ?_) (fun hc => ?_) <;> (try (exfalso; first | omega | (simp only [List.length_nil, List.length_cons] at hc; omega)))) | (refine And.intro ?_ ?_; focus omega) | (refine And.intro ?_ ?_; focus (simp only [List.length_map, List.length_set, List.length_replicate, List.length_append, List.length_range, List.length_cons, List.length_nil, Nat.blt_eq, Nat.ble_eq]; omega)) | refine anyB fun b => ?_ | refine got (nth_rowI rfl) ?_ | refine got (nth_row0 rfl) ?_ | refine got (nth_row2 rfl) ?_ | fail)
  refine retG Tryz.func103 rfl ?_
  repeat' (first | refine step ?_ | refine knowI fun hk => ?_ | refine got rfl ?_ | refine And.intro rfl ?_ | (refine And.intro (fun hc => ?_) (fun hc => ?_) <;> (try (exfalso; first | omega | (simp only [List.length_nil, List.length_cons] at hc; omega)))) | (refine And.intro ?_ ?_; focus omega) | (refine And.intro ?_ ?_; focus (simp only [List.length_map, List.length_set, List.length_replicate, List.length_append, List.length_range, List.length_cons, List.length_nil, Nat.blt_eq, Nat.ble_eq]; omega)) | refine anyB fun b => ?_ | refine got (nth_rowI rfl) ?_ | refine got (nth_row0 rfl) ?_ | refine got (nth_row2 rfl) ?_ | fail)
  exact Wk.mk (Ent.drop (Ent.drop (.refl _))) h
end
end Go.Sl
/- A shard (package shard): keeps, becomes and Found, where the log has room. -/
open Go Go.RowKit
namespace Go.Sl
open Go.Proofs
/-- a log with its records and bytes, all of them sure -/
abbrev LogR (pl d : Nat) (gen half : Int) (a : Option Addr) (cap : Nat) (recs : List (List UInt8)) (c : List UInt8) (now : List Bytes) (F : HL) : HL :=
  LogC pl d (.int .i64 gen) (.int .i64 half) (.slice a recs.length cap) (.int .i64 c.length) :: Disk d now [] :: SlR (.slice a recs.length cap) 9 1 recs.length (recs.map str) :: F
def LogA (pl d : Nat) (gen half : Int) (recs : List (List UInt8)) (c : List UInt8) (now : List Bytes) : HP :=
  ex fun x : Option Addr × Nat => all (LogR pl d gen half x.1 x.2 recs c now [])
section
variable {w0 : World} {l F F1 : HL} {K : Value → HL → Prop}
theorem loga_open {pl d : Nat} {gen half : Int} {recs : List (List UInt8)} {c : List UInt8} {now : List Bytes} {f : FuncId} {args : Array Value} (hp : Rem l (LogA pl d gen half recs c now) F)
    (h : ∀ a cap, CallG Tryz.prog w0 f args (LogR pl d gen half a cap recs c now F) K) : CallG Tryz.prog w0 f args l K := by
  intro w hs
  obtain ⟨⟨a, cap⟩, hs⟩ := (hs.ent hp.ent).ex
  exact h a cap w (hs.ent (ent_all _ _))
theorem loga_close {pl d : Nat} {gen half : Int} {recs : List (List UInt8)} {c : List UInt8} {now : List Bytes} (a : Option Addr) (cap : Nat) : Ent (LogR pl d gen half a cap recs c now F) (LogA pl d gen half recs c now :: F) :=
  (ent_all' (LogR pl d gen half a cap recs c now []) F).trans (ent_ex (fun x : Option Addr × Nat => all (LogR pl d gen half x.1 x.2 recs c now [])) (a, cap) F)
set_option maxRecDepth 8000 in
theorem keeps_spec [Laid w0] {p pl d : Nat} {dim st ep mv ver gen half : Int} {t tb lat fv : Value} {recs : List (List UInt8)} {c r : List UInt8} {now : List Bytes}
    (hr : r.length ≤ 32768) (hrc : recs.length ≤ 1000000) (hn : 2 ≤ now.length ∧ now.length ≤ 16384) (hL : Lays now (fromOf now.length half) (toOf now.length half) c)
    (hroom : c.length + (frm r).length ≤ (toOf now.length half - fromOf now.length half) * 128)
    (hp : Rem l (ShC p pl dim st ep mv ver t tb lat) F1) (hp2 : Rem F1 (LogA pl d gen half recs c now) F)
    (h : ∀ now', now'.length = now.length → Lays now' (fromOf now.length half) (toOf now.length half) (c ++ frm r) → (∀ k, k < fromOf now.length half ∨ toOf now.length half ≤ k → now'[k]? = now[k]?) →
      K (.int .i64 0) (ShC p pl dim st ep mv ver t tb lat :: LogA pl d gen half (recs ++ [r]) (c ++ frm r) now' :: F)) :
    CallG Tryz.prog w0 102 [.pointer (some ⟨p, 0, none⟩), str r, fv].toArray l K := by
  refine CallG.ent (hp.ent.trans (Ent.cons _ hp2.ent)) ?_
  refine loga_open (.there .here) fun a cap => ?_
  refine CallG.weak (CallG.enter Tryz.func102 rfl rfl fun cs => ?_)
  repeat' (first | refine step ?_ | refine knowI fun hk => ?_ | refine got rfl ?_ | refine And.intro rfl ?_ | (refine And.intro (fun hc => ?_) (fun hc => ?_) <;> (try (exfalso; first | omega | (simp only [List.length_nil, List.length_cons] at hc; omega)))) | (refine And.intro ?_ ?_; focus omega) | (refine And.intro ?_ ?_; focus (simp only [List.length_map, List.length_set, List.length_replicate, List.length_append, List.length_range, List.length_cons, List.length_nil, Nat.blt_eq, Nat.ble_eq]; omega)) | refine anyB fun b => ?_ | refine got (nth_rowI rfl) ?_ | refine got (nth_row0 rfl) ?_ | refine got (nth_row2 rfl) ?_ | fail)
  refine Add_spec hr hrc .here .here .here hn (by simp) hL hroom fun now' ks' a' cap' i1 i2 i3 i4 => ?_
  repeat' (first | refine step ?_ | refine knowI fun hk => ?_ | refine got rfl ?_ | refine And.intro rfl ?_ | (refine And.intro (fun hc => ?_) (fun hc => ?_) <;> (try (exfalso; first | omega | (simp only [List.length_nil, List.length_cons] at hc; omega)))) | (refine And.intro ?_ ?_; focus omega) | (refine And.intro ?_ ?_; focus (simp only [List.length_map, List.length_set, List.length_replicate, List.length_append, List.length_range, List.length_cons, List.length_nil, Nat.blt_eq, Nat.ble_eq]; omega)) | refine anyB fun b => ?_ | refine got (nth_rowI rfl) ?_ | refine got (nth_row0 rfl) ?_ | refine got (nth_row2 rfl) ?_ | fail)
  refine Flush_spec .here .here (by omega) (by have := frm_length r; simp at i2; omega) ?_
  repeat' (first | refine step ?_ | refine knowI fun hk => ?_ | refine got rfl ?_ | refine And.intro rfl ?_ | (refine And.intro (fun hc => ?_) (fun hc => ?_) <;> (try (exfalso; first | omega | (simp only [List.length_nil, List.length_cons] at hc; omega)))) | (refine And.intro ?_ ?_; focus omega) | (refine And.intro ?_ ?_; focus (simp only [List.length_map, List.length_set, List.length_replicate, List.length_append, List.length_range, List.length_cons, List.length_nil, Nat.blt_eq, Nat.ble_eq]; omega)) | refine anyB fun b => ?_ | refine got (nth_rowI rfl) ?_ | refine got (nth_row0 rfl) ?_ | refine got (nth_row2 rfl) ?_ | fail)
  refine retG Tryz.func102 rfl ?_
  repeat' (first | refine step ?_ | refine knowI fun hk => ?_ | refine got rfl ?_ | refine And.intro rfl ?_ | (refine And.intro (fun hc => ?_) (fun hc => ?_) <;> (try (exfalso; first | omega | (simp only [List.length_nil, List.length_cons] at hc; omega)))) | (refine And.intro ?_ ?_; focus omega) | (refine And.intro ?_ ?_; focus (simp only [List.length_map, List.length_set, List.length_replicate, List.length_append, List.length_range, List.length_cons, List.length_nil, Nat.blt_eq, Nat.ble_eq]; omega)) | refine anyB fun b => ?_ | refine got (nth_rowI rfl) ?_ | refine got (nth_row0 rfl) ?_ | refine got (nth_row2 rfl) ?_ | fail)
  refine Wk.mk (Ent.trans (b := LogR pl d gen half a' cap' (recs ++ [r]) (c ++ frm r) now' (ShC p pl dim st ep mv ver t tb lat :: F)) fin ?_) (h now' i1 i3 i4)
  exact (loga_close a' cap').trans (Ent.perm (.swap _ _ _))
def standsB : List UInt8 := [115, 116, 97, 110, 100, 115]
theorem stands_len {st ep mv : Int} (hin : InR st ∧ InR ep ∧ InR mv) : (textI standsB [st, ep, mv]).length ≤ 100 := by
  have h1 := itoa_len hin.1.1 hin.1.2
  have h2 := itoa_len hin.2.1.1 hin.2.1.2
  have h3 := itoa_len hin.2.2.1 hin.2.2.2
  have h4 := itoa_len (n := ((standsB.length : Nat) : Int)) (by simp [standsB]) (by simp [standsB])
  simp only [textI, enc, encL, List.map_cons, List.map_nil, List.length_append, List.length_singleton, List.length_nil]
  have h5 : standsB.length = 6 := rfl
  omega
set_option maxRecDepth 8000 in
theorem becomes_spec [Laid w0] {p pl d : Nat} {dim st ep mv ver st' ep' mv' gen half : Int} {t tb lat : Value} {recs : List (List UInt8)} {c : List UInt8} {now : List Bytes}
    (hin : InR st' ∧ InR ep' ∧ InR mv') (hst : st' ≠ 0) (hrc : recs.length ≤ 1000000) (hn : 2 ≤ now.length ∧ now.length ≤ 16384) (hL : Lays now (fromOf now.length half) (toOf now.length half) c)
    (hroom : c.length + 200 ≤ (toOf now.length half - fromOf now.length half) * 128)
    (hp : Rem l (ShC p pl dim st ep mv ver t tb lat) F1) (hp2 : Rem F1 (LogA pl d gen half recs c now) F)
    (h : ∀ now', now'.length = now.length → Lays now' (fromOf now.length half) (toOf now.length half) (c ++ frm (textI standsB [st', ep', mv'])) → (∀ k, k < fromOf now.length half ∨ toOf now.length half ≤ k → now'[k]? = now[k]?) →
      K (.int .i64 0) (ShC p pl dim st' ep' mv' ver t tb lat :: LogA pl d gen half (recs ++ [textI standsB [st', ep', mv']]) (c ++ frm (textI standsB [st', ep', mv'])) now' :: F)) :
    CallG Tryz.prog w0 71 [.pointer (some ⟨p, 0, none⟩), .int .i64 st', .int .i64 ep', .int .i64 mv'].toArray l K := by
  have hl := stands_len hin
  refine CallG.ent (hp.ent.trans (Ent.cons _ hp2.ent)) ?_
  refine CallG.weak (CallG.enter Tryz.func71 rfl rfl fun cs => ?_)
  repeat' (first | refine step ?_ | refine knowI fun hk => ?_ | refine got rfl ?_ | refine And.intro rfl ?_ | (refine And.intro (fun hc => ?_) (fun hc => ?_) <;> (try (exfalso; first | omega | (simp only [List.length_nil, List.length_cons] at hc; omega)))) | (refine And.intro ?_ ?_; focus omega) | (refine And.intro ?_ ?_; focus (simp only [List.length_map, List.length_set, List.length_replicate, List.length_append, List.length_range, List.length_cons, List.length_nil, Nat.blt_eq, Nat.ble_eq]; omega)) | refine anyB fun b => ?_ | refine got (nth_rowI rfl) ?_ | refine got (nth_row0 rfl) ?_ | refine got (nth_row2 rfl) ?_ | fail)
  refine Run.drawI [0, 1] rfl ?_
  repeat' (first | refine step ?_ | refine knowI fun hk => ?_ | refine got rfl ?_ | refine And.intro rfl ?_ | (refine And.intro (fun hc => ?_) (fun hc => ?_) <;> (try (exfalso; first | omega | (simp only [List.length_nil, List.length_cons] at hc; omega)))) | (refine And.intro ?_ ?_; focus omega) | (refine And.intro ?_ ?_; focus (simp only [List.length_map, List.length_set, List.length_replicate, List.length_append, List.length_range, List.length_cons, List.length_nil, Nat.blt_eq, Nat.ble_eq]; omega)) | refine anyB fun b => ?_ | refine got (nth_rowI rfl) ?_ | refine got (nth_row0 rfl) ?_ | refine got (nth_row2 rfl) ?_ | refine And.intro (keepS (by decide +kernel)) ?_ | refine And.intro keepR ?_ | refine RunD.done (by decide +kernel) ?_ | refine tk 0 rfl (by decide +kernel) ?_ | refine tk 1 rfl (by decide +kernel) ?_ | refine tk 2 rfl (by decide +kernel) ?_ | refine tk 3 rfl (by decide +kernel) ?_ | refine ef 4 (by decide +kernel) rfl ?_ | refine ef 5 (by decide +kernel) rfl ?_ | refine ef 6 (by decide +kernel) rfl ?_ | refine tk 7 rfl (by decide +kernel) ?_ | refine ef 8 (by decide +kernel) rfl ?_ | refine tk 9 rfl (by decide +kernel) ?_ | fail)
  refine ints_spec (ns := [st', ep', mv']) (by simp) .here fun a1 cap1 => ?_
  repeat' (first | refine step ?_ | refine knowI fun hk => ?_ | refine got rfl ?_ | refine And.intro rfl ?_ | (refine And.intro (fun hc => ?_) (fun hc => ?_) <;> (try (exfalso; first | omega | (simp only [List.length_nil, List.length_cons] at hc; omega)))) | (refine And.intro ?_ ?_; focus omega) | (refine And.intro ?_ ?_; focus (simp only [List.length_map, List.length_set, List.length_replicate, List.length_append, List.length_range, List.length_cons, List.length_nil, Nat.blt_eq, Nat.ble_eq]; omega)) | refine anyB fun b => ?_ | refine got (nth_rowI rfl) ?_ | refine got (nth_row0 rfl) ?_ | refine got (nth_row2 rfl) ?_ | refine And.intro (keepS (by decide +kernel)) ?_ | refine And.intro keepR ?_ | refine RunD.done (by decide +kernel) ?_ | refine tk 0 rfl (by decide +kernel) ?_ | refine tk 1 rfl (by decide +kernel) ?_ | refine tk 2 rfl (by decide +kernel) ?_ | refine tk 3 rfl (by decide +kernel) ?_ | refine ef 4 (by decide +kernel) rfl ?_ | refine ef 5 (by decide +kernel) rfl ?_ | refine ef 6 (by decide +kernel) rfl ?_ | refine tk 7 rfl (by decide +kernel) ?_ | refine ef 8 (by decide +kernel) rfl ?_ | refine tk 9 rfl (by decide +kernel) ?_ | fail)
  refine textI_spec (kind := standsB) (ns := [st', ep', mv']) (by simpa using hin) (by simp) (by omega) .here ?_
  repeat' (first | refine step ?_ | refine knowI fun hk => ?_ | refine got rfl ?_ | refine And.intro rfl ?_ | (refine And.intro (fun hc => ?_) (fun hc => ?_) <;> (try (exfalso; first | omega | (simp only [List.length_nil, List.length_cons] at hc; omega)))) | (refine And.intro ?_ ?_; focus omega) | (refine And.intro ?_ ?_; focus (simp only [List.length_map, List.length_set, List.length_replicate, List.length_append, List.length_range, List.length_cons, List.length_nil, Nat.blt_eq, Nat.ble_eq]; omega)) | refine anyB fun b => ?_ | refine got (nth_rowI rfl) ?_ | refine got (nth_row0 rfl) ?_ | refine got (nth_row2 rfl) ?_ | refine And.intro (keepS (by decide +kernel)) ?_ | refine And.intro keepR ?_ | refine RunD.done (by decide +kernel) ?_ | refine tk 0 rfl (by decide +kernel) ?_ | refine tk 1 rfl (by decide +kernel) ?_ | refine tk 2 rfl (by decide +kernel) ?_ | refine tk 3 rfl (by decide +kernel) ?_ | refine ef 4 (by decide +kernel) rfl ?_ | refine ef 5 (by decide +kernel) rfl ?_ | refine ef 6 (by decide +kernel) rfl ?_ | refine tk 7 rfl (by decide +kernel) ?_ | refine ef 8 (by decide +kernel) rfl ?_ | refine tk 9 rfl (by decide +kernel) ?_ | fail)
  refine keeps_spec (r := textI standsB [st', ep', mv']) (by omega) hrc hn hL (by have := frm_length (textI standsB [st', ep', mv']); omega) (.there (.there .here)) (.there (.there .here)) fun now' i1 i2 i3 => ?_
  repeat' (first | refine step ?_ | refine knowI fun hk => ?_ | refine got rfl ?_ | refine And.intro rfl ?_ | (refine And.intro (fun hc => ?_) (fun hc => ?_) <;> (try (exfalso; first | omega | (simp only [List.length_nil, List.length_cons] at hc; omega)))) | (refine And.intro ?_ ?_; focus omega) | (refine And.intro ?_ ?_; focus (simp only [List.length_map, List.length_set, List.length_replicate, List.length_append, List.length_range, List.length_cons, List.length_nil, Nat.blt_eq, Nat.ble_eq]; omega)) | refine anyB fun b => ?_ | refine got (nth_rowI rfl) ?_ | refine got (nth_row0 rfl) ?_ | refine got (nth_row2 rfl) ?_ | refine And.intro (keepS (by decide +kernel)) ?_ | refine And.intro keepR ?_ | refine RunD.done (by decide +kernel) ?_ | refine tk 0 rfl (by decide +kernel) ?_ | refine tk 1 rfl (by decide +kernel) ?_ | refine tk 2 rfl (by decide +kernel) ?_ | refine tk 3 rfl (by decide +kernel) ?_ | refine ef 4 (by decide +kernel) rfl ?_ | refine ef 5 (by decide +kernel) rfl ?_ | refine ef 6 (by decide +kernel) rfl ?_ | refine tk 7 rfl (by decide +kernel) ?_ | refine ef 8 (by decide +kernel) rfl ?_ | refine tk 9 rfl (by decide +kernel) ?_ | fail)
  repeat' (first | refine step ?_ | refine knowI fun hk => ?_ | refine got rfl ?_ | refine And.intro rfl ?_ | (refine And.intro (fun hc => ?_) (fun hc => ?_) <;> (try (exfalso; first | omega | (simp only [List.length_nil, List.length_cons] at hc; omega)))) | (refine And.intro ?_ ?_; focus omega) | (refine And.intro ?_ ?_; focus (simp only [List.length_map, List.length_set, List.length_replicate, List.length_append, List.length_range, List.length_cons, List.length_nil, Nat.blt_eq, Nat.ble_eq]; omega)) | refine anyB fun b => ?_ | refine got (nth_rowI rfl) ?_ | refine got (nth_row0 rfl) ?_ | refine got (nth_row2 rfl) ?_ | fail)
  refine Run.drawI [2, 3] rfl ?_
  repeat' (first | refine step ?_ | refine knowI fun hk => ?_ | refine got rfl ?_ | refine And.intro rfl ?_ | (refine And.intro (fun hc => ?_) (fun hc => ?_) <;> (try (exfalso; first | omega | (simp only [List.length_nil, List.length_cons] at hc; omega)))) | (refine And.intro ?_ ?_; focus omega) | (refine And.intro ?_ ?_; focus (simp only [List.length_map, List.length_set, List.length_replicate, List.length_append, List.length_range, List.length_cons, List.length_nil, Nat.blt_eq, Nat.ble_eq]; omega)) | refine anyB fun b => ?_ | refine got (nth_rowI rfl) ?_ | refine got (nth_row0 rfl) ?_ | refine got (nth_row2 rfl) ?_ | refine And.intro (keepS (by decide +kernel)) ?_ | refine And.intro keepR ?_ | refine RunD.done (by decide +kernel) ?_ | refine tk 0 rfl (by decide +kernel) ?_ | refine tk 1 rfl (by decide +kernel) ?_ | refine tk 2 rfl (by decide +kernel) ?_ | refine tk 3 rfl (by decide +kernel) ?_ | refine tk 4 rfl (by decide +kernel) ?_ | refine tk 5 rfl (by decide +kernel) ?_ | refine tk 6 rfl (by decide +kernel) ?_ | refine tk 7 rfl (by decide +kernel) ?_ | refine ef' 8 (by decide +kernel) rfl ?_ | refine tk 9 rfl (by decide +kernel) ?_ | refine tk 10 rfl (by decide +kernel) ?_ | refine ef' 11 (by decide +kernel) rfl ?_ | refine tk 12 rfl (by decide +kernel) ?_ | refine tk 13 rfl (by decide +kernel) ?_ | refine ef' 14 (by decide +kernel) rfl ?_ | fail)
  repeat' (first | refine step ?_ | refine knowI fun hk => ?_ | refine got rfl ?_ | refine And.intro rfl ?_ | (refine And.intro (fun hc => ?_) (fun hc => ?_) <;> (try (exfalso; first | omega | (simp only [List.length_nil, List.length_cons] at hc; omega)))) | (refine And.intro ?_ ?_; focus omega) | (refine And.intro ?_ ?_; focus (simp only [List.length_map, List.length_set, List.length_replicate, List.length_append, List.length_range, List.length_cons, List.length_nil, Nat.blt_eq, Nat.ble_eq]; omega)) | refine anyB fun b => ?_ | refine got (nth_rowI rfl) ?_ | refine got (nth_row0 rfl) ?_ | refine got (nth_row2 rfl) ?_ | fail)
  refine retG Tryz.func71 rfl ?_
  repeat' (first | refine step ?_ | refine knowI fun hk => ?_ | refine got rfl ?_ | refine And.intro rfl ?_ | (refine And.intro (fun hc => ?_) (fun hc => ?_) <;> (try (exfalso; first | omega | (simp only [List.length_nil, List.length_cons] at hc; omega)))) | (refine And.intro ?_ ?_; focus omega) | (refine And.intro ?_ ?_; focus (simp only [List.length_map, List.length_set, List.length_replicate, List.length_append, List.length_range, List.length_cons, List.length_nil, Nat.blt_eq, Nat.ble_eq]; omega)) | refine anyB fun b => ?_ | refine got (nth_rowI rfl) ?_ | refine got (nth_row0 rfl) ?_ | refine got (nth_row2 rfl) ?_ | fail)
  exact Wk.mk fin (h now' i1 i2 i3)
end
end Go.Sl
