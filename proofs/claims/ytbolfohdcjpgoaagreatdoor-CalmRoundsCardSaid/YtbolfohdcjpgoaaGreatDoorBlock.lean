/- A disk of blocks (package block): what each method does. -/
import Derived.Test.YtbolfohdcjpgoaaGreatDoorFacts
import Derived.Test.YtbolfohdcjpgoaaGreatDoorSlB
set_option linter.unusedSimpArgs false
set_option linter.unusedVariables false
set_option linter.unusedSectionVars false
open Go Go.RowKit
namespace Go.Sl
open Go.Proofs
abbrev Bytes := List UInt8
abbrev Loose := Nat × Value × Value
abbrev looseRow (r : Loose) : List Value := [.int .i64 r.1, r.2.1, r.2.2]
instance : RowLen looseRow 3 := ⟨fun _ => rfl⟩
/-- the parts of a disk: what is sure, what it has, loose writes -/
abbrev DiskP (p bs bn : Nat) (a : Option Addr) (cp : Nat) (sure now : List Bytes) (lo : List Loose) (F : HL) : HL :=
  cells p [.slice (some ⟨bs, 0, none⟩) now.length now.length, .slice (some ⟨bn, 0, none⟩) now.length now.length, .slice a lo.length cp] 133 ::
   cells bs (sure.map str) 9 :: cells bn (now.map str) 9 :: SlR (.slice a lo.length cp) 181 3 lo.length (lo.flatMap looseRow) :: F
structure DiskOk (sure now : List Bytes) (lo : List Loose) (ks : List Nat) : Prop where
  len : sure.length = now.length
  max : now.length ≤ 16384
  keys : lo.map (·.1) = ks
  lt : ∀ k ∈ ks, k < now.length
  one : ∀ r ∈ lo, r.2.1.oneCell' = true ∧ r.2.2.oneCell' = true
  same : ∀ k, k ∉ ks → sure[k]? = now[k]?
/-- a disk: its blocks, and which were written since the last sync -/
def Disk (p : Nat) (now : List Bytes) (ks : List Nat) : HP :=
  ex fun x : Nat × Nat × Option Addr × Nat × List Bytes × List Loose => all (pur (DiskOk x.2.2.2.2.1 now x.2.2.2.2.2 ks) :: DiskP p x.1 x.2.1 x.2.2.1 x.2.2.2.1 x.2.2.2.2.1 now x.2.2.2.2.2 [])
section
variable {w0 : World} {l F : HL} {K : Value → HL → Prop} {p : Nat} {now : List Bytes} {ks : List Nat}
theorem disk_open {f : FuncId} {args : Array Value} (hp : Rem l (Disk p now ks) F)
    (h : ∀ bs bn a cp sure lo, DiskOk sure now lo ks → CallG Tryz.prog w0 f args (DiskP p bs bn a cp sure now lo F) K) : CallG Tryz.prog w0 f args l K := by
  intro w hs
  obtain ⟨⟨bs, bn, a, cp, sure, lo⟩, hs⟩ := (hs.ent hp.ent).ex
  have hs := hs.ent (ent_all _ _)
  obtain ⟨hok, hs⟩ := Sat.pur hs
  exact h bs bn a cp sure lo hok w hs
theorem disk_close (bs bn : Nat) (a : Option Addr) (cp : Nat) (sure : List Bytes) (lo : List Loose) (hok : DiskOk sure now lo ks) : Ent (DiskP p bs bn a cp sure now lo F) (Disk p now ks :: F) := by
  refine Ent.trans ?_ (ent_ex _ (bs, bn, a, cp, sure, lo) F)
  exact (ent_pur hok _).trans (ent_all' (pur (DiskOk sure now lo ks) :: DiskP p bs bn a cp sure now lo []) F)

theorem has_spec {b : Nat} {k : Int} {v0 v2 : Value} {pn : Option Addr} {n m : Nat}
    (hp : Rem l (cells b [v0, .slice pn n m, v2] 133) F)
    (h : K (.bool (decide (0 ≤ k ∧ k < n))) (cells b [v0, .slice pn n m, v2] 133 :: F)) :
    CallG Tryz.prog w0 97 [.pointer (some ⟨b, 0, none⟩), .int .i64 k].toArray l K := by
  refine CallG.ent hp.ent ?_
  refine CallG.enter Tryz.func97 rfl rfl fun cs => ?_
  repeat' (first | refine step ?_ | refine knowI fun hk => ?_ | refine got rfl ?_ | refine And.intro rfl ?_ | (refine And.intro (fun hc => ?_) (fun hc => ?_) <;> (try (exfalso; first | omega | (simp only [List.length_nil, List.length_cons] at hc; omega)))) | (refine And.intro ?_ ?_; focus omega) | (refine And.intro ?_ ?_; focus (simp only [List.length_map, List.length_set, List.length_replicate, List.length_append, List.length_range, List.length_cons, List.length_nil, Nat.blt_eq, Nat.ble_eq]; omega)) | refine anyB fun b => ?_ | refine got (nth_rowI rfl) ?_ | refine got (nth_row0 rfl) ?_ | refine got (nth_row2 rfl) ?_ | fail)
  all_goals (refine ret1 Tryz.func97 rfl ?_; refine got rfl ?_)
  · simpa [hc] using h
  · simpa [hc] using h

set_option maxRecDepth 4000 in
theorem Put_spec {k : Int} {s : Bytes} (hp : Rem l (Disk p now ks) F) (h0 : 0 ≤ k) (h1 : k < now.length) (hs : s.length ≤ 128)
    (hks : ks.length ≤ 1000000) (h : K (.int .i64 0) (Disk p (now.set k.toNat s) (ks ++ [k.toNat]) :: F)) :
    CallG Tryz.prog w0 171 [.pointer (some ⟨p, 0, none⟩), .int .i64 k, str s].toArray l K := by
  obtain ⟨k, rfl⟩ := Int.eq_ofNat_of_zero_le h0
  refine disk_open hp fun bs bn a cp sure lo hok => ?_
  have hlo : lo.length ≤ 1000000 := by have := congrArg List.length hok.keys; simp at this; omega
  refine CallG.enter Tryz.func171 rfl rfl fun cs => ?_
  repeat' (first | refine step ?_ | refine knowI fun hk => ?_ | refine got rfl ?_ | refine And.intro rfl ?_ | (refine And.intro (fun hc => ?_) (fun hc => ?_) <;> (try (exfalso; first | omega | (simp only [List.length_nil, List.length_cons] at hc; omega)))) | (refine And.intro ?_ ?_; focus omega) | (refine And.intro ?_ ?_; focus (simp only [List.length_map, List.length_set, List.length_replicate, List.length_append, List.length_range, List.length_cons, List.length_nil, Nat.blt_eq, Nat.ble_eq]; omega)) | refine anyB fun b => ?_ | refine got (nth_rowI rfl) ?_ | refine got (nth_row0 rfl) ?_ | refine got (nth_row2 rfl) ?_ | fail)
  refine has_spec (.there (.there (.there .here))) ?_
  repeat' (first | refine step ?_ | refine knowI fun hk => ?_ | refine got rfl ?_ | refine And.intro rfl ?_ | (refine And.intro (fun hc => ?_) (fun hc => ?_) <;> (try (exfalso; first | omega | (simp only [List.length_nil, List.length_cons] at hc; omega)))) | (refine And.intro ?_ ?_; focus omega) | (refine And.intro ?_ ?_; focus (simp only [List.length_map, List.length_set, List.length_replicate, List.length_append, List.length_range, List.length_cons, List.length_nil, Nat.blt_eq, Nat.ble_eq]; omega)) | refine anyB fun b => ?_ | refine got (nth_rowI rfl) ?_ | refine got (nth_row0 rfl) ?_ | refine got (nth_row2 rfl) ?_ | fail)
  refine Run.drawI [0, 1, 2, 3] rfl ?_
  repeat' (first | refine step ?_ | refine knowI fun hk => ?_ | refine got rfl ?_ | refine And.intro rfl ?_ | (refine And.intro (fun hc => ?_) (fun hc => ?_) <;> (try (exfalso; first | omega | (simp only [List.length_nil, List.length_cons] at hc; omega)))) | (refine And.intro ?_ ?_; focus omega) | (refine And.intro ?_ ?_; focus (simp only [List.length_map, List.length_set, List.length_replicate, List.length_append, List.length_range, List.length_cons, List.length_nil, Nat.blt_eq, Nat.ble_eq]; omega)) | refine anyB fun b => ?_ | refine got (nth_rowI rfl) ?_ | refine got (nth_row0 rfl) ?_ | refine got (nth_row2 rfl) ?_ | refine And.intro (keepS (by decide +kernel)) ?_ | refine And.intro keepR ?_ | refine RunD.done (by decide +kernel) ?_ | refine tk 0 rfl (by decide +kernel) ?_ | refine tk 1 rfl (by decide +kernel) ?_ | refine tk 2 rfl (by decide +kernel) ?_ | refine tk 3 rfl (by decide +kernel) ?_ | refine tk 4 rfl (by decide +kernel) ?_ | refine tk 5 rfl (by decide +kernel) ?_ | refine tk 6 rfl (by decide +kernel) ?_ | refine ef' 7 (by decide +kernel) rfl ?_ | fail)
  refine Run.drawI [0, 1, 2, 3] rfl ?_
  repeat' (first | refine step ?_ | refine knowI fun hk => ?_ | refine got rfl ?_ | refine And.intro rfl ?_ | (refine And.intro (fun hc => ?_) (fun hc => ?_) <;> (try (exfalso; first | omega | (simp only [List.length_nil, List.length_cons] at hc; omega)))) | (refine And.intro ?_ ?_; focus omega) | (refine And.intro ?_ ?_; focus (simp only [List.length_map, List.length_set, List.length_replicate, List.length_append, List.length_range, List.length_cons, List.length_nil, Nat.blt_eq, Nat.ble_eq]; omega)) | refine anyB fun b => ?_ | refine got (nth_rowI rfl) ?_ | refine got (nth_row0 rfl) ?_ | refine got (nth_row2 rfl) ?_ | refine And.intro (keepS (by decide +kernel)) ?_ | refine And.intro keepR ?_ | refine RunD.done (by decide +kernel) ?_ | refine tk 0 rfl (by decide +kernel) ?_ | refine tk 1 rfl (by decide +kernel) ?_ | refine tk 2 rfl (by decide +kernel) ?_ | refine tk 3 rfl (by decide +kernel) ?_ | refine tk 4 rfl (by decide +kernel) ?_ | refine tk 5 rfl (by decide +kernel) ?_ | refine tk 6 rfl (by decide +kernel) ?_ | refine tk 7 rfl (by decide +kernel) ?_ | refine tk 8 rfl (by decide +kernel) ?_ | refine tk 9 rfl (by decide +kernel) ?_ | refine ef 10 (by decide +kernel) rfl ?_ | refine ef 11 (by decide +kernel) rfl ?_ | refine tk 12 rfl (by decide +kernel) ?_ | refine tk 13 rfl (by decide +kernel) ?_ | refine ef' 14 (by decide +kernel) rfl ?_ | fail)
  refine appendG rfl (by decide) (by omega) fun a' cp' => ?_
  repeat' (first | refine step ?_ | refine knowI fun hk => ?_ | refine got rfl ?_ | refine And.intro rfl ?_ | (refine And.intro (fun hc => ?_) (fun hc => ?_) <;> (try (exfalso; first | omega | (simp only [List.length_nil, List.length_cons] at hc; omega)))) | (refine And.intro ?_ ?_; focus omega) | (refine And.intro ?_ ?_; focus (simp only [List.length_map, List.length_set, List.length_replicate, List.length_append, List.length_range, List.length_cons, List.length_nil, Nat.blt_eq, Nat.ble_eq]; omega)) | refine anyB fun b => ?_ | refine got (nth_rowI rfl) ?_ | refine got (nth_row0 rfl) ?_ | refine got (nth_row2 rfl) ?_ | refine And.intro (keepS (by decide +kernel)) ?_ | refine And.intro keepR ?_ | refine RunD.done (by decide +kernel) ?_ | refine tk 0 rfl (by decide +kernel) ?_ | refine tk 1 rfl (by decide +kernel) ?_ | refine tk 2 rfl (by decide +kernel) ?_ | refine tk 3 rfl (by decide +kernel) ?_ | refine tk 4 rfl (by decide +kernel) ?_ | refine tk 5 rfl (by decide +kernel) ?_ | refine tk 6 rfl (by decide +kernel) ?_ | refine tk 7 rfl (by decide +kernel) ?_ | refine tk 8 rfl (by decide +kernel) ?_ | refine tk 9 rfl (by decide +kernel) ?_ | refine ef 10 (by decide +kernel) rfl ?_ | refine ef 11 (by decide +kernel) rfl ?_ | refine tk 12 rfl (by decide +kernel) ?_ | refine tk 13 rfl (by decide +kernel) ?_ | refine ef' 14 (by decide +kernel) rfl ?_ | fail)
  repeat' (first | refine step ?_ | refine knowI fun hk => ?_ | refine got rfl ?_ | refine And.intro rfl ?_ | (refine And.intro (fun hc => ?_) (fun hc => ?_) <;> (try (exfalso; first | omega | (simp only [List.length_nil, List.length_cons] at hc; omega)))) | (refine And.intro ?_ ?_; focus omega) | (refine And.intro ?_ ?_; focus (simp only [List.length_map, List.length_set, List.length_replicate, List.length_append, List.length_range, List.length_cons, List.length_nil, Nat.blt_eq, Nat.ble_eq]; omega)) | refine anyB fun b => ?_ | refine got (nth_rowI rfl) ?_ | refine got (nth_row0 rfl) ?_ | refine got (nth_row2 rfl) ?_ | fail)
  rename_i x3 x4 x5 _ _ _ _
  refine Run.ent (l' := Disk p (now.set k s) (ks ++ [k]) :: F) ?_ (ret1 Tryz.func171 rfl ?_)
  · refine Ent.trans ?_ (disk_close bs bn a' cp' sure (lo ++ [(k, .int .i64 s.length, .func (.func 204) #[] #[.pointer (some ⟨x3, 0, none⟩), .pointer (some ⟨x4, 0, none⟩), .pointer (some ⟨x5, 0, none⟩)])]) ?_)
    · simp only [DiskP, List.length_set, List.length_append, List.length_singleton, List.flatMap_append, List.flatMap_singleton, looseRow, List.map_set, List.cons_append, List.nil_append]
      exact fin
    · have h1' : k < now.length := by omega
      exact ⟨by simp [hok.len], by simp [hok.max], by simp [hok.keys], by
        intro j hj; simp at hj ⊢; rcases hj with hj | rfl
        · exact hok.lt j hj
        · exact h1', by
        intro r hr; simp at hr; rcases hr with hr | rfl
        · exact hok.one r hr
        · exact ⟨rfl, rfl⟩, by
        intro j hj; simp at hj
        rw [List.getElem?_set_ne (by omega)]; exact hok.same j hj.1⟩
  · repeat' (first | refine step ?_ | refine knowI fun hk => ?_ | refine got rfl ?_ | refine And.intro rfl ?_ | (refine And.intro (fun hc => ?_) (fun hc => ?_) <;> (try (exfalso; first | omega | (simp only [List.length_nil, List.length_cons] at hc; omega)))) | (refine And.intro ?_ ?_; focus omega) | (refine And.intro ?_ ?_; focus (simp only [List.length_map, List.length_set, List.length_replicate, List.length_append, List.length_range, List.length_cons, List.length_nil, Nat.blt_eq, Nat.ble_eq]; omega)) | refine anyB fun b => ?_ | refine got (nth_rowI rfl) ?_ | refine got (nth_row0 rfl) ?_ | refine got (nth_row2 rfl) ?_ | fail)
    simpa using h

theorem Get_spec {k : Int} (hp : Rem l (Disk p now ks) F) (h0 : 0 ≤ k) (h1 : k < now.length)
    (h : K (.tuple #[str (now.getD k.toNat []), .int .i64 0]) (Disk p now ks :: F)) :
    CallG Tryz.prog w0 127 [.pointer (some ⟨p, 0, none⟩), .int .i64 k].toArray l K := by
  obtain ⟨k, rfl⟩ := Int.eq_ofNat_of_zero_le h0
  refine disk_open hp fun bs bn a cp sure lo hok => ?_
  refine CallG.enter Tryz.func127 rfl rfl fun cs => ?_
  repeat' (first | refine step ?_ | refine knowI fun hk => ?_ | refine got rfl ?_ | refine And.intro rfl ?_ | (refine And.intro (fun hc => ?_) (fun hc => ?_) <;> (try (exfalso; first | omega | (simp only [List.length_nil, List.length_cons] at hc; omega)))) | (refine And.intro ?_ ?_; focus omega) | (refine And.intro ?_ ?_; focus (simp only [List.length_map, List.length_set, List.length_replicate, List.length_append, List.length_range, List.length_cons, List.length_nil, Nat.blt_eq, Nat.ble_eq]; omega)) | refine anyB fun b => ?_ | refine got (nth_rowI rfl) ?_ | refine got (nth_row0 rfl) ?_ | refine got (nth_row2 rfl) ?_ | fail)
  refine has_spec .here ?_
  repeat' (first | refine step ?_ | refine knowI fun hk => ?_ | refine got rfl ?_ | refine And.intro rfl ?_ | (refine And.intro (fun hc => ?_) (fun hc => ?_) <;> (try (exfalso; first | omega | (simp only [List.length_nil, List.length_cons] at hc; omega)))) | (refine And.intro ?_ ?_; focus omega) | (refine And.intro ?_ ?_; focus (simp only [List.length_map, List.length_set, List.length_replicate, List.length_append, List.length_range, List.length_cons, List.length_nil, Nat.blt_eq, Nat.ble_eq]; omega)) | refine anyB fun b => ?_ | refine got (nth_rowI rfl) ?_ | refine got (nth_row0 rfl) ?_ | refine got (nth_row2 rfl) ?_ | fail)
  have hk : k < now.length := by omega
  refine got (v := str (now.getD k [])) (by rw [nth_eq]; simp [hk]) ?_
  repeat' (first | refine step ?_ | refine knowI fun hk => ?_ | refine got rfl ?_ | refine And.intro rfl ?_ | (refine And.intro (fun hc => ?_) (fun hc => ?_) <;> (try (exfalso; first | omega | (simp only [List.length_nil, List.length_cons] at hc; omega)))) | (refine And.intro ?_ ?_; focus omega) | (refine And.intro ?_ ?_; focus (simp only [List.length_map, List.length_set, List.length_replicate, List.length_append, List.length_range, List.length_cons, List.length_nil, Nat.blt_eq, Nat.ble_eq]; omega)) | refine anyB fun b => ?_ | refine got (nth_rowI rfl) ?_ | refine got (nth_row0 rfl) ?_ | refine got (nth_row2 rfl) ?_ | fail)
  refine Run.ent (l' := Disk p now ks :: F) ?_ (ret2 Tryz.func127 rfl ?_)
  · exact Ent.trans fin (disk_close bs bn a cp sure lo hok)
  · repeat' (first | refine step ?_ | refine knowI fun hk => ?_ | refine got rfl ?_ | refine And.intro rfl ?_ | (refine And.intro (fun hc => ?_) (fun hc => ?_) <;> (try (exfalso; first | omega | (simp only [List.length_nil, List.length_cons] at hc; omega)))) | (refine And.intro ?_ ?_; focus omega) | (refine And.intro ?_ ?_; focus (simp only [List.length_map, List.length_set, List.length_replicate, List.length_append, List.length_range, List.length_cons, List.length_nil, Nat.blt_eq, Nat.ble_eq]; omega)) | refine anyB fun b => ?_ | refine got (nth_rowI rfl) ?_ | refine got (nth_row0 rfl) ?_ | refine got (nth_row2 rfl) ?_ | fail)
    simpa using h
theorem Blocks_spec (hp : Rem l (Disk p now ks) F) (h : K (.int .i64 now.length) (Disk p now ks :: F)) :
    CallG Tryz.prog w0 126 [.pointer (some ⟨p, 0, none⟩)].toArray l K := by
  refine disk_open hp fun bs bn a cp sure lo hok => ?_
  refine CallG.enter Tryz.func126 rfl rfl fun cs => ?_
  repeat' (first | refine step ?_ | refine knowI fun hk => ?_ | refine got rfl ?_ | refine And.intro rfl ?_ | (refine And.intro (fun hc => ?_) (fun hc => ?_) <;> (try (exfalso; first | omega | (simp only [List.length_nil, List.length_cons] at hc; omega)))) | (refine And.intro ?_ ?_; focus omega) | (refine And.intro ?_ ?_; focus (simp only [List.length_map, List.length_set, List.length_replicate, List.length_append, List.length_range, List.length_cons, List.length_nil, Nat.blt_eq, Nat.ble_eq]; omega)) | refine anyB fun b => ?_ | refine got (nth_rowI rfl) ?_ | refine got (nth_row0 rfl) ?_ | refine got (nth_row2 rfl) ?_ | fail)
  refine Run.ent (l' := Disk p now ks :: F) ?_ (ret1 Tryz.func126 rfl ?_)
  · exact Ent.trans fin (disk_close bs bn a cp sure lo hok)
  · repeat' (first | refine step ?_ | refine knowI fun hk => ?_ | refine got rfl ?_ | refine And.intro rfl ?_ | (refine And.intro (fun hc => ?_) (fun hc => ?_) <;> (try (exfalso; first | omega | (simp only [List.length_nil, List.length_cons] at hc; omega)))) | (refine And.intro ?_ ?_; focus omega) | (refine And.intro ?_ ?_; focus (simp only [List.length_map, List.length_set, List.length_replicate, List.length_append, List.length_range, List.length_cons, List.length_nil, Nat.blt_eq, Nat.ble_eq]; omega)) | refine anyB fun b => ?_ | refine got (nth_rowI rfl) ?_ | refine got (nth_row0 rfl) ?_ | refine got (nth_row2 rfl) ?_ | fail)
    exact h
def syncUp (now : List Bytes) (sure : List Bytes) (ks : List Nat) : List Bytes := ks.foldl (fun s k => s.set k (now.getD k [])) sure
theorem length_syncUp (now : List Bytes) : ∀ (ks : List Nat) (sure : List Bytes), (syncUp now sure ks).length = sure.length
  | [], _ => rfl
  | k :: ks, sure => by
    have := length_syncUp now ks (sure.set k (now.getD k []))
    rw [List.length_set] at this; exact this
theorem getElem?_syncUp {now : List Bytes} : ∀ (ks : List Nat) (sure : List Bytes), sure.length = now.length → (∀ k ∈ ks, k < now.length) → ∀ j, (syncUp now sure ks)[j]? = if j ∈ ks then now[j]? else sure[j]?
  | [], sure, _, _, j => by simp [syncUp]
  | k :: ks, sure, hl, hk, j => by
    have ih := getElem?_syncUp ks (sure.set k (now.getD k [])) (by simpa using hl) (fun x hx => hk x (by simp [hx])) j
    have hkn : k < now.length := hk k (by simp)
    rw [show syncUp now sure (k :: ks) = syncUp now (sure.set k (now.getD k [])) ks from rfl, ih]
    by_cases h1 : j ∈ ks
    · simp [h1]
    · simp only [h1, if_false, List.mem_cons, or_false]
      by_cases h2 : j = k
      · subst h2; simp [hl, hkn]
      · rw [if_neg h2, List.getElem?_set_ne (by omega)]
theorem syncUp_all {now sure : List Bytes} {ks : List Nat} (hl : sure.length = now.length) (hk : ∀ k ∈ ks, k < now.length) (hs : ∀ k, k ∉ ks → sure[k]? = now[k]?) : syncUp now sure ks = now := by
  apply List.ext_getElem?
  intro j
  rw [getElem?_syncUp ks sure hl hk]
  split
  · rfl
  · rename_i h; exact hs j h
theorem looseRow_len (r : Loose) : (looseRow r).length = 3 := rfl
set_option maxRecDepth 4000 in
theorem Sync_spec (hp : Rem l (Disk p now ks) F) (h : K (.int .i64 0) (Disk p now [] :: F)) (hpos : 0 < now.length) (hks : ks.length ≤ 1000000) :
    CallG Tryz.prog w0 172 [.pointer (some ⟨p, 0, none⟩)].toArray l K := by
  refine disk_open hp fun bs bn a cp sure lo hok => ?_
  refine CallG.enter Tryz.func172 rfl rfl fun cs => ?_
  repeat' (first | refine step ?_ | refine knowI fun hk => ?_ | refine got rfl ?_ | refine And.intro rfl ?_ | (refine And.intro (fun hc => ?_) (fun hc => ?_) <;> (try (exfalso; first | omega | (simp only [List.length_nil, List.length_cons] at hc; omega)))) | (refine And.intro ?_ ?_; focus omega) | (refine And.intro ?_ ?_; focus (simp only [List.length_map, List.length_set, List.length_replicate, List.length_append, List.length_range, List.length_cons, List.length_nil, Nat.blt_eq, Nat.ble_eq]; omega)) | refine anyB fun b => ?_ | refine got (nth_rowI rfl) ?_ | refine got (nth_row0 rfl) ?_ | refine got (nth_row2 rfl) ?_ | fail)
  refine has_spec .here ?_
  repeat' (first | refine step ?_ | refine knowI fun hk => ?_ | refine got rfl ?_ | refine And.intro rfl ?_ | (refine And.intro (fun hc => ?_) (fun hc => ?_) <;> (try (exfalso; first | omega | (simp only [List.length_nil, List.length_cons] at hc; omega)))) | (refine And.intro ?_ ?_; focus omega) | (refine And.intro ?_ ?_; focus (simp only [List.length_map, List.length_set, List.length_replicate, List.length_append, List.length_range, List.length_cons, List.length_nil, Nat.blt_eq, Nat.ble_eq]; omega)) | refine anyB fun b => ?_ | refine got (nth_rowI rfl) ?_ | refine got (nth_row0 rfl) ?_ | refine got (nth_row2 rfl) ?_ | fail)
  have hlo : lo.length = ks.length := by have := congrArg List.length hok.keys; simpa using this
  refine Run.loop (fun s : Nat × List Bytes => [(0, .pointer (some ⟨p, 0, none⟩)), (11, .slice a lo.length cp), (12, .int .i64 lo.length), (13, .int .i64 s.1)])
    (fun s => DiskP p bs bn a cp s.2 now lo F) (fun s => s.1 ≤ lo.length ∧ s.2 = syncUp now sure (ks.take s.1)) (fun s => lo.length - s.1) (0, sure) ⟨by omega, rfl⟩
    (by repeat (first | exact Sub.nil _ | refine Sub.cons rfl ?_)) fin ?_
  rintro ⟨i, su⟩ ⟨hi, hsu⟩ ih
  dsimp only at hi hsu ih ⊢
  subst hsu
  by_cases hlt : i < lo.length
  · obtain ⟨⟨k, vx, vy⟩, hr⟩ : ∃ r, lo[i]? = some r := ⟨lo[i], List.getElem?_eq_getElem hlt⟩
    have hki : ks[i]? = some k := by rw [← hok.keys, List.getElem?_map, hr]; rfl
    have hkn : k < now.length := hok.lt k (List.mem_of_getElem? hki)
    have hone := hok.one _ (List.mem_of_getElem? hr)
    haveI : RowAt lo i (k, vx, vy) := ⟨hr⟩
    haveI : RowAt now k (now[k]) := ⟨List.getElem?_eq_getElem hkn⟩
    refine openSl (.slice a lo.length cp) (fun _ h0 _ => by omega) fun bl pre junk cap hv hcap hjunk hlen => ?_
    obtain ⟨rfl, rfl⟩ : a = some ⟨bl, pre.length, none⟩ ∧ cp = cap := by simpa using hv
    repeat' (first | refine step ?_ | refine knowI fun hk => ?_ | refine got rfl ?_ | refine And.intro rfl ?_ | (refine And.intro (fun hc => ?_) (fun hc => ?_) <;> (try (exfalso; first | omega | (simp only [List.length_nil, List.length_cons] at hc; omega)))) | (refine And.intro ?_ ?_; focus omega) | (refine And.intro ?_ ?_; focus (simp only [List.length_map, List.length_set, List.length_replicate, List.length_append, List.length_range, List.length_cons, List.length_nil, Nat.blt_eq, Nat.ble_eq]; omega)) | refine anyB fun b => ?_ | refine got (nth_rowI rfl) ?_ | refine got (nth_row0 rfl) ?_ | refine got (nth_row2 rfl) ?_ | fail)
    refine And.intro (by simp only [looseRow, List.all_cons, List.all_nil, hone.1, hone.2]; rfl) ?_
    repeat' (first | refine step ?_ | refine knowI fun hk => ?_ | refine got rfl ?_ | refine And.intro rfl ?_ | (refine And.intro (fun hc => ?_) (fun hc => ?_) <;> (try (exfalso; first | omega | (simp only [List.length_nil, List.length_cons] at hc; omega)))) | (refine And.intro ?_ ?_; focus omega) | (refine And.intro ?_ ?_; focus (simp only [List.length_map, List.length_set, List.length_replicate, List.length_append, List.length_range, List.length_cons, List.length_nil, Nat.blt_eq, Nat.ble_eq]; omega)) | refine anyB fun b => ?_ | refine got (nth_rowI rfl) ?_ | refine got (nth_row0 rfl) ?_ | refine got (nth_row2 rfl) ?_ | fail)
    refine Run.drawI [0, 1, 2, 3, 4] rfl ?_
    have hsl : (syncUp now sure (ks.take i)).length = now.length := by rw [length_syncUp, hok.len]
    repeat' (first | refine step ?_ | refine knowI fun hk => ?_ | refine got rfl ?_ | refine And.intro rfl ?_ | (refine And.intro (fun hc => ?_) (fun hc => ?_) <;> (try (exfalso; first | omega | (simp only [List.length_nil, List.length_cons] at hc; omega)))) | (refine And.intro ?_ ?_; focus omega) | (refine And.intro ?_ ?_; focus (simp only [List.length_map, List.length_set, List.length_replicate, List.length_append, List.length_range, List.length_cons, List.length_nil, Nat.blt_eq, Nat.ble_eq]; omega)) | refine anyB fun b => ?_ | refine got (nth_rowI rfl) ?_ | refine got (nth_row0 rfl) ?_ | refine got (nth_row2 rfl) ?_ | refine And.intro (keepS (by decide +kernel)) ?_ | refine And.intro keepR ?_ | refine RunD.done (by decide +kernel) ?_ | refine tk 0 rfl (by decide +kernel) ?_ | refine tk 1 rfl (by decide +kernel) ?_ | refine tk 2 rfl (by decide +kernel) ?_ | refine tk 3 rfl (by decide +kernel) ?_ | refine tk 4 rfl (by decide +kernel) ?_ | refine tk 5 rfl (by decide +kernel) ?_ | refine tk 6 rfl (by decide +kernel) ?_ | refine tk 7 rfl (by decide +kernel) ?_ | refine tk 8 rfl (by decide +kernel) ?_ | refine tk 9 rfl (by decide +kernel) ?_ | refine tk 10 rfl (by decide +kernel) ?_ | refine tk 11 rfl (by decide +kernel) ?_ | refine tk 12 rfl (by decide +kernel) ?_ | refine tk 13 rfl (by decide +kernel) ?_ | refine tk 14 rfl (by decide +kernel) ?_ | refine ef' 15 (by decide +kernel) rfl ?_ | fail)
    repeat' (first | refine step ?_ | refine knowI fun hk => ?_ | refine got rfl ?_ | refine And.intro rfl ?_ | (refine And.intro (fun hc => ?_) (fun hc => ?_) <;> (try (exfalso; first | omega | (simp only [List.length_nil, List.length_cons] at hc; omega)))) | (refine And.intro ?_ ?_; focus omega) | (refine And.intro ?_ ?_; focus (simp only [List.length_map, List.length_set, List.length_replicate, List.length_append, List.length_range, List.length_cons, List.length_nil, Nat.blt_eq, Nat.ble_eq]; omega)) | refine anyB fun b => ?_ | refine got (nth_rowI rfl) ?_ | refine got (nth_row0 rfl) ?_ | refine got (nth_row2 rfl) ?_ | fail)
    have e2 : syncUp now sure (ks.take (i + 1)) = (syncUp now sure (ks.take i)).set k now[k] := by
      rw [syncUp, List.take_add_one, hki, List.foldl_append]; simp [syncUp, hkn]
    refine Run.sub ?_ (Run.ent ?_ (ih (i + 1, syncUp now sure (ks.take (i + 1))) ⟨by dsimp only; omega, rfl⟩ (by dsimp only; omega)))
    · repeat (first | exact Sub.nil _ | refine Sub.cons rfl ?_)
    · dsimp only
      rw [e2]; simp only [DiskP, List.map_set]
      exact Ent.trans (foldSl bl pre junk hlen hcap hjunk) fin
  · repeat' (first | refine step ?_ | refine knowI fun hk => ?_ | refine got rfl ?_ | refine And.intro rfl ?_ | (refine And.intro (fun hc => ?_) (fun hc => ?_) <;> (try (exfalso; first | omega | (simp only [List.length_nil, List.length_cons] at hc; omega)))) | (refine And.intro ?_ ?_; focus omega) | (refine And.intro ?_ ?_; focus (simp only [List.length_map, List.length_set, List.length_replicate, List.length_append, List.length_range, List.length_cons, List.length_nil, Nat.blt_eq, Nat.ble_eq]; omega)) | refine anyB fun b => ?_ | refine got (nth_rowI rfl) ?_ | refine got (nth_row0 rfl) ?_ | refine got (nth_row2 rfl) ?_ | fail)
    have hi' : i = ks.length := by omega
    subst hi'
    refine Run.ent (l' := Disk p now [] :: F) ?_ (ret1 Tryz.func172 rfl ?_)
    · have e3 : syncUp now sure (ks.take ks.length) = now := by
        rw [List.take_length]; exact syncUp_all hok.len hok.lt hok.same
      rw [e3]
      refine Ent.trans ?_ (disk_close bs bn none 0 now [] ⟨rfl, hok.max, rfl, by simp, by simp, fun _ _ => rfl⟩)
      simp only [DiskP, List.length_nil, List.flatMap_nil]
      exact Ent.trans (slr_nil 181 3 _) fin
    · repeat' (first | refine step ?_ | refine knowI fun hk => ?_ | refine got rfl ?_ | refine And.intro rfl ?_ | (refine And.intro (fun hc => ?_) (fun hc => ?_) <;> (try (exfalso; first | omega | (simp only [List.length_nil, List.length_cons] at hc; omega)))) | (refine And.intro ?_ ?_; focus omega) | (refine And.intro ?_ ?_; focus (simp only [List.length_map, List.length_set, List.length_replicate, List.length_append, List.length_range, List.length_cons, List.length_nil, Nat.blt_eq, Nat.ble_eq]; omega)) | refine anyB fun b => ?_ | refine got (nth_rowI rfl) ?_ | refine got (nth_row0 rfl) ?_ | refine got (nth_row2 rfl) ?_ | fail)
      exact h

theorem newDisk {p bs bn : Nat} {n : Int} (h1 : n ≤ 16384) :
    Ent (cells p [.slice (some ⟨bs, 0, none⟩) n.toNat n.toNat, .slice (some ⟨bn, 0, none⟩) n.toNat n.toNat, .slice none 0 0] 133 ::
      cells bn (List.replicate n.toNat (.string ⟨#[]⟩)) 9 :: cells bs (List.replicate n.toNat (.string ⟨#[]⟩)) 9 :: l) (Disk p (List.replicate n.toNat []) [] :: l) := by
  refine Ent.trans ?_ (disk_close bs bn none 0 (List.replicate n.toNat []) [] ⟨rfl, by simp; omega, rfl, by simp, by simp, fun _ _ => rfl⟩)
  simp only [DiskP, List.length_nil, List.flatMap_nil, List.length_replicate, List.map_replicate]
  exact Ent.trans (slr_nil 181 3 _) fin

theorem New_spec {n : Int} (h0 : 4 ≤ n) (h1 : n ≤ 16384) (h : ∀ p, K (.tuple #[.pointer (some ⟨p, 0, none⟩), .int .i64 0]) (Disk p (List.replicate n.toNat []) [] :: l)) :
    CallG Tryz.prog w0 26 [.int .i64 n].toArray l K := by
  refine CallG.enter Tryz.func26 rfl rfl fun cs => ?_
  repeat' (first | refine step ?_ | refine knowI fun hk => ?_ | refine got rfl ?_ | refine And.intro rfl ?_ | (refine And.intro (fun hc => ?_) (fun hc => ?_) <;> (try (exfalso; first | omega | (simp only [List.length_nil, List.length_cons] at hc; omega)))) | (refine And.intro ?_ ?_; focus omega) | (refine And.intro ?_ ?_; focus (simp only [List.length_map, List.length_set, List.length_replicate, List.length_append, List.length_range, List.length_cons, List.length_nil, Nat.blt_eq, Nat.ble_eq]; omega)) | refine anyB fun b => ?_ | refine got (nth_rowI rfl) ?_ | refine got (nth_row0 rfl) ?_ | refine got (nth_row2 rfl) ?_ | fail)
  refine Run.draw0 ?_
  repeat' (first | refine step ?_ | refine knowI fun hk => ?_ | refine got rfl ?_ | refine And.intro rfl ?_ | (refine And.intro (fun hc => ?_) (fun hc => ?_) <;> (try (exfalso; first | omega | (simp only [List.length_nil, List.length_cons] at hc; omega)))) | (refine And.intro ?_ ?_; focus omega) | (refine And.intro ?_ ?_; focus (simp only [List.length_map, List.length_set, List.length_replicate, List.length_append, List.length_range, List.length_cons, List.length_nil, Nat.blt_eq, Nat.ble_eq]; omega)) | refine anyB fun b => ?_ | refine got (nth_rowI rfl) ?_ | refine got (nth_row0 rfl) ?_ | refine got (nth_row2 rfl) ?_ | refine And.intro (keepS (by decide +kernel)) ?_ | refine And.intro keepR ?_ | refine RunD.done (by decide +kernel) ?_ | refine tk 0 rfl (by decide +kernel) ?_ | refine ef 1 (by decide +kernel) rfl ?_ | refine tk 2 rfl (by decide +kernel) ?_ | refine ef 3 (by decide +kernel) rfl ?_ | refine tk 4 rfl (by decide +kernel) ?_ | refine ef 5 (by decide +kernel) rfl ?_ | refine tk 6 rfl (by decide +kernel) ?_ | refine tk 7 rfl (by decide +kernel) ?_ | fail)
  refine ef2 1 3 (by decide +kernel) (eo rfl ?_) (eo rfl ?_)
  · repeat' (first | refine step ?_ | refine knowI fun hk => ?_ | refine got rfl ?_ | refine And.intro rfl ?_ | (refine And.intro (fun hc => ?_) (fun hc => ?_) <;> (try (exfalso; first | omega | (simp only [List.length_nil, List.length_cons] at hc; omega)))) | (refine And.intro ?_ ?_; focus omega) | (refine And.intro ?_ ?_; focus (simp only [List.length_map, List.length_set, List.length_replicate, List.length_append, List.length_range, List.length_cons, List.length_nil, Nat.blt_eq, Nat.ble_eq]; omega)) | refine anyB fun b => ?_ | refine got (nth_rowI rfl) ?_ | refine got (nth_row0 rfl) ?_ | refine got (nth_row2 rfl) ?_ | refine And.intro (keepS (by decide +kernel)) ?_ | refine And.intro keepR ?_ | refine RunD.done (by decide +kernel) ?_ | refine tk 0 rfl (by decide +kernel) ?_ | refine ef 1 (by decide +kernel) rfl ?_ | refine tk 2 rfl (by decide +kernel) ?_ | refine ef 3 (by decide +kernel) rfl ?_ | refine tk 4 rfl (by decide +kernel) ?_ | refine ef 5 (by decide +kernel) rfl ?_ | refine tk 6 rfl (by decide +kernel) ?_ | refine tk 7 rfl (by decide +kernel) ?_ | fail)
    repeat' (first | refine step ?_ | refine knowI fun hk => ?_ | refine got rfl ?_ | refine And.intro rfl ?_ | (refine And.intro (fun hc => ?_) (fun hc => ?_) <;> (try (exfalso; first | omega | (simp only [List.length_nil, List.length_cons] at hc; omega)))) | (refine And.intro ?_ ?_; focus omega) | (refine And.intro ?_ ?_; focus (simp only [List.length_map, List.length_set, List.length_replicate, List.length_append, List.length_range, List.length_cons, List.length_nil, Nat.blt_eq, Nat.ble_eq]; omega)) | refine anyB fun b => ?_ | refine got (nth_rowI rfl) ?_ | refine got (nth_row0 rfl) ?_ | refine got (nth_row2 rfl) ?_ | fail)
    rename_i x y
    refine Run.ent (l' := Disk b (List.replicate n.toNat []) [] :: l) (newDisk h1) (ret2 Tryz.func26 rfl ?_)
    repeat' (first | refine step ?_ | refine knowI fun hk => ?_ | refine got rfl ?_ | refine And.intro rfl ?_ | (refine And.intro (fun hc => ?_) (fun hc => ?_) <;> (try (exfalso; first | omega | (simp only [List.length_nil, List.length_cons] at hc; omega)))) | (refine And.intro ?_ ?_; focus omega) | (refine And.intro ?_ ?_; focus (simp only [List.length_map, List.length_set, List.length_replicate, List.length_append, List.length_range, List.length_cons, List.length_nil, Nat.blt_eq, Nat.ble_eq]; omega)) | refine anyB fun b => ?_ | refine got (nth_rowI rfl) ?_ | refine got (nth_row0 rfl) ?_ | refine got (nth_row2 rfl) ?_ | fail)
    exact h b
  · repeat' (first | refine step ?_ | refine knowI fun hk => ?_ | refine got rfl ?_ | refine And.intro rfl ?_ | (refine And.intro (fun hc => ?_) (fun hc => ?_) <;> (try (exfalso; first | omega | (simp only [List.length_nil, List.length_cons] at hc; omega)))) | (refine And.intro ?_ ?_; focus omega) | (refine And.intro ?_ ?_; focus (simp only [List.length_map, List.length_set, List.length_replicate, List.length_append, List.length_range, List.length_cons, List.length_nil, Nat.blt_eq, Nat.ble_eq]; omega)) | refine anyB fun b => ?_ | refine got (nth_rowI rfl) ?_ | refine got (nth_row0 rfl) ?_ | refine got (nth_row2 rfl) ?_ | refine And.intro (keepS (by decide +kernel)) ?_ | refine And.intro keepR ?_ | refine RunD.done (by decide +kernel) ?_ | refine tk 0 rfl (by decide +kernel) ?_ | refine ef 1 (by decide +kernel) rfl ?_ | refine tk 2 rfl (by decide +kernel) ?_ | refine ef 3 (by decide +kernel) rfl ?_ | refine tk 4 rfl (by decide +kernel) ?_ | refine ef 5 (by decide +kernel) rfl ?_ | refine tk 6 rfl (by decide +kernel) ?_ | refine tk 7 rfl (by decide +kernel) ?_ | fail)
    repeat' (first | refine step ?_ | refine knowI fun hk => ?_ | refine got rfl ?_ | refine And.intro rfl ?_ | (refine And.intro (fun hc => ?_) (fun hc => ?_) <;> (try (exfalso; first | omega | (simp only [List.length_nil, List.length_cons] at hc; omega)))) | (refine And.intro ?_ ?_; focus omega) | (refine And.intro ?_ ?_; focus (simp only [List.length_map, List.length_set, List.length_replicate, List.length_append, List.length_range, List.length_cons, List.length_nil, Nat.blt_eq, Nat.ble_eq]; omega)) | refine anyB fun b => ?_ | refine got (nth_rowI rfl) ?_ | refine got (nth_row0 rfl) ?_ | refine got (nth_row2 rfl) ?_ | fail)
    rename_i x y
    refine Run.ent (l' := Disk b (List.replicate n.toNat []) [] :: l) (Ent.trans fin (newDisk (bs := y) (bn := x) h1)) (ret2 Tryz.func26 rfl ?_)
    repeat' (first | refine step ?_ | refine knowI fun hk => ?_ | refine got rfl ?_ | refine And.intro rfl ?_ | (refine And.intro (fun hc => ?_) (fun hc => ?_) <;> (try (exfalso; first | omega | (simp only [List.length_nil, List.length_cons] at hc; omega)))) | (refine And.intro ?_ ?_; focus omega) | (refine And.intro ?_ ?_; focus (simp only [List.length_map, List.length_set, List.length_replicate, List.length_append, List.length_range, List.length_cons, List.length_nil, Nat.blt_eq, Nat.ble_eq]; omega)) | refine anyB fun b => ?_ | refine got (nth_rowI rfl) ?_ | refine got (nth_row0 rfl) ?_ | refine got (nth_row2 rfl) ?_ | fail)
    exact h b
end
end Go.Sl
