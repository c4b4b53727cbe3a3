/- A log of records on a disk (package logs): part, bytes, heads; read and Open of a disk that is new. -/
import Derived.Test.YtbolfohdcjpgoaaGreatDoorBenc
import Derived.Test.YtbolfohdcjpgoaaGreatDoorFrame
import Derived.Test.YtbolfohdcjpgoaaGreatDoorBlock
import Derived.Test.YtbolfohdcjpgoaaGreatDoorSlC
set_option linter.unusedSimpArgs false
set_option linter.unusedVariables false
set_option linter.unusedSectionVars false
open Go Go.RowKit
namespace Go.Sl
open Go.Proofs
section
variable {w0 : World} {l F F1 : HL} {K : Value → HL → Prop} {p d : Nat} {v1 v2 v3 v4 : Value} {now : List Bytes} {ks : List Nat}
/-- where a half begins, and where it ends -/
def fromOf (n : Nat) (half : Int) : Nat := if half = 0 then 2 else 2 + (n - 2) / 2
def toOf (n : Nat) (half : Int) : Nat := if half = 0 then 2 + (n - 2) / 2 else n
abbrev LogC (p d : Nat) (v1 v2 v3 v4 : Value) : HP := cells p [.pointer (some ⟨d, 0, none⟩), v1, v2, v3, v4] 222
theorem part_spec {half : Int} (hp : Rem l (LogC p d v1 v2 v3 v4) F1) (hp2 : Rem F1 (Disk d now ks) F) (hn : 2 ≤ now.length ∧ now.length ≤ 16384)
    (h : K (.tuple #[.int .i64 (fromOf now.length half), .int .i64 (toOf now.length half)]) (LogC p d v1 v2 v3 v4 :: Disk d now ks :: F)) :
    CallG Tryz.prog w0 173 [.pointer (some ⟨p, 0, none⟩), .int .i64 half].toArray l K := by
  refine CallG.ent (hp.ent.trans (Ent.cons _ hp2.ent)) ?_
  refine CallG.weak (CallG.enter Tryz.func173 rfl rfl fun cs => ?_)
  repeat' (first | refine step ?_ | refine knowI fun hk => ?_ | refine got rfl ?_ | refine And.intro rfl ?_ | (refine And.intro (fun hc => ?_) (fun hc => ?_) <;> (try (exfalso; first | omega | (simp only [List.length_nil, List.length_cons] at hc; omega)))) | (refine And.intro ?_ ?_; focus omega) | (refine And.intro ?_ ?_; focus (simp only [List.length_map, List.length_set, List.length_replicate, List.length_append, List.length_range, List.length_cons, List.length_nil, Nat.blt_eq, Nat.ble_eq]; omega)) | refine anyB fun b => ?_ | refine got (nth_rowI rfl) ?_ | refine got (nth_row0 rfl) ?_ | refine got (nth_row2 rfl) ?_ | fail)
  refine Blocks_spec (.there .here) ?_
  repeat' (first | refine step ?_ | refine knowI fun hk => ?_ | refine got rfl ?_ | refine And.intro rfl ?_ | (refine And.intro (fun hc => ?_) (fun hc => ?_) <;> (try (exfalso; first | omega | (simp only [List.length_nil, List.length_cons] at hc; omega)))) | (refine And.intro ?_ ?_; focus omega) | (refine And.intro ?_ ?_; focus (simp only [List.length_map, List.length_set, List.length_replicate, List.length_append, List.length_range, List.length_cons, List.length_nil, Nat.blt_eq, Nat.ble_eq]; omega)) | refine anyB fun b => ?_ | refine got (nth_rowI rfl) ?_ | refine got (nth_row0 rfl) ?_ | refine got (nth_row2 rfl) ?_ | fail)
  · refine retG Tryz.func173 rfl ?_
    repeat' (first | refine step ?_ | refine knowI fun hk => ?_ | refine got rfl ?_ | refine And.intro rfl ?_ | (refine And.intro (fun hc => ?_) (fun hc => ?_) <;> (try (exfalso; first | omega | (simp only [List.length_nil, List.length_cons] at hc; omega)))) | (refine And.intro ?_ ?_; focus omega) | (refine And.intro ?_ ?_; focus (simp only [List.length_map, List.length_set, List.length_replicate, List.length_append, List.length_range, List.length_cons, List.length_nil, Nat.blt_eq, Nat.ble_eq]; omega)) | refine anyB fun b => ?_ | refine got (nth_rowI rfl) ?_ | refine got (nth_row0 rfl) ?_ | refine got (nth_row2 rfl) ?_ | fail)
    refine Wk.mk (l' := LogC p d v1 v2 v3 v4 :: Disk d now ks :: F) fin ?_
    have e1 : fromOf now.length half = 2 := by simp [fromOf, hc]
    have e2 : (toOf now.length half : Int) = 2 + ((now.length : Int) - 2) / 2 := by simp only [toOf, hc, if_true]; omega
    rw [e1, e2] at h
    exact h
  · refine Blocks_spec .here ?_
    repeat' (first | refine step ?_ | refine knowI fun hk => ?_ | refine got rfl ?_ | refine And.intro rfl ?_ | (refine And.intro (fun hc => ?_) (fun hc => ?_) <;> (try (exfalso; first | omega | (simp only [List.length_nil, List.length_cons] at hc; omega)))) | (refine And.intro ?_ ?_; focus omega) | (refine And.intro ?_ ?_; focus (simp only [List.length_map, List.length_set, List.length_replicate, List.length_append, List.length_range, List.length_cons, List.length_nil, Nat.blt_eq, Nat.ble_eq]; omega)) | refine anyB fun b => ?_ | refine got (nth_rowI rfl) ?_ | refine got (nth_row0 rfl) ?_ | refine got (nth_row2 rfl) ?_ | fail)
    refine retG Tryz.func173 rfl ?_
    repeat' (first | refine step ?_ | refine knowI fun hk => ?_ | refine got rfl ?_ | refine And.intro rfl ?_ | (refine And.intro (fun hc => ?_) (fun hc => ?_) <;> (try (exfalso; first | omega | (simp only [List.length_nil, List.length_cons] at hc; omega)))) | (refine And.intro ?_ ?_; focus omega) | (refine And.intro ?_ ?_; focus (simp only [List.length_map, List.length_set, List.length_replicate, List.length_append, List.length_range, List.length_cons, List.length_nil, Nat.blt_eq, Nat.ble_eq]; omega)) | refine anyB fun b => ?_ | refine got (nth_rowI rfl) ?_ | refine got (nth_row0 rfl) ?_ | refine got (nth_row2 rfl) ?_ | fail)
    refine Wk.mk (l' := LogC p d v1 v2 v3 v4 :: Disk d now ks :: F) fin ?_
    have e1 : (fromOf now.length half : Int) = 2 + ((now.length : Int) - 2) / 2 := by simp only [fromOf, hc, if_false]; omega
    have e2 : (toOf now.length half : Int) = now.length := by simp only [toOf, hc, if_false]
    rw [e1, e2] at h
    exact h
theorem bytes_spec {half : Int} (hp : Rem l (LogC p d v1 v2 v3 v4) F1) (hp2 : Rem F1 (Disk d now ks) F) (hn : 2 ≤ now.length ∧ now.length ≤ 16384)
    (h : K (.int .i64 (((toOf now.length half - fromOf now.length half) * 128 : Nat) : Int)) (LogC p d v1 v2 v3 v4 :: Disk d now ks :: F)) :
    CallG Tryz.prog w0 186 [.pointer (some ⟨p, 0, none⟩), .int .i64 half].toArray l K := by
  refine CallG.ent (hp.ent.trans (Ent.cons _ hp2.ent)) ?_
  have h1 : fromOf now.length half ≤ toOf now.length half ∧ toOf now.length half ≤ 16384 := by
    unfold fromOf toOf; split <;> omega
  refine CallG.enter Tryz.func186 rfl rfl fun cs => ?_
  repeat' (first | refine step ?_ | refine knowI fun hk => ?_ | refine got rfl ?_ | refine And.intro rfl ?_ | (refine And.intro (fun hc => ?_) (fun hc => ?_) <;> (try (exfalso; first | omega | (simp only [List.length_nil, List.length_cons] at hc; omega)))) | (refine And.intro ?_ ?_; focus omega) | (refine And.intro ?_ ?_; focus (simp only [List.length_map, List.length_set, List.length_replicate, List.length_append, List.length_range, List.length_cons, List.length_nil, Nat.blt_eq, Nat.ble_eq]; omega)) | refine anyB fun b => ?_ | refine got (nth_rowI rfl) ?_ | refine got (nth_row0 rfl) ?_ | refine got (nth_row2 rfl) ?_ | fail)
  refine part_spec .here .here hn ?_
  repeat' (first | refine step ?_ | refine knowI fun hk => ?_ | refine got rfl ?_ | refine And.intro rfl ?_ | (refine And.intro (fun hc => ?_) (fun hc => ?_) <;> (try (exfalso; first | omega | (simp only [List.length_nil, List.length_cons] at hc; omega)))) | (refine And.intro ?_ ?_; focus omega) | (refine And.intro ?_ ?_; focus (simp only [List.length_map, List.length_set, List.length_replicate, List.length_append, List.length_range, List.length_cons, List.length_nil, Nat.blt_eq, Nat.ble_eq]; omega)) | refine anyB fun b => ?_ | refine got (nth_rowI rfl) ?_ | refine got (nth_row0 rfl) ?_ | refine got (nth_row2 rfl) ?_ | fail)
  refine retG Tryz.func186 rfl ?_
  repeat' (first | refine step ?_ | refine knowI fun hk => ?_ | refine got rfl ?_ | refine And.intro rfl ?_ | (refine And.intro (fun hc => ?_) (fun hc => ?_) <;> (try (exfalso; first | omega | (simp only [List.length_nil, List.length_cons] at hc; omega)))) | (refine And.intro ?_ ?_; focus omega) | (refine And.intro ?_ ?_; focus (simp only [List.length_map, List.length_set, List.length_replicate, List.length_append, List.length_range, List.length_cons, List.length_nil, Nat.blt_eq, Nat.ble_eq]; omega)) | refine anyB fun b => ?_ | refine got (nth_rowI rfl) ?_ | refine got (nth_row0 rfl) ?_ | refine got (nth_row2 rfl) ?_ | fail)
  have e1 : (((toOf now.length half - fromOf now.length half) * 128 : Nat) : Int) = ((toOf now.length half : Int) - (fromOf now.length half : Int)) * 128 := by omega
  rw [e1] at h
  exact h
/-- the head of a generation -/
def headB (gen half : Int) : List UInt8 := frm (enc (.lst [.int gen, .int half]))
theorem headB_len {gen half : Int} (h0 : 0 ≤ gen) (h1 : gen ≤ 1000000000) (h2 : 0 ≤ half) (h3 : half ≤ 1) : (headB gen half).length ≤ 128 ∧ (enc (.lst [.int gen, .int half])).length ≤ 128 := by
  have a := itoa_len (n := gen) (by omega) (by omega)
  have b := itoa_len (n := half) (by omega) (by omega)
  simp only [headB, frm_length, enc, encL, List.length_append, List.length_singleton, List.length_nil]
  omega
set_option maxRecDepth 8000 in
theorem heads_spec [Laid w0] {gen half : Int} (h0 : 0 ≤ gen) (h1 : gen ≤ 1000000000) (h2 : 0 ≤ half) (h3 : half ≤ 1) (hp : Rem l (LogC p d v1 v2 v3 v4) F1) (hp2 : Rem F1 (Disk d now ks) F) (hn : 2 ≤ now.length ∧ now.length ≤ 16384) (hks : ks.length ≤ 900000)
    (h : K (.tuple #[]) (LogC p d (.int .i64 gen) (.int .i64 half) v3 v4 :: Disk d (now.set (gen % 2).toNat (headB gen half)) [] :: F)) :
    CallG Tryz.prog w0 129 [.pointer (some ⟨p, 0, none⟩), .int .i64 gen, .int .i64 half].toArray l K := by
  have hh := headB_len h0 h1 h2 h3
  refine CallG.ent (hp.ent.trans (Ent.cons _ hp2.ent)) ?_
  refine CallG.weak (CallG.enter Tryz.func129 rfl rfl fun cs => ?_)
  repeat' (first | refine step ?_ | refine knowI fun hk => ?_ | refine got rfl ?_ | refine And.intro rfl ?_ | (refine And.intro (fun hc => ?_) (fun hc => ?_) <;> (try (exfalso; first | omega | (simp only [List.length_nil, List.length_cons] at hc; omega)))) | (refine And.intro ?_ ?_; focus omega) | (refine And.intro ?_ ?_; focus (simp only [List.length_map, List.length_set, List.length_replicate, List.length_append, List.length_range, List.length_cons, List.length_nil, Nat.blt_eq, Nat.ble_eq]; omega)) | refine anyB fun b => ?_ | refine got (nth_rowI rfl) ?_ | refine got (nth_row0 rfl) ?_ | refine got (nth_row2 rfl) ?_ | fail)
  refine Int_spec ?_
  repeat' (first | refine step ?_ | refine knowI fun hk => ?_ | refine got rfl ?_ | refine And.intro rfl ?_ | (refine And.intro (fun hc => ?_) (fun hc => ?_) <;> (try (exfalso; first | omega | (simp only [List.length_nil, List.length_cons] at hc; omega)))) | (refine And.intro ?_ ?_; focus omega) | (refine And.intro ?_ ?_; focus (simp only [List.length_map, List.length_set, List.length_replicate, List.length_append, List.length_range, List.length_cons, List.length_nil, Nat.blt_eq, Nat.ble_eq]; omega)) | refine anyB fun b => ?_ | refine got (nth_rowI rfl) ?_ | refine got (nth_row0 rfl) ?_ | refine got (nth_row2 rfl) ?_ | fail)
  refine Int_spec ?_
  repeat' (first | refine step ?_ | refine knowI fun hk => ?_ | refine got rfl ?_ | refine And.intro rfl ?_ | (refine And.intro (fun hc => ?_) (fun hc => ?_) <;> (try (exfalso; first | omega | (simp only [List.length_nil, List.length_cons] at hc; omega)))) | (refine And.intro ?_ ?_; focus omega) | (refine And.intro ?_ ?_; focus (simp only [List.length_map, List.length_set, List.length_replicate, List.length_append, List.length_range, List.length_cons, List.length_nil, Nat.blt_eq, Nat.ble_eq]; omega)) | refine anyB fun b => ?_ | refine got (nth_rowI rfl) ?_ | refine got (nth_row0 rfl) ?_ | refine got (nth_row2 rfl) ?_ | fail)
  refine List_spec ?_
  repeat' (first | refine step ?_ | refine knowI fun hk => ?_ | refine got rfl ?_ | refine And.intro rfl ?_ | (refine And.intro (fun hc => ?_) (fun hc => ?_) <;> (try (exfalso; first | omega | (simp only [List.length_nil, List.length_cons] at hc; omega)))) | (refine And.intro ?_ ?_; focus omega) | (refine And.intro ?_ ?_; focus (simp only [List.length_map, List.length_set, List.length_replicate, List.length_append, List.length_range, List.length_cons, List.length_nil, Nat.blt_eq, Nat.ble_eq]; omega)) | refine anyB fun b => ?_ | refine got (nth_rowI rfl) ?_ | refine got (nth_row0 rfl) ?_ | refine got (nth_row2 rfl) ?_ | fail)
  refine CallG.ent (Ent.trans (Ent.cellsEq (c' := ([gen, half].map intRow).flatMap vcells) rfl (.refl _)) (mk_ints [gen, half] (by simp; omega))) ?_
  refine BencPut_spec (v := .lst ([gen, half].map .int)) (by simp [count, countL]) (by simp [deep, deepL]) (by have := hh.2; simp only [List.map_cons, List.map_nil]; omega) .here ?_
  repeat' (first | refine step ?_ | refine knowI fun hk => ?_ | refine got rfl ?_ | refine And.intro rfl ?_ | (refine And.intro (fun hc => ?_) (fun hc => ?_) <;> (try (exfalso; first | omega | (simp only [List.length_nil, List.length_cons] at hc; omega)))) | (refine And.intro ?_ ?_; focus omega) | (refine And.intro ?_ ?_; focus (simp only [List.length_map, List.length_set, List.length_replicate, List.length_append, List.length_range, List.length_cons, List.length_nil, Nat.blt_eq, Nat.ble_eq]; omega)) | refine anyB fun b => ?_ | refine got (nth_rowI rfl) ?_ | refine got (nth_row0 rfl) ?_ | refine got (nth_row2 rfl) ?_ | fail)
  refine FramePut_spec (by have := hh.2; simp only [List.map_cons, List.map_nil]; omega) ?_
  repeat' (first | refine step ?_ | refine knowI fun hk => ?_ | refine got rfl ?_ | refine And.intro rfl ?_ | (refine And.intro (fun hc => ?_) (fun hc => ?_) <;> (try (exfalso; first | omega | (simp only [List.length_nil, List.length_cons] at hc; omega)))) | (refine And.intro ?_ ?_; focus omega) | (refine And.intro ?_ ?_; focus (simp only [List.length_map, List.length_set, List.length_replicate, List.length_append, List.length_range, List.length_cons, List.length_nil, Nat.blt_eq, Nat.ble_eq]; omega)) | refine anyB fun b => ?_ | refine got (nth_rowI rfl) ?_ | refine got (nth_row0 rfl) ?_ | refine got (nth_row2 rfl) ?_ | fail)
  refine Put_spec (.there (.there .here)) (by omega) (by omega) (by simp) (by omega) ?_
  repeat' (first | refine step ?_ | refine knowI fun hk => ?_ | refine got rfl ?_ | refine And.intro rfl ?_ | (refine And.intro (fun hc => ?_) (fun hc => ?_) <;> (try (exfalso; first | omega | (simp only [List.length_nil, List.length_cons] at hc; omega)))) | (refine And.intro ?_ ?_; focus omega) | (refine And.intro ?_ ?_; focus (simp only [List.length_map, List.length_set, List.length_replicate, List.length_append, List.length_range, List.length_cons, List.length_nil, Nat.blt_eq, Nat.ble_eq]; omega)) | refine anyB fun b => ?_ | refine got (nth_rowI rfl) ?_ | refine got (nth_row0 rfl) ?_ | refine got (nth_row2 rfl) ?_ | fail)
  refine Sync_spec .here ?_ (by simp; omega) (by simp; omega)
  repeat' (first | refine step ?_ | refine knowI fun hk => ?_ | refine got rfl ?_ | refine And.intro rfl ?_ | (refine And.intro (fun hc => ?_) (fun hc => ?_) <;> (try (exfalso; first | omega | (simp only [List.length_nil, List.length_cons] at hc; omega)))) | (refine And.intro ?_ ?_; focus omega) | (refine And.intro ?_ ?_; focus (simp only [List.length_map, List.length_set, List.length_replicate, List.length_append, List.length_range, List.length_cons, List.length_nil, Nat.blt_eq, Nat.ble_eq]; omega)) | refine anyB fun b => ?_ | refine got (nth_rowI rfl) ?_ | refine got (nth_row0 rfl) ?_ | refine got (nth_row2 rfl) ?_ | fail)
  refine Put_spec .here (by omega) (by simp; omega) (by exact hh.1) (by simp) ?_
  repeat' (first | refine step ?_ | refine knowI fun hk => ?_ | refine got rfl ?_ | refine And.intro rfl ?_ | (refine And.intro (fun hc => ?_) (fun hc => ?_) <;> (try (exfalso; first | omega | (simp only [List.length_nil, List.length_cons] at hc; omega)))) | (refine And.intro ?_ ?_; focus omega) | (refine And.intro ?_ ?_; focus (simp only [List.length_map, List.length_set, List.length_replicate, List.length_append, List.length_range, List.length_cons, List.length_nil, Nat.blt_eq, Nat.ble_eq]; omega)) | refine anyB fun b => ?_ | refine got (nth_rowI rfl) ?_ | refine got (nth_row0 rfl) ?_ | refine got (nth_row2 rfl) ?_ | fail)
  refine Sync_spec .here ?_ (by simp; omega) (by simp)
  repeat' (first | refine step ?_ | refine knowI fun hk => ?_ | refine got rfl ?_ | refine And.intro rfl ?_ | (refine And.intro (fun hc => ?_) (fun hc => ?_) <;> (try (exfalso; first | omega | (simp only [List.length_nil, List.length_cons] at hc; omega)))) | (refine And.intro ?_ ?_; focus omega) | (refine And.intro ?_ ?_; focus (simp only [List.length_map, List.length_set, List.length_replicate, List.length_append, List.length_range, List.length_cons, List.length_nil, Nat.blt_eq, Nat.ble_eq]; omega)) | refine anyB fun b => ?_ | refine got (nth_rowI rfl) ?_ | refine got (nth_row0 rfl) ?_ | refine got (nth_row2 rfl) ?_ | fail)
  refine fin0 Tryz.func129 rfl ?_
  rw [List.set_set, show frm (enc (V.lst (List.map V.int [gen, half]))) = headB gen half from rfl]
  exact Wk.mk fin h
set_option maxRecDepth 8000 in
/-- a half that holds nothing -/
theorem read_nil [Laid w0] {gen half : Int} (hn : 4 ≤ now.length ∧ now.length ≤ 16384) (hz : ∀ k, fromOf now.length half ≤ k → k < toOf now.length half → now[k]? = some [])
    (hp : Rem l (LogC p d (.int .i64 gen) (.int .i64 half) v3 v4) F1) (hp2 : Rem F1 (Disk d now ks) F)
    (h : K (.tuple #[]) (LogC p d (.int .i64 gen) (.int .i64 half) (.slice none 0 0) (.int .i64 0) :: Disk d now ks :: F)) :
    CallG Tryz.prog w0 130 [.pointer (some ⟨p, 0, none⟩)].toArray l K := by
  have h1 : fromOf now.length half < toOf now.length half ∧ toOf now.length half ≤ now.length ∧ 2 ≤ fromOf now.length half := by
    unfold fromOf toOf; split <;> omega
  refine CallG.ent (hp.ent.trans (Ent.cons _ hp2.ent)) ?_
  generalize hfr : fromOf now.length half = fr at *
  generalize hto : toOf now.length half = to at *
  refine CallG.weak (CallG.enter Tryz.func130 rfl rfl fun cs => ?_)
  repeat' (first | refine step ?_ | refine knowI fun hk => ?_ | refine got rfl ?_ | refine And.intro rfl ?_ | (refine And.intro (fun hc => ?_) (fun hc => ?_) <;> (try (exfalso; first | omega | (simp only [List.length_nil, List.length_cons] at hc; omega)))) | (refine And.intro ?_ ?_; focus omega) | (refine And.intro ?_ ?_; focus (simp only [List.length_map, List.length_set, List.length_replicate, List.length_append, List.length_range, List.length_cons, List.length_nil, Nat.blt_eq, Nat.ble_eq]; omega)) | refine anyB fun b => ?_ | refine got (nth_rowI rfl) ?_ | refine got (nth_row0 rfl) ?_ | refine got (nth_row2 rfl) ?_ | fail)
  refine part_spec .here .here (by omega) ?_
  rw [hfr, hto]
  repeat' (first | refine step ?_ | refine knowI fun hk => ?_ | refine got rfl ?_ | refine And.intro rfl ?_ | (refine And.intro (fun hc => ?_) (fun hc => ?_) <;> (try (exfalso; first | omega | (simp only [List.length_nil, List.length_cons] at hc; omega)))) | (refine And.intro ?_ ?_; focus omega) | (refine And.intro ?_ ?_; focus (simp only [List.length_map, List.length_set, List.length_replicate, List.length_append, List.length_range, List.length_cons, List.length_nil, Nat.blt_eq, Nat.ble_eq]; omega)) | refine anyB fun b => ?_ | refine got (nth_rowI rfl) ?_ | refine got (nth_row0 rfl) ?_ | refine got (nth_row2 rfl) ?_ | fail)
  refine Run.loop1 ?_
  repeat' (first | refine step ?_ | refine knowI fun hk => ?_ | refine got rfl ?_ | refine And.intro rfl ?_ | (refine And.intro (fun hc => ?_) (fun hc => ?_) <;> (try (exfalso; first | omega | (simp only [List.length_nil, List.length_cons] at hc; omega)))) | (refine And.intro ?_ ?_; focus omega) | (refine And.intro ?_ ?_; focus (simp only [List.length_map, List.length_set, List.length_replicate, List.length_append, List.length_range, List.length_cons, List.length_nil, Nat.blt_eq, Nat.ble_eq]; omega)) | refine anyB fun b => ?_ | refine got (nth_rowI rfl) ?_ | refine got (nth_row0 rfl) ?_ | refine got (nth_row2 rfl) ?_ | fail)
  refine Get_spec (.there (.there .here)) (by omega) (by omega) ?_
  have e1 : now.getD (fr : Int).toNat [] = [] := by simp [hz fr (by omega) (by omega)]
  rw [e1]
  repeat' (first | refine step ?_ | refine knowI fun hk => ?_ | refine got rfl ?_ | refine And.intro rfl ?_ | (refine And.intro (fun hc => ?_) (fun hc => ?_) <;> (try (exfalso; first | omega | (simp only [List.length_nil, List.length_cons] at hc; omega)))) | (refine And.intro ?_ ?_; focus omega) | (refine And.intro ?_ ?_; focus (simp only [List.length_map, List.length_set, List.length_replicate, List.length_append, List.length_range, List.length_cons, List.length_nil, Nat.blt_eq, Nat.ble_eq]; omega)) | refine anyB fun b => ?_ | refine got (nth_rowI rfl) ?_ | refine got (nth_row0 rfl) ?_ | refine got (nth_row2 rfl) ?_ | fail)
  refine CallG.ent (bldNew (.there .here)) ?_
  refine WriteString_spec .here (by simp) ?_
  repeat' (first | refine step ?_ | refine knowI fun hk => ?_ | refine got rfl ?_ | refine And.intro rfl ?_ | (refine And.intro (fun hc => ?_) (fun hc => ?_) <;> (try (exfalso; first | omega | (simp only [List.length_nil, List.length_cons] at hc; omega)))) | (refine And.intro ?_ ?_; focus omega) | (refine And.intro ?_ ?_; focus (simp only [List.length_map, List.length_set, List.length_replicate, List.length_append, List.length_range, List.length_cons, List.length_nil, Nat.blt_eq, Nat.ble_eq]; omega)) | refine anyB fun b => ?_ | refine got (nth_rowI rfl) ?_ | refine got (nth_row0 rfl) ?_ | refine got (nth_row2 rfl) ?_ | fail)
  refine CallG.ent bld_frz ?_
  refine String_spec (by simp) .here ?_
  repeat' (first | refine step ?_ | refine knowI fun hk => ?_ | refine got rfl ?_ | refine And.intro rfl ?_ | (refine And.intro (fun hc => ?_) (fun hc => ?_) <;> (try (exfalso; first | omega | (simp only [List.length_nil, List.length_cons] at hc; omega)))) | (refine And.intro ?_ ?_; focus omega) | (refine And.intro ?_ ?_; focus (simp only [List.length_map, List.length_set, List.length_replicate, List.length_append, List.length_range, List.length_cons, List.length_nil, Nat.blt_eq, Nat.ble_eq]; omega)) | refine anyB fun b => ?_ | refine got (nth_rowI rfl) ?_ | refine got (nth_row0 rfl) ?_ | refine got (nth_row2 rfl) ?_ | fail)
  refine FrameAll_nil ?_
  repeat' (first | refine step ?_ | refine knowI fun hk => ?_ | refine got rfl ?_ | refine And.intro rfl ?_ | (refine And.intro (fun hc => ?_) (fun hc => ?_) <;> (try (exfalso; first | omega | (simp only [List.length_nil, List.length_cons] at hc; omega)))) | (refine And.intro ?_ ?_; focus omega) | (refine And.intro ?_ ?_; focus (simp only [List.length_map, List.length_set, List.length_replicate, List.length_append, List.length_range, List.length_cons, List.length_nil, Nat.blt_eq, Nat.ble_eq]; omega)) | refine anyB fun b => ?_ | refine got (nth_rowI rfl) ?_ | refine got (nth_row0 rfl) ?_ | refine got (nth_row2 rfl) ?_ | fail)
  refine Run.drawI [2] rfl ?_
  repeat' (first | refine step ?_ | refine knowI fun hk => ?_ | refine got rfl ?_ | refine And.intro rfl ?_ | (refine And.intro (fun hc => ?_) (fun hc => ?_) <;> (try (exfalso; first | omega | (simp only [List.length_nil, List.length_cons] at hc; omega)))) | (refine And.intro ?_ ?_; focus omega) | (refine And.intro ?_ ?_; focus (simp only [List.length_map, List.length_set, List.length_replicate, List.length_append, List.length_range, List.length_cons, List.length_nil, Nat.blt_eq, Nat.ble_eq]; omega)) | refine anyB fun b => ?_ | refine got (nth_rowI rfl) ?_ | refine got (nth_row0 rfl) ?_ | refine got (nth_row2 rfl) ?_ | refine And.intro (keepS (by decide +kernel)) ?_ | refine And.intro keepR ?_ | refine RunD.done (by decide +kernel) ?_ | refine ef 0 (by decide +kernel) rfl ?_ | refine tk 1 rfl (by decide +kernel) ?_ | refine tk 2 rfl (by decide +kernel) ?_ | refine tk 3 rfl (by decide +kernel) ?_ | refine tk 4 rfl (by decide +kernel) ?_ | refine tk 5 rfl (by decide +kernel) ?_ | refine tk 6 rfl (by decide +kernel) ?_ | fail)
  refine String_spec (bs := [] ++ []) (by simp) .here ?_
  repeat' (first | refine step ?_ | refine knowI fun hk => ?_ | refine got rfl ?_ | refine And.intro rfl ?_ | (refine And.intro (fun hc => ?_) (fun hc => ?_) <;> (try (exfalso; first | omega | (simp only [List.length_nil, List.length_cons] at hc; omega)))) | (refine And.intro ?_ ?_; focus omega) | (refine And.intro ?_ ?_; focus (simp only [List.length_map, List.length_set, List.length_replicate, List.length_append, List.length_range, List.length_cons, List.length_nil, Nat.blt_eq, Nat.ble_eq]; omega)) | refine anyB fun b => ?_ | refine got (nth_rowI rfl) ?_ | refine got (nth_row0 rfl) ?_ | refine got (nth_row2 rfl) ?_ | refine And.intro (keepS (by decide +kernel)) ?_ | refine And.intro keepR ?_ | refine RunD.done (by decide +kernel) ?_ | refine ef 0 (by decide +kernel) rfl ?_ | refine tk 1 rfl (by decide +kernel) ?_ | refine tk 2 rfl (by decide +kernel) ?_ | refine tk 3 rfl (by decide +kernel) ?_ | refine tk 4 rfl (by decide +kernel) ?_ | refine tk 5 rfl (by decide +kernel) ?_ | refine tk 6 rfl (by decide +kernel) ?_ | fail)
  repeat' (first | refine step ?_ | refine knowI fun hk => ?_ | refine got rfl ?_ | refine And.intro rfl ?_ | (refine And.intro (fun hc => ?_) (fun hc => ?_) <;> (try (exfalso; first | omega | (simp only [List.length_nil, List.length_cons] at hc; omega)))) | (refine And.intro ?_ ?_; focus omega) | (refine And.intro ?_ ?_; focus (simp only [List.length_map, List.length_set, List.length_replicate, List.length_append, List.length_range, List.length_cons, List.length_nil, Nat.blt_eq, Nat.ble_eq]; omega)) | refine anyB fun b => ?_ | refine got (nth_rowI rfl) ?_ | refine got (nth_row0 rfl) ?_ | refine got (nth_row2 rfl) ?_ | fail)
  refine Run.loop (fun j : Nat => [(0, .pointer (some ⟨p, 0, none⟩)), (2, .int .i64 fr), (8, str []), (9, .int .i64 fr), (10, .int .i64 ((to : Int) - 1 - j))])
    (fun _ => LogC p d (.int .i64 gen) (.int .i64 half) (.slice none 0 0) (.int .i64 0) :: Disk d now ks :: F) (fun j => j ≤ to - fr) (fun j => to - fr - j) 0 (by omega) (by repeat (first | exact Sub.nil _ | refine Sub.cons rfl ?_ | refine Sub.ci rfl (by omega) ?_)) fin ?_
  intro j hj ih
  by_cases hlt : j < to - fr
  · repeat' (first | refine step ?_ | refine knowI fun hk => ?_ | refine got rfl ?_ | refine And.intro rfl ?_ | (refine And.intro (fun hc => ?_) (fun hc => ?_) <;> (try (exfalso; first | omega | (simp only [List.length_nil, List.length_cons] at hc; omega)))) | (refine And.intro ?_ ?_; focus omega) | (refine And.intro ?_ ?_; focus (simp only [List.length_map, List.length_set, List.length_replicate, List.length_append, List.length_range, List.length_cons, List.length_nil, Nat.blt_eq, Nat.ble_eq]; omega)) | refine anyB fun b => ?_ | refine got (nth_rowI rfl) ?_ | refine got (nth_row0 rfl) ?_ | refine got (nth_row2 rfl) ?_ | fail)
    refine Get_spec (.there .here) (by omega) (by omega) ?_
    have e2 : now.getD ((to : Int) - 1 - j).toNat [] = [] := by rw [List.getD_eq_getElem?_getD, hz _ (by omega) (by omega)]; rfl
    rw [e2]
    repeat' (first | refine step ?_ | refine knowI fun hk => ?_ | refine got rfl ?_ | refine And.intro rfl ?_ | (refine And.intro (fun hc => ?_) (fun hc => ?_) <;> (try (exfalso; first | omega | (simp only [List.length_nil, List.length_cons] at hc; omega)))) | (refine And.intro ?_ ?_; focus omega) | (refine And.intro ?_ ?_; focus (simp only [List.length_map, List.length_set, List.length_replicate, List.length_append, List.length_range, List.length_cons, List.length_nil, Nat.blt_eq, Nat.ble_eq]; omega)) | refine anyB fun b => ?_ | refine got (nth_rowI rfl) ?_ | refine got (nth_row0 rfl) ?_ | refine got (nth_row2 rfl) ?_ | fail)
    · exact absurd List.drop_nil.symm hc
    · refine Run.sub ?_ (Run.ent fin (ih (j + 1) (by omega) (by omega)))
      exact (by repeat (first | exact Sub.nil _ | refine Sub.cons rfl ?_ | refine Sub.ci rfl (by omega) ?_))
  · repeat' (first | refine step ?_ | refine knowI fun hk => ?_ | refine got rfl ?_ | refine And.intro rfl ?_ | (refine And.intro (fun hc => ?_) (fun hc => ?_) <;> (try (exfalso; first | omega | (simp only [List.length_nil, List.length_cons] at hc; omega)))) | (refine And.intro ?_ ?_; focus omega) | (refine And.intro ?_ ?_; focus (simp only [List.length_map, List.length_set, List.length_replicate, List.length_append, List.length_range, List.length_cons, List.length_nil, Nat.blt_eq, Nat.ble_eq]; omega)) | refine anyB fun b => ?_ | refine got (nth_rowI rfl) ?_ | refine got (nth_row0 rfl) ?_ | refine got (nth_row2 rfl) ?_ | fail)
    refine fin0 Tryz.func130 rfl ?_
    exact Wk.mk (Ent.refl _) h
theorem head_nil (h : K (.tuple #[.int .i64 0, .int .i64 0, .bool false]) l) : CallG Tryz.prog w0 128 [str []].toArray l K := by
  refine CallG.weak (CallG.enter Tryz.func128 rfl rfl fun cs => ?_)
  repeat' (first | refine step ?_ | refine knowI fun hk => ?_ | refine got rfl ?_ | refine And.intro rfl ?_ | (refine And.intro (fun hc => ?_) (fun hc => ?_) <;> (try (exfalso; first | omega | (simp only [List.length_nil, List.length_cons] at hc; omega)))) | (refine And.intro ?_ ?_; focus omega) | (refine And.intro ?_ ?_; focus (simp only [List.length_map, List.length_set, List.length_replicate, List.length_append, List.length_range, List.length_cons, List.length_nil, Nat.blt_eq, Nat.ble_eq]; omega)) | refine anyB fun b => ?_ | refine got (nth_rowI rfl) ?_ | refine got (nth_row0 rfl) ?_ | refine got (nth_row2 rfl) ?_ | fail)
  refine FrameTake_short (by simp) ?_
  repeat' (first | refine step ?_ | refine knowI fun hk => ?_ | refine got rfl ?_ | refine And.intro rfl ?_ | (refine And.intro (fun hc => ?_) (fun hc => ?_) <;> (try (exfalso; first | omega | (simp only [List.length_nil, List.length_cons] at hc; omega)))) | (refine And.intro ?_ ?_; focus omega) | (refine And.intro ?_ ?_; focus (simp only [List.length_map, List.length_set, List.length_replicate, List.length_append, List.length_range, List.length_cons, List.length_nil, Nat.blt_eq, Nat.ble_eq]; omega)) | refine anyB fun b => ?_ | refine got (nth_rowI rfl) ?_ | refine got (nth_row0 rfl) ?_ | refine got (nth_row2 rfl) ?_ | fail)
  refine BencOnly_nil ?_
  repeat' (first | refine step ?_ | refine knowI fun hk => ?_ | refine got rfl ?_ | refine And.intro rfl ?_ | (refine And.intro (fun hc => ?_) (fun hc => ?_) <;> (try (exfalso; first | omega | (simp only [List.length_nil, List.length_cons] at hc; omega)))) | (refine And.intro ?_ ?_; focus omega) | (refine And.intro ?_ ?_; focus (simp only [List.length_map, List.length_set, List.length_replicate, List.length_append, List.length_range, List.length_cons, List.length_nil, Nat.blt_eq, Nat.ble_eq]; omega)) | refine anyB fun b => ?_ | refine got (nth_rowI rfl) ?_ | refine got (nth_row0 rfl) ?_ | refine got (nth_row2 rfl) ?_ | fail)
  refine retG Tryz.func128 rfl ?_
  repeat' (first | refine step ?_ | refine knowI fun hk => ?_ | refine got rfl ?_ | refine And.intro rfl ?_ | (refine And.intro (fun hc => ?_) (fun hc => ?_) <;> (try (exfalso; first | omega | (simp only [List.length_nil, List.length_cons] at hc; omega)))) | (refine And.intro ?_ ?_; focus omega) | (refine And.intro ?_ ?_; focus (simp only [List.length_map, List.length_set, List.length_replicate, List.length_append, List.length_range, List.length_cons, List.length_nil, Nat.blt_eq, Nat.ble_eq]; omega)) | refine anyB fun b => ?_ | refine got (nth_rowI rfl) ?_ | refine got (nth_row0 rfl) ?_ | refine got (nth_row2 rfl) ?_ | fail)
  exact Wk.mk fin h
set_option maxRecDepth 8000 in
/-- a disk that is new -/
theorem LogsOpen_new [Laid w0] {n : Nat} (hn : 4 ≤ n ∧ n ≤ 16384) (hp : Rem l (Disk d (List.replicate n []) []) F)
    (h : ∀ p, K (.tuple #[.pointer (some ⟨p, 0, none⟩), .int .i64 0]) (LogC p d (.int .i64 0) (.int .i64 0) (.slice none 0 0) (.int .i64 0) :: Disk d ((List.replicate n []).set 0 (headB 0 0)) [] :: F)) :
    CallG Tryz.prog w0 90 [.pointer (some ⟨d, 0, none⟩)].toArray l K := by
  refine CallG.ent hp.ent ?_
  refine CallG.weak (CallG.enter Tryz.func90 rfl rfl fun cs => ?_)
  repeat' (first | refine step ?_ | refine knowI fun hk => ?_ | refine got rfl ?_ | refine And.intro rfl ?_ | (refine And.intro (fun hc => ?_) (fun hc => ?_) <;> (try (exfalso; first | omega | (simp only [List.length_nil, List.length_cons] at hc; omega)))) | (refine And.intro ?_ ?_; focus omega) | (refine And.intro ?_ ?_; focus (simp only [List.length_map, List.length_set, List.length_replicate, List.length_append, List.length_range, List.length_cons, List.length_nil, Nat.blt_eq, Nat.ble_eq]; omega)) | refine anyB fun b => ?_ | refine got (nth_rowI rfl) ?_ | refine got (nth_row0 rfl) ?_ | refine got (nth_row2 rfl) ?_ | fail)
  refine Blocks_spec .here ?_
  have hlen : (List.replicate n ([] : Bytes)).length = n := by simp
  repeat' (first | refine step ?_ | refine knowI fun hk => ?_ | refine got rfl ?_ | refine And.intro rfl ?_ | (refine And.intro (fun hc => ?_) (fun hc => ?_) <;> (try (exfalso; first | omega | (simp only [List.length_nil, List.length_cons] at hc; omega)))) | (refine And.intro ?_ ?_; focus omega) | (refine And.intro ?_ ?_; focus (simp only [List.length_map, List.length_set, List.length_replicate, List.length_append, List.length_range, List.length_cons, List.length_nil, Nat.blt_eq, Nat.ble_eq]; omega)) | refine anyB fun b => ?_ | refine got (nth_rowI rfl) ?_ | refine got (nth_row0 rfl) ?_ | refine got (nth_row2 rfl) ?_ | fail)
  rename_i pl
  refine Run.loop (fun k : Nat => [(0, .pointer (some ⟨d, 0, none⟩)), (4, .pointer (some ⟨pl, 0, none⟩)), (5, .pointer (some ⟨b, 0, none⟩)), (16, .int .i64 k)])
    (fun _ => LogC pl d (.int .i64 (-1)) (.int .i64 0) (.slice none 0 0) (.int .i64 0) :: cells b [str [], str []] 223 :: Disk d (List.replicate n []) [] :: F) (fun k => k ≤ 2) (fun k => 2 - k) 0 (by omega) (by repeat (first | exact Sub.nil _ | refine Sub.cons rfl ?_ | refine Sub.ci rfl (by omega) ?_)) fin ?_
  intro k hk ih
  by_cases hlt : k < 2
  · have e1 : (List.replicate n ([] : Bytes)).getD (k : Int).toNat [] = [] := by rw [List.getD_eq_getElem?_getD, List.getElem?_replicate]; split <;> rfl
    obtain rfl | rfl : k = 0 ∨ k = 1 := by omega
    · repeat' (first | refine step ?_ | refine knowI fun hk => ?_ | refine got rfl ?_ | refine And.intro rfl ?_ | (refine And.intro (fun hc => ?_) (fun hc => ?_) <;> (try (exfalso; first | omega | (simp only [List.length_nil, List.length_cons] at hc; omega)))) | (refine And.intro ?_ ?_; focus omega) | (refine And.intro ?_ ?_; focus (simp only [List.length_map, List.length_set, List.length_replicate, List.length_append, List.length_range, List.length_cons, List.length_nil, Nat.blt_eq, Nat.ble_eq]; omega)) | refine anyB fun b => ?_ | refine got (nth_rowI rfl) ?_ | refine got (nth_row0 rfl) ?_ | refine got (nth_row2 rfl) ?_ | fail)
      refine Get_spec (.there (.there .here)) (by omega) (by omega) ?_
      rw [e1]
      repeat' (first | refine step ?_ | refine knowI fun hk => ?_ | refine got rfl ?_ | refine And.intro rfl ?_ | (refine And.intro (fun hc => ?_) (fun hc => ?_) <;> (try (exfalso; first | omega | (simp only [List.length_nil, List.length_cons] at hc; omega)))) | (refine And.intro ?_ ?_; focus omega) | (refine And.intro ?_ ?_; focus (simp only [List.length_map, List.length_set, List.length_replicate, List.length_append, List.length_range, List.length_cons, List.length_nil, Nat.blt_eq, Nat.ble_eq]; omega)) | refine anyB fun b => ?_ | refine got (nth_rowI rfl) ?_ | refine got (nth_row0 rfl) ?_ | refine got (nth_row2 rfl) ?_ | fail)
      refine head_nil ?_
      repeat' (first | refine step ?_ | refine knowI fun hk => ?_ | refine got rfl ?_ | refine And.intro rfl ?_ | (refine And.intro (fun hc => ?_) (fun hc => ?_) <;> (try (exfalso; first | omega | (simp only [List.length_nil, List.length_cons] at hc; omega)))) | (refine And.intro ?_ ?_; focus omega) | (refine And.intro ?_ ?_; focus (simp only [List.length_map, List.length_set, List.length_replicate, List.length_append, List.length_range, List.length_cons, List.length_nil, Nat.blt_eq, Nat.ble_eq]; omega)) | refine anyB fun b => ?_ | refine got (nth_rowI rfl) ?_ | refine got (nth_row0 rfl) ?_ | refine got (nth_row2 rfl) ?_ | fail)
      refine Run.sub ?_ (Run.ent fin (ih 1 (by omega) (by omega)))
      exact (by repeat (first | exact Sub.nil _ | refine Sub.cons rfl ?_ | refine Sub.ci rfl (by omega) ?_))
    · repeat' (first | refine step ?_ | refine knowI fun hk => ?_ | refine got rfl ?_ | refine And.intro rfl ?_ | (refine And.intro (fun hc => ?_) (fun hc => ?_) <;> (try (exfalso; first | omega | (simp only [List.length_nil, List.length_cons] at hc; omega)))) | (refine And.intro ?_ ?_; focus omega) | (refine And.intro ?_ ?_; focus (simp only [List.length_map, List.length_set, List.length_replicate, List.length_append, List.length_range, List.length_cons, List.length_nil, Nat.blt_eq, Nat.ble_eq]; omega)) | refine anyB fun b => ?_ | refine got (nth_rowI rfl) ?_ | refine got (nth_row0 rfl) ?_ | refine got (nth_row2 rfl) ?_ | fail)
      refine Get_spec (.there (.there .here)) (by omega) (by omega) ?_
      rw [e1]
      repeat' (first | refine step ?_ | refine knowI fun hk => ?_ | refine got rfl ?_ | refine And.intro rfl ?_ | (refine And.intro (fun hc => ?_) (fun hc => ?_) <;> (try (exfalso; first | omega | (simp only [List.length_nil, List.length_cons] at hc; omega)))) | (refine And.intro ?_ ?_; focus omega) | (refine And.intro ?_ ?_; focus (simp only [List.length_map, List.length_set, List.length_replicate, List.length_append, List.length_range, List.length_cons, List.length_nil, Nat.blt_eq, Nat.ble_eq]; omega)) | refine anyB fun b => ?_ | refine got (nth_rowI rfl) ?_ | refine got (nth_row0 rfl) ?_ | refine got (nth_row2 rfl) ?_ | fail)
      refine head_nil ?_
      repeat' (first | refine step ?_ | refine knowI fun hk => ?_ | refine got rfl ?_ | refine And.intro rfl ?_ | (refine And.intro (fun hc => ?_) (fun hc => ?_) <;> (try (exfalso; first | omega | (simp only [List.length_nil, List.length_cons] at hc; omega)))) | (refine And.intro ?_ ?_; focus omega) | (refine And.intro ?_ ?_; focus (simp only [List.length_map, List.length_set, List.length_replicate, List.length_append, List.length_range, List.length_cons, List.length_nil, Nat.blt_eq, Nat.ble_eq]; omega)) | refine anyB fun b => ?_ | refine got (nth_rowI rfl) ?_ | refine got (nth_row0 rfl) ?_ | refine got (nth_row2 rfl) ?_ | fail)
      refine Run.sub ?_ (Run.ent fin (ih 2 (by omega) (by omega)))
      exact (by repeat (first | exact Sub.nil _ | refine Sub.cons rfl ?_ | refine Sub.ci rfl (by omega) ?_))
  · obtain rfl : k = 2 := by omega
    repeat' (first | refine step ?_ | refine knowI fun hk => ?_ | refine got rfl ?_ | refine And.intro rfl ?_ | (refine And.intro (fun hc => ?_) (fun hc => ?_) <;> (try (exfalso; first | omega | (simp only [List.length_nil, List.length_cons] at hc; omega)))) | (refine And.intro ?_ ?_; focus omega) | (refine And.intro ?_ ?_; focus (simp only [List.length_map, List.length_set, List.length_replicate, List.length_append, List.length_range, List.length_cons, List.length_nil, Nat.blt_eq, Nat.ble_eq]; omega)) | refine anyB fun b => ?_ | refine got (nth_rowI rfl) ?_ | refine got (nth_row0 rfl) ?_ | refine got (nth_row2 rfl) ?_ | fail)
    refine heads_spec (by omega) (by omega) (by omega) (by omega) .here (.there .here) (by omega) (by simp) ?_
    rw [show ((0 : Int) % 2).toNat = 0 from rfl]
    repeat' (first | refine step ?_ | refine knowI fun hk => ?_ | refine got rfl ?_ | refine And.intro rfl ?_ | (refine And.intro (fun hc => ?_) (fun hc => ?_) <;> (try (exfalso; first | omega | (simp only [List.length_nil, List.length_cons] at hc; omega)))) | (refine And.intro ?_ ?_; focus omega) | (refine And.intro ?_ ?_; focus (simp only [List.length_map, List.length_set, List.length_replicate, List.length_append, List.length_range, List.length_cons, List.length_nil, Nat.blt_eq, Nat.ble_eq]; omega)) | refine anyB fun b => ?_ | refine got (nth_rowI rfl) ?_ | refine got (nth_row0 rfl) ?_ | refine got (nth_row2 rfl) ?_ | fail)
    refine read_nil (by simp; omega) ?_ .here .here ?_
    · intro k h1 h2
      unfold fromOf at h1
      unfold toOf at h2
      simp only [List.length_set, List.length_replicate, if_true] at h1 h2
      rw [List.getElem?_set_ne (by omega), List.getElem?_replicate, if_pos (by omega)]
    repeat' (first | refine step ?_ | refine knowI fun hk => ?_ | refine got rfl ?_ | refine And.intro rfl ?_ | (refine And.intro (fun hc => ?_) (fun hc => ?_) <;> (try (exfalso; first | omega | (simp only [List.length_nil, List.length_cons] at hc; omega)))) | (refine And.intro ?_ ?_; focus omega) | (refine And.intro ?_ ?_; focus (simp only [List.length_map, List.length_set, List.length_replicate, List.length_append, List.length_range, List.length_cons, List.length_nil, Nat.blt_eq, Nat.ble_eq]; omega)) | refine anyB fun b => ?_ | refine got (nth_rowI rfl) ?_ | refine got (nth_row0 rfl) ?_ | refine got (nth_row2 rfl) ?_ | fail)
    refine retG Tryz.func90 rfl ?_
    repeat' (first | refine step ?_ | refine knowI fun hk => ?_ | refine got rfl ?_ | refine And.intro rfl ?_ | (refine And.intro (fun hc => ?_) (fun hc => ?_) <;> (try (exfalso; first | omega | (simp only [List.length_nil, List.length_cons] at hc; omega)))) | (refine And.intro ?_ ?_; focus omega) | (refine And.intro ?_ ?_; focus (simp only [List.length_map, List.length_set, List.length_replicate, List.length_append, List.length_range, List.length_cons, List.length_nil, Nat.blt_eq, Nat.ble_eq]; omega)) | refine anyB fun b => ?_ | refine got (nth_rowI rfl) ?_ | refine got (nth_row0 rfl) ?_ | refine got (nth_row2 rfl) ?_ | fail)
    exact Wk.mk fin (h pl)
end
end Go.Sl
/- A log of records on a disk (package logs): frames, writes, Add, Flush, Room, All. -/
open Go Go.RowKit
namespace Go.Sl
open Go.Proofs
/-- bytes on blocks, from a block on -/
def Lays (now : List Bytes) (fr to : Nat) (c : List UInt8) : Prop := ∀ k, fr ≤ k → k < to → now[k]? = some ((c.drop ((k - fr) * 128)).take 128)
theorem lays_step {now : List Bytes} {fr to : Nat} {c t : List UInt8} (h : Lays now fr to c) (hto : to ≤ now.length) (hk : fr + c.length / 128 < to) (ht : c.length % 128 + t.length ≤ 128) :
    Lays (now.set (fr + c.length / 128) (((c.drop (c.length / 128 * 128)).take 128).take (c.length % 128) ++ t)) fr to (c ++ t) := by
  intro k h1 h2
  have hd := Nat.div_add_mod c.length 128
  by_cases he : k = fr + c.length / 128
  · subst he
    rw [List.getElem?_set_self (by omega)]
    congr 1
    rw [show fr + c.length / 128 - fr = c.length / 128 by omega, List.take_take, Nat.min_eq_left (by omega), List.drop_append_of_le_length (by omega)]
    rw [List.take_of_length_le (by simp; omega), List.take_of_length_le (by simp; omega)]
  · rw [List.getElem?_set_ne (by omega), h k h1 h2]
    congr 1
    by_cases hl : k - fr < c.length / 128
    · have : (k - fr + 1) * 128 ≤ c.length := by
        have : (k - fr + 1) * 128 ≤ c.length / 128 * 128 := Nat.mul_le_mul_right 128 (by omega)
        omega
      rw [List.drop_append_of_le_length (by omega), List.take_append_of_le_length (by simp; omega)]
    · have : (c.length / 128 + 1) * 128 ≤ (k - fr) * 128 := Nat.mul_le_mul_right 128 (by omega)
      rw [List.drop_eq_nil_of_le (by omega), List.drop_eq_nil_of_le (by simp; omega)]
section
variable {w0 : World} {l F F1 : HL} {K : Value → HL → Prop} {p d : Nat} {v1 v2 v3 v4 : Value} {now : List Bytes} {ks : List Nat}
set_option maxRecDepth 8000 in
theorem writes_spec {half : Int} {c s : List UInt8} (hp : Rem l (LogC p d v1 v2 v3 v4) F1) (hp2 : Rem F1 (Disk d now ks) F) (hn : 2 ≤ now.length ∧ now.length ≤ 16384) (hks : ks.length + s.length ≤ 900000)
    (hL : Lays now (fromOf now.length half) (toOf now.length half) c) (hr : c.length + s.length ≤ (toOf now.length half - fromOf now.length half) * 128)
    (h : ∀ now' ks', now'.length = now.length → ks'.length ≤ ks.length + s.length → Lays now' (fromOf now.length half) (toOf now.length half) (c ++ s) → (∀ k, k < fromOf now.length half ∨ toOf now.length half ≤ k → now'[k]? = now[k]?) →
      K (.tuple #[]) (LogC p d v1 v2 v3 v4 :: Disk d now' ks' :: F)) :
    CallG Tryz.prog w0 185 [.pointer (some ⟨p, 0, none⟩), .int .i64 half, .int .i64 c.length, str s].toArray l K := by
  have hh : toOf now.length half ≤ now.length ∧ fromOf now.length half ≤ toOf now.length half := by
    unfold fromOf toOf; split <;> omega
  refine CallG.ent (hp.ent.trans (Ent.cons _ hp2.ent)) ?_
  generalize hfr : fromOf now.length half = fr at *
  generalize hto : toOf now.length half = to at *
  refine CallG.weak (CallG.enter Tryz.func185 rfl rfl fun cs => ?_)
  repeat' (first | refine step ?_ | refine knowI fun hk => ?_ | refine got rfl ?_ | refine And.intro rfl ?_ | (refine And.intro (fun hc => ?_) (fun hc => ?_) <;> (try (exfalso; first | omega | (simp only [List.length_nil, List.length_cons] at hc; omega)))) | (refine And.intro ?_ ?_; focus omega) | (refine And.intro ?_ ?_; focus (simp only [List.length_map, List.length_set, List.length_replicate, List.length_append, List.length_range, List.length_cons, List.length_nil, Nat.blt_eq, Nat.ble_eq]; omega)) | refine anyB fun b => ?_ | refine got (nth_rowI rfl) ?_ | refine got (nth_row0 rfl) ?_ | refine got (nth_row2 rfl) ?_ | fail)
  refine part_spec .here .here hn ?_
  rw [hfr, hto]
  repeat' (first | refine step ?_ | refine knowI fun hk => ?_ | refine got rfl ?_ | refine And.intro rfl ?_ | (refine And.intro (fun hc => ?_) (fun hc => ?_) <;> (try (exfalso; first | omega | (simp only [List.length_nil, List.length_cons] at hc; omega)))) | (refine And.intro ?_ ?_; focus omega) | (refine And.intro ?_ ?_; focus (simp only [List.length_map, List.length_set, List.length_replicate, List.length_append, List.length_range, List.length_cons, List.length_nil, Nat.blt_eq, Nat.ble_eq]; omega)) | refine anyB fun b => ?_ | refine got (nth_rowI rfl) ?_ | refine got (nth_row0 rfl) ?_ | refine got (nth_row2 rfl) ?_ | fail)
  refine Run.loop (fun x : Nat × List Bytes × List Nat => [(0, .pointer (some ⟨p, 0, none⟩)), (3, str (s.drop x.1)), (2, .int .i64 ((c ++ s.take x.1).length)), (8, .int .i64 fr)])
    (fun x => LogC p d v1 v2 v3 v4 :: Disk d x.2.1 x.2.2 :: F)
    (fun x => x.1 ≤ s.length ∧ x.2.1.length = now.length ∧ x.2.2.length ≤ ks.length + x.1 ∧ Lays x.2.1 fr to (c ++ s.take x.1) ∧ ∀ k, k < fr ∨ to ≤ k → x.2.1[k]? = now[k]?)
    (fun x => s.length - x.1) (0, now, ks) ⟨Nat.zero_le _, rfl, Nat.le_refl _, by simpa using hL, fun _ _ => rfl⟩ (by repeat (first | exact Sub.nil _ | refine Sub.cons rfl ?_ | refine Sub.ci rfl (by simp) ?_)) (Ent.refl _) ?_
  rintro ⟨m, nw, kk⟩ ⟨i1, i2, i3, i4, i5⟩ ih
  dsimp only at i1 i2 i3 i4 i5 ih ⊢
  have hc : (c ++ s.take m).length = c.length + m := by simp; omega
  have hdl : (s.drop m).length = s.length - m := by simp
  generalize hcm : c ++ s.take m = cm at *
  by_cases hlt : m < s.length
  · have hk1 : fr + cm.length / 128 < to := by omega
    have i6 := i4 (fr + cm.length / 128) (by omega) hk1
    repeat' (first | refine step ?_ | refine knowI fun hk => ?_ | refine got rfl ?_ | refine And.intro rfl ?_ | (refine And.intro (fun hc => ?_) (fun hc => ?_) <;> (try (exfalso; first | omega | (simp only [List.length_nil, List.length_cons] at hc; omega)))) | (refine And.intro ?_ ?_; focus omega) | (refine And.intro ?_ ?_; focus (simp only [List.length_map, List.length_set, List.length_replicate, List.length_append, List.length_range, List.length_cons, List.length_nil, Nat.blt_eq, Nat.ble_eq]; omega)) | refine anyB fun b => ?_ | refine got (nth_rowI rfl) ?_ | refine got (nth_row0 rfl) ?_ | refine got (nth_row2 rfl) ?_ | fail)
    refine Get_spec (.there .here) (by omega) (by omega) ?_
    have e1 : nw.getD ((fr : Int) + (cm.length : Int) / 128).toNat [] = (cm.drop (cm.length / 128 * 128)).take 128 := by
      rw [show ((fr : Int) + (cm.length : Int) / 128).toNat = fr + cm.length / 128 by omega, List.getD_eq_getElem?_getD, i6, Option.getD_some, Nat.add_sub_cancel_left]
    rw [e1]
    have e2 : ((cm.drop (cm.length / 128 * 128)).take 128).length = cm.length % 128 := by
      simp only [List.length_take, List.length_drop]; omega
    generalize hhad : (cm.drop (cm.length / 128 * 128)).take 128 = had at *
    have e3 : ((cm.length : Int) % 128).toNat = cm.length % 128 := by omega
    have e4 : (had.take ((cm.length : Int) % 128).toNat).length = cm.length % 128 := by rw [List.length_take]; omega
    repeat' (first | refine step ?_ | refine knowI fun hk => ?_ | refine got rfl ?_ | refine And.intro rfl ?_ | (refine And.intro (fun hc => ?_) (fun hc => ?_) <;> (try (exfalso; first | omega | (simp only [List.length_nil, List.length_cons] at hc; omega)))) | (refine And.intro ?_ ?_; focus omega) | (refine And.intro ?_ ?_; focus (simp only [List.length_map, List.length_set, List.length_replicate, List.length_append, List.length_range, List.length_cons, List.length_nil, Nat.blt_eq, Nat.ble_eq]; omega)) | refine anyB fun b => ?_ | refine got (nth_rowI rfl) ?_ | refine got (nth_row0 rfl) ?_ | refine got (nth_row2 rfl) ?_ | fail)
    obtain ⟨q, hq⟩ : ∃ q, q = min (s.length - m) (128 - cm.length % 128) := ⟨_, rfl⟩
    have e5 : min ((s.drop m).length : Int) (128 - ((had.take ((cm.length : Int) % 128).toNat).length : Int)) = ((q : Nat) : Int) := by omega
    rw [e5]
    have e6 : ((s.drop m).take q).length = q := by rw [List.length_take]; omega
    refine Run.drawI [1] rfl ?_
    repeat' (first | refine step ?_ | refine knowI fun hk => ?_ | refine got rfl ?_ | refine And.intro rfl ?_ | (refine And.intro (fun hc => ?_) (fun hc => ?_) <;> (try (exfalso; first | omega | (simp only [List.length_nil, List.length_cons] at hc; omega)))) | (refine And.intro ?_ ?_; focus omega) | (refine And.intro ?_ ?_; focus (simp only [List.length_map, List.length_set, List.length_replicate, List.length_append, List.length_range, List.length_cons, List.length_nil, Nat.blt_eq, Nat.ble_eq]; omega)) | refine anyB fun b => ?_ | refine got (nth_rowI rfl) ?_ | refine got (nth_row0 rfl) ?_ | refine got (nth_row2 rfl) ?_ | refine And.intro (keepS (by decide +kernel)) ?_ | refine And.intro keepR ?_ | refine RunD.done (by decide +kernel) ?_ | refine tk 0 rfl (by decide +kernel) ?_ | refine tk 1 rfl (by decide +kernel) ?_ | refine tk 2 rfl (by decide +kernel) ?_ | refine tk 3 rfl (by decide +kernel) ?_ | refine tk 4 rfl (by decide +kernel) ?_ | refine tk 5 rfl (by decide +kernel) ?_ | refine tk 6 rfl (by decide +kernel) ?_ | refine tk 7 rfl (by decide +kernel) ?_ | refine tk 8 rfl (by decide +kernel) ?_ | refine tk 9 rfl (by decide +kernel) ?_ | refine ef 10 (by decide +kernel) rfl ?_ | fail)
    refine Put_spec .here (by omega) (by omega) (by rw [List.length_append]; omega) (by omega) ?_
    repeat' (first | refine step ?_ | refine knowI fun hk => ?_ | refine got rfl ?_ | refine And.intro rfl ?_ | (refine And.intro (fun hc => ?_) (fun hc => ?_) <;> (try (exfalso; first | omega | (simp only [List.length_nil, List.length_cons] at hc; omega)))) | (refine And.intro ?_ ?_; focus omega) | (refine And.intro ?_ ?_; focus (simp only [List.length_map, List.length_set, List.length_replicate, List.length_append, List.length_range, List.length_cons, List.length_nil, Nat.blt_eq, Nat.ble_eq]; omega)) | refine anyB fun b => ?_ | refine got (nth_rowI rfl) ?_ | refine got (nth_row0 rfl) ?_ | refine got (nth_row2 rfl) ?_ | refine And.intro (keepS (by decide +kernel)) ?_ | refine And.intro keepR ?_ | refine RunD.done (by decide +kernel) ?_ | refine tk 0 rfl (by decide +kernel) ?_ | refine tk 1 rfl (by decide +kernel) ?_ | refine tk 2 rfl (by decide +kernel) ?_ | refine tk 3 rfl (by decide +kernel) ?_ | refine tk 4 rfl (by decide +kernel) ?_ | refine tk 5 rfl (by decide +kernel) ?_ | refine tk 6 rfl (by decide +kernel) ?_ | refine tk 7 rfl (by decide +kernel) ?_ | refine tk 8 rfl (by decide +kernel) ?_ | refine tk 9 rfl (by decide +kernel) ?_ | refine ef 10 (by decide +kernel) rfl ?_ | fail)
    repeat' (first | refine step ?_ | refine knowI fun hk => ?_ | refine got rfl ?_ | refine And.intro rfl ?_ | (refine And.intro (fun hc => ?_) (fun hc => ?_) <;> (try (exfalso; first | omega | (simp only [List.length_nil, List.length_cons] at hc; omega)))) | (refine And.intro ?_ ?_; focus omega) | (refine And.intro ?_ ?_; focus (simp only [List.length_map, List.length_set, List.length_replicate, List.length_append, List.length_range, List.length_cons, List.length_nil, Nat.blt_eq, Nat.ble_eq]; omega)) | refine anyB fun b => ?_ | refine got (nth_rowI rfl) ?_ | refine got (nth_row0 rfl) ?_ | refine got (nth_row2 rfl) ?_ | fail)
    have e7 : c ++ s.take (m + q) = cm ++ (s.drop m).take q := by rw [← hcm, List.append_assoc, List.take_add]
    have e8 : ((fr : Int) + (cm.length : Int) / 128).toNat = fr + cm.length / 128 := by omega
    have hst := lays_step (t := (s.drop m).take q) i4 (by omega) hk1 (by rw [e6]; omega)
    rw [hhad] at hst
    rw [e8, e3]
    refine Run.sub ?_ (Run.ent fin (ih (m + q, nw.set (fr + cm.length / 128) (had.take (cm.length % 128) ++ (s.drop m).take q), kk ++ [fr + cm.length / 128]) ⟨by dsimp only; omega, by simp [i2], by simp; omega, ?_, ?_⟩ (by dsimp only; omega)))
    · dsimp only
      rw [e7]
      repeat (first | exact Sub.nil _ | refine Sub.cons rfl ?_ | refine Sub.ci rfl (by rw [List.length_append, e6]; omega) ?_ | (rw [← List.drop_drop]; refine Sub.cons rfl ?_))
    · dsimp only; rw [e7]; exact hst
    · intro k hk
      dsimp only
      rw [List.getElem?_set_ne (by omega)]; exact i5 k hk
  · obtain rfl : m = s.length := by omega
    repeat' (first | refine step ?_ | refine knowI fun hk => ?_ | refine got rfl ?_ | refine And.intro rfl ?_ | (refine And.intro (fun hc => ?_) (fun hc => ?_) <;> (try (exfalso; first | omega | (simp only [List.length_nil, List.length_cons] at hc; omega)))) | (refine And.intro ?_ ?_; focus omega) | (refine And.intro ?_ ?_; focus (simp only [List.length_map, List.length_set, List.length_replicate, List.length_append, List.length_range, List.length_cons, List.length_nil, Nat.blt_eq, Nat.ble_eq]; omega)) | refine anyB fun b => ?_ | refine got (nth_rowI rfl) ?_ | refine got (nth_row0 rfl) ?_ | refine got (nth_row2 rfl) ?_ | fail)
    refine fin0 Tryz.func185 rfl ?_
    rw [List.take_length] at hcm
    subst hcm
    exact Wk.mk (Ent.refl _) (h nw kk i2 i3 i4 i5)
end
end Go.Sl
/- A log of records on a disk (package logs): frames, Room, Add, Flush, All. -/
open Go Go.RowKit
namespace Go.Sl
open Go.Proofs
def frms (rs : List (List UInt8)) : List UInt8 := rs.flatMap frm
section
variable {w0 : World} {l F F1 : HL} {K : Value → HL → Prop} {p d : Nat} {v1 v2 v3 v4 : Value} {now : List Bytes} {ks : List Nat}
theorem frames_one [Laid w0] {r : List UInt8} {b : Nat} (hr : r.length ≤ 32768) (hp : Rem l (cells b [str r] 9) F) (h : K (.tuple #[str (frm r), .int .i64 0]) F) :
    CallG Tryz.prog w0 183 [.slice (some ⟨b, 0, none⟩) 1 1].toArray l K := by
  have hf := frm_length r
  refine CallG.ent hp.ent ?_
  refine CallG.weak (CallG.enter Tryz.func183 rfl rfl fun cs => ?_)
  repeat' (first | refine step ?_ | refine knowI fun hk => ?_ | refine got rfl ?_ | refine And.intro rfl ?_ | (refine And.intro (fun hc => ?_) (fun hc => ?_) <;> (try (exfalso; first | omega | (simp only [List.length_nil, List.length_cons] at hc; omega)))) | (refine And.intro ?_ ?_; focus omega) | (refine And.intro ?_ ?_; focus (simp only [List.length_map, List.length_set, List.length_replicate, List.length_append, List.length_range, List.length_cons, List.length_nil, Nat.blt_eq, Nat.ble_eq]; omega)) | refine anyB fun b => ?_ | refine got (nth_rowI rfl) ?_ | refine got (nth_row0 rfl) ?_ | refine got (nth_row2 rfl) ?_ | fail)
  refine Run.loop1 ?_
  repeat' (first | refine step ?_ | refine knowI fun hk => ?_ | refine got rfl ?_ | refine And.intro rfl ?_ | (refine And.intro (fun hc => ?_) (fun hc => ?_) <;> (try (exfalso; first | omega | (simp only [List.length_nil, List.length_cons] at hc; omega)))) | (refine And.intro ?_ ?_; focus omega) | (refine And.intro ?_ ?_; focus (simp only [List.length_map, List.length_set, List.length_replicate, List.length_append, List.length_range, List.length_cons, List.length_nil, Nat.blt_eq, Nat.ble_eq]; omega)) | refine anyB fun b => ?_ | refine got (nth_rowI rfl) ?_ | refine got (nth_row0 rfl) ?_ | refine got (nth_row2 rfl) ?_ | fail)
  refine FramePut_spec (by omega) ?_
  repeat' (first | refine step ?_ | refine knowI fun hk => ?_ | refine got rfl ?_ | refine And.intro rfl ?_ | (refine And.intro (fun hc => ?_) (fun hc => ?_) <;> (try (exfalso; first | omega | (simp only [List.length_nil, List.length_cons] at hc; omega)))) | (refine And.intro ?_ ?_; focus omega) | (refine And.intro ?_ ?_; focus (simp only [List.length_map, List.length_set, List.length_replicate, List.length_append, List.length_range, List.length_cons, List.length_nil, Nat.blt_eq, Nat.ble_eq]; omega)) | refine anyB fun b => ?_ | refine got (nth_rowI rfl) ?_ | refine got (nth_row0 rfl) ?_ | refine got (nth_row2 rfl) ?_ | fail)
  refine CallG.ent (bldNew .here) ?_
  refine WriteString_spec .here (by simp; omega) ?_
  rw [List.nil_append]
  repeat' (first | refine step ?_ | refine knowI fun hk => ?_ | refine got rfl ?_ | refine And.intro rfl ?_ | (refine And.intro (fun hc => ?_) (fun hc => ?_) <;> (try (exfalso; first | omega | (simp only [List.length_nil, List.length_cons] at hc; omega)))) | (refine And.intro ?_ ?_; focus omega) | (refine And.intro ?_ ?_; focus (simp only [List.length_map, List.length_set, List.length_replicate, List.length_append, List.length_range, List.length_cons, List.length_nil, Nat.blt_eq, Nat.ble_eq]; omega)) | refine anyB fun b => ?_ | refine got (nth_rowI rfl) ?_ | refine got (nth_row0 rfl) ?_ | refine got (nth_row2 rfl) ?_ | fail)
  refine Run.inLoop ?_
  repeat' (first | refine step ?_ | refine knowI fun hk => ?_ | refine got rfl ?_ | refine And.intro rfl ?_ | (refine And.intro (fun hc => ?_) (fun hc => ?_) <;> (try (exfalso; first | omega | (simp only [List.length_nil, List.length_cons] at hc; omega)))) | (refine And.intro ?_ ?_; focus omega) | (refine And.intro ?_ ?_; focus (simp only [List.length_map, List.length_set, List.length_replicate, List.length_append, List.length_range, List.length_cons, List.length_nil, Nat.blt_eq, Nat.ble_eq]; omega)) | refine anyB fun b => ?_ | refine got (nth_rowI rfl) ?_ | refine got (nth_row0 rfl) ?_ | refine got (nth_row2 rfl) ?_ | fail)
  refine CallG.ent bld_frz ?_
  refine String_spec (bs := frm r) (by omega) .here ?_
  repeat' (first | refine step ?_ | refine knowI fun hk => ?_ | refine got rfl ?_ | refine And.intro rfl ?_ | (refine And.intro (fun hc => ?_) (fun hc => ?_) <;> (try (exfalso; first | omega | (simp only [List.length_nil, List.length_cons] at hc; omega)))) | (refine And.intro ?_ ?_; focus omega) | (refine And.intro ?_ ?_; focus (simp only [List.length_map, List.length_set, List.length_replicate, List.length_append, List.length_range, List.length_cons, List.length_nil, Nat.blt_eq, Nat.ble_eq]; omega)) | refine anyB fun b => ?_ | refine got (nth_rowI rfl) ?_ | refine got (nth_row0 rfl) ?_ | refine got (nth_row2 rfl) ?_ | fail)
  refine retG Tryz.func183 rfl ?_
  repeat' (first | refine step ?_ | refine knowI fun hk => ?_ | refine got rfl ?_ | refine And.intro rfl ?_ | (refine And.intro (fun hc => ?_) (fun hc => ?_) <;> (try (exfalso; first | omega | (simp only [List.length_nil, List.length_cons] at hc; omega)))) | (refine And.intro ?_ ?_; focus omega) | (refine And.intro ?_ ?_; focus (simp only [List.length_map, List.length_set, List.length_replicate, List.length_append, List.length_range, List.length_cons, List.length_nil, Nat.blt_eq, Nat.ble_eq]; omega)) | refine anyB fun b => ?_ | refine got (nth_rowI rfl) ?_ | refine got (nth_row0 rfl) ?_ | refine got (nth_row2 rfl) ?_ | fail)
  exact Wk.mk fin h
theorem given_spec (hp : Rem l (LogC p d v1 v2 v3 v4) F) (h : K (.bool true) (LogC p d v1 v2 v3 v4 :: F)) : CallG Tryz.prog w0 133 [.pointer (some ⟨p, 0, none⟩)].toArray l K := by
  refine CallG.ent hp.ent ?_
  refine CallG.enter Tryz.func133 rfl rfl fun cs => ?_
  repeat' (first | refine step ?_ | refine knowI fun hk => ?_ | refine got rfl ?_ | refine And.intro rfl ?_ | (refine And.intro (fun hc => ?_) (fun hc => ?_) <;> (try (exfalso; first | omega | (simp only [List.length_nil, List.length_cons] at hc; omega)))) | (refine And.intro ?_ ?_; focus omega) | (refine And.intro ?_ ?_; focus (simp only [List.length_map, List.length_set, List.length_replicate, List.length_append, List.length_range, List.length_cons, List.length_nil, Nat.blt_eq, Nat.ble_eq]; omega)) | refine anyB fun b => ?_ | refine got (nth_rowI rfl) ?_ | refine got (nth_row0 rfl) ?_ | refine got (nth_row2 rfl) ?_ | fail)
  refine retG Tryz.func133 rfl ?_
  repeat' (first | refine step ?_ | refine knowI fun hk => ?_ | refine got rfl ?_ | refine And.intro rfl ?_ | (refine And.intro (fun hc => ?_) (fun hc => ?_) <;> (try (exfalso; first | omega | (simp only [List.length_nil, List.length_cons] at hc; omega)))) | (refine And.intro ?_ ?_; focus omega) | (refine And.intro ?_ ?_; focus (simp only [List.length_map, List.length_set, List.length_replicate, List.length_append, List.length_range, List.length_cons, List.length_nil, Nat.blt_eq, Nat.ble_eq]; omega)) | refine anyB fun b => ?_ | refine got (nth_rowI rfl) ?_ | refine got (nth_row0 rfl) ?_ | refine got (nth_row2 rfl) ?_ | fail)
  exact h
theorem Room_spec {half size : Int} (h0 : 0 ≤ size) (h9 : size ≤ 100000000) (hp : Rem l (LogC p d v1 (.int .i64 half) v3 (.int .i64 size)) F1) (hp2 : Rem F1 (Disk d now ks) F) (hn : 2 ≤ now.length ∧ now.length ≤ 16384)
    (h : K (.int .i64 ((((toOf now.length half - fromOf now.length half) * 128 : Nat) : Int) - size)) (LogC p d v1 (.int .i64 half) v3 (.int .i64 size) :: Disk d now ks :: F)) :
    CallG Tryz.prog w0 184 [.pointer (some ⟨p, 0, none⟩)].toArray l K := by
  have h1 : fromOf now.length half ≤ toOf now.length half ∧ toOf now.length half ≤ 16384 := by
    unfold fromOf toOf; split <;> omega
  refine CallG.ent (hp.ent.trans (Ent.cons _ hp2.ent)) ?_
  refine CallG.enter Tryz.func184 rfl rfl fun cs => ?_
  repeat' (first | refine step ?_ | refine knowI fun hk => ?_ | refine got rfl ?_ | refine And.intro rfl ?_ | (refine And.intro (fun hc => ?_) (fun hc => ?_) <;> (try (exfalso; first | omega | (simp only [List.length_nil, List.length_cons] at hc; omega)))) | (refine And.intro ?_ ?_; focus omega) | (refine And.intro ?_ ?_; focus (simp only [List.length_map, List.length_set, List.length_replicate, List.length_append, List.length_range, List.length_cons, List.length_nil, Nat.blt_eq, Nat.ble_eq]; omega)) | refine anyB fun b => ?_ | refine got (nth_rowI rfl) ?_ | refine got (nth_row0 rfl) ?_ | refine got (nth_row2 rfl) ?_ | fail)
  refine given_spec .here ?_
  repeat' (first | refine step ?_ | refine knowI fun hk => ?_ | refine got rfl ?_ | refine And.intro rfl ?_ | (refine And.intro (fun hc => ?_) (fun hc => ?_) <;> (try (exfalso; first | omega | (simp only [List.length_nil, List.length_cons] at hc; omega)))) | (refine And.intro ?_ ?_; focus omega) | (refine And.intro ?_ ?_; focus (simp only [List.length_map, List.length_set, List.length_replicate, List.length_append, List.length_range, List.length_cons, List.length_nil, Nat.blt_eq, Nat.ble_eq]; omega)) | refine anyB fun b => ?_ | refine got (nth_rowI rfl) ?_ | refine got (nth_row0 rfl) ?_ | refine got (nth_row2 rfl) ?_ | fail)
  refine Run.drawI [0] rfl ?_
  repeat' (first | refine step ?_ | refine knowI fun hk => ?_ | refine got rfl ?_ | refine And.intro rfl ?_ | (refine And.intro (fun hc => ?_) (fun hc => ?_) <;> (try (exfalso; first | omega | (simp only [List.length_nil, List.length_cons] at hc; omega)))) | (refine And.intro ?_ ?_; focus omega) | (refine And.intro ?_ ?_; focus (simp only [List.length_map, List.length_set, List.length_replicate, List.length_append, List.length_range, List.length_cons, List.length_nil, Nat.blt_eq, Nat.ble_eq]; omega)) | refine anyB fun b => ?_ | refine got (nth_rowI rfl) ?_ | refine got (nth_row0 rfl) ?_ | refine got (nth_row2 rfl) ?_ | refine And.intro (keepS (by decide +kernel)) ?_ | refine And.intro keepR ?_ | refine RunD.done (by decide +kernel) ?_ | refine tk 0 rfl (by decide +kernel) ?_ | refine tk 1 rfl (by decide +kernel) ?_ | refine tk 2 rfl (by decide +kernel) ?_ | refine tk 3 rfl (by decide +kernel) ?_ | refine tk 4 rfl (by decide +kernel) ?_ | refine ef 5 (by decide +kernel) rfl ?_ | refine tk 6 rfl (by decide +kernel) ?_ | refine tk 7 rfl (by decide +kernel) ?_ | refine tk 8 rfl (by decide +kernel) ?_ | refine tk 9 rfl (by decide +kernel) ?_ | refine tk 10 rfl (by decide +kernel) ?_ | refine tk 11 rfl (by decide +kernel) ?_ | fail)
  refine bytes_spec .here .here hn ?_
  repeat' (first | refine step ?_ | refine knowI fun hk => ?_ | refine got rfl ?_ | refine And.intro rfl ?_ | (refine And.intro (fun hc => ?_) (fun hc => ?_) <;> (try (exfalso; first | omega | (simp only [List.length_nil, List.length_cons] at hc; omega)))) | (refine And.intro ?_ ?_; focus omega) | (refine And.intro ?_ ?_; focus (simp only [List.length_map, List.length_set, List.length_replicate, List.length_append, List.length_range, List.length_cons, List.length_nil, Nat.blt_eq, Nat.ble_eq]; omega)) | refine anyB fun b => ?_ | refine got (nth_rowI rfl) ?_ | refine got (nth_row0 rfl) ?_ | refine got (nth_row2 rfl) ?_ | refine And.intro (keepS (by decide +kernel)) ?_ | refine And.intro keepR ?_ | refine RunD.done (by decide +kernel) ?_ | refine tk 0 rfl (by decide +kernel) ?_ | refine tk 1 rfl (by decide +kernel) ?_ | refine tk 2 rfl (by decide +kernel) ?_ | refine tk 3 rfl (by decide +kernel) ?_ | refine tk 4 rfl (by decide +kernel) ?_ | refine ef 5 (by decide +kernel) rfl ?_ | refine tk 6 rfl (by decide +kernel) ?_ | refine tk 7 rfl (by decide +kernel) ?_ | refine tk 8 rfl (by decide +kernel) ?_ | refine tk 9 rfl (by decide +kernel) ?_ | refine tk 10 rfl (by decide +kernel) ?_ | refine tk 11 rfl (by decide +kernel) ?_ | fail)
  repeat' (first | refine step ?_ | refine knowI fun hk => ?_ | refine got rfl ?_ | refine And.intro rfl ?_ | (refine And.intro (fun hc => ?_) (fun hc => ?_) <;> (try (exfalso; first | omega | (simp only [List.length_nil, List.length_cons] at hc; omega)))) | (refine And.intro ?_ ?_; focus omega) | (refine And.intro ?_ ?_; focus (simp only [List.length_map, List.length_set, List.length_replicate, List.length_append, List.length_range, List.length_cons, List.length_nil, Nat.blt_eq, Nat.ble_eq]; omega)) | refine anyB fun b => ?_ | refine got (nth_rowI rfl) ?_ | refine got (nth_row0 rfl) ?_ | refine got (nth_row2 rfl) ?_ | fail)
  refine retG Tryz.func184 rfl ?_
  repeat' (first | refine step ?_ | refine knowI fun hk => ?_ | refine got rfl ?_ | refine And.intro rfl ?_ | (refine And.intro (fun hc => ?_) (fun hc => ?_) <;> (try (exfalso; first | omega | (simp only [List.length_nil, List.length_cons] at hc; omega)))) | (refine And.intro ?_ ?_; focus omega) | (refine And.intro ?_ ?_; focus (simp only [List.length_map, List.length_set, List.length_replicate, List.length_append, List.length_range, List.length_cons, List.length_nil, Nat.blt_eq, Nat.ble_eq]; omega)) | refine anyB fun b => ?_ | refine got (nth_rowI rfl) ?_ | refine got (nth_row0 rfl) ?_ | refine got (nth_row2 rfl) ?_ | fail)
  exact h
theorem Flush_spec (hp : Rem l (LogC p d v1 v2 v3 v4) F1) (hp2 : Rem F1 (Disk d now ks) F) (hpos : 0 < now.length) (hks : ks.length ≤ 1000000)
    (h : K (.int .i64 0) (LogC p d v1 v2 v3 v4 :: Disk d now [] :: F)) : CallG Tryz.prog w0 149 [.pointer (some ⟨p, 0, none⟩)].toArray l K := by
  refine CallG.ent (hp.ent.trans (Ent.cons _ hp2.ent)) ?_
  refine CallG.weak (CallG.enter Tryz.func149 rfl rfl fun cs => ?_)
  repeat' (first | refine step ?_ | refine knowI fun hk => ?_ | refine got rfl ?_ | refine And.intro rfl ?_ | (refine And.intro (fun hc => ?_) (fun hc => ?_) <;> (try (exfalso; first | omega | (simp only [List.length_nil, List.length_cons] at hc; omega)))) | (refine And.intro ?_ ?_; focus omega) | (refine And.intro ?_ ?_; focus (simp only [List.length_map, List.length_set, List.length_replicate, List.length_append, List.length_range, List.length_cons, List.length_nil, Nat.blt_eq, Nat.ble_eq]; omega)) | refine anyB fun b => ?_ | refine got (nth_rowI rfl) ?_ | refine got (nth_row0 rfl) ?_ | refine got (nth_row2 rfl) ?_ | fail)
  refine given_spec .here ?_
  repeat' (first | refine step ?_ | refine knowI fun hk => ?_ | refine got rfl ?_ | refine And.intro rfl ?_ | (refine And.intro (fun hc => ?_) (fun hc => ?_) <;> (try (exfalso; first | omega | (simp only [List.length_nil, List.length_cons] at hc; omega)))) | (refine And.intro ?_ ?_; focus omega) | (refine And.intro ?_ ?_; focus (simp only [List.length_map, List.length_set, List.length_replicate, List.length_append, List.length_range, List.length_cons, List.length_nil, Nat.blt_eq, Nat.ble_eq]; omega)) | refine anyB fun b => ?_ | refine got (nth_rowI rfl) ?_ | refine got (nth_row0 rfl) ?_ | refine got (nth_row2 rfl) ?_ | fail)
  refine Sync_spec (.there .here) ?_ hpos hks
  repeat' (first | refine step ?_ | refine knowI fun hk => ?_ | refine got rfl ?_ | refine And.intro rfl ?_ | (refine And.intro (fun hc => ?_) (fun hc => ?_) <;> (try (exfalso; first | omega | (simp only [List.length_nil, List.length_cons] at hc; omega)))) | (refine And.intro ?_ ?_; focus omega) | (refine And.intro ?_ ?_; focus (simp only [List.length_map, List.length_set, List.length_replicate, List.length_append, List.length_range, List.length_cons, List.length_nil, Nat.blt_eq, Nat.ble_eq]; omega)) | refine anyB fun b => ?_ | refine got (nth_rowI rfl) ?_ | refine got (nth_row0 rfl) ?_ | refine got (nth_row2 rfl) ?_ | fail)
  refine retG Tryz.func149 rfl ?_
  repeat' (first | refine step ?_ | refine knowI fun hk => ?_ | refine got rfl ?_ | refine And.intro rfl ?_ | (refine And.intro (fun hc => ?_) (fun hc => ?_) <;> (try (exfalso; first | omega | (simp only [List.length_nil, List.length_cons] at hc; omega)))) | (refine And.intro ?_ ?_; focus omega) | (refine And.intro ?_ ?_; focus (simp only [List.length_map, List.length_set, List.length_replicate, List.length_append, List.length_range, List.length_cons, List.length_nil, Nat.blt_eq, Nat.ble_eq]; omega)) | refine anyB fun b => ?_ | refine got (nth_rowI rfl) ?_ | refine got (nth_row0 rfl) ?_ | refine got (nth_row2 rfl) ?_ | fail)
  exact Wk.mk fin h
set_option maxRecDepth 8000 in
/-- a record more, where there is room -/
theorem Add_spec [Laid w0] {half gen : Int} {a : Option Addr} {cap : Nat} {recs : List (List UInt8)} {c r : List UInt8} (hr : r.length ≤ 32768) (hrc : recs.length ≤ 1000000) (hp : Rem l (LogC p d (.int .i64 gen) (.int .i64 half) (.slice a recs.length cap) (.int .i64 c.length)) F1) (hp2 : Rem F1 (Disk d now ks) F)
    {F2 : HL} (hp3 : Rem F (SlR (.slice a recs.length cap) 9 1 recs.length (recs.map str)) F2) (hn : 2 ≤ now.length ∧ now.length ≤ 16384) (hks : ks.length ≤ 800000)
    (hL : Lays now (fromOf now.length half) (toOf now.length half) c) (hroom : c.length + (frm r).length ≤ (toOf now.length half - fromOf now.length half) * 128)
    (h : ∀ now' ks' a' cap', now'.length = now.length → ks'.length ≤ ks.length + (frm r).length → Lays now' (fromOf now.length half) (toOf now.length half) (c ++ frm r) → (∀ k, k < fromOf now.length half ∨ toOf now.length half ≤ k → now'[k]? = now[k]?) →
      K (.int .i64 0) (LogC p d (.int .i64 gen) (.int .i64 half) (.slice a' (recs ++ [r]).length cap') (.int .i64 (c ++ frm r).length) :: Disk d now' ks' :: SlR (.slice a' (recs ++ [r]).length cap') 9 1 (recs ++ [r]).length ((recs ++ [r]).map str) :: F2)) :
    CallG Tryz.prog w0 148 [.pointer (some ⟨p, 0, none⟩), str r].toArray l K := by
  have hf := frm_length r
  have hh : toOf now.length half ≤ now.length ∧ fromOf now.length half ≤ toOf now.length half := by
    unfold fromOf toOf; split <;> omega
  refine CallG.ent (hp.ent.trans (Ent.cons _ (hp2.ent.trans (Ent.cons _ hp3.ent)))) ?_
  refine CallG.weak (CallG.enter Tryz.func148 rfl rfl fun cs => ?_)
  repeat' (first | refine step ?_ | refine knowI fun hk => ?_ | refine got rfl ?_ | refine And.intro rfl ?_ | (refine And.intro (fun hc => ?_) (fun hc => ?_) <;> (try (exfalso; first | omega | (simp only [List.length_nil, List.length_cons] at hc; omega)))) | (refine And.intro ?_ ?_; focus omega) | (refine And.intro ?_ ?_; focus (simp only [List.length_map, List.length_set, List.length_replicate, List.length_append, List.length_range, List.length_cons, List.length_nil, Nat.blt_eq, Nat.ble_eq]; omega)) | refine anyB fun b => ?_ | refine got (nth_rowI rfl) ?_ | refine got (nth_row0 rfl) ?_ | refine got (nth_row2 rfl) ?_ | fail)
  refine given_spec .here ?_
  repeat' (first | refine step ?_ | refine knowI fun hk => ?_ | refine got rfl ?_ | refine And.intro rfl ?_ | (refine And.intro (fun hc => ?_) (fun hc => ?_) <;> (try (exfalso; first | omega | (simp only [List.length_nil, List.length_cons] at hc; omega)))) | (refine And.intro ?_ ?_; focus omega) | (refine And.intro ?_ ?_; focus (simp only [List.length_map, List.length_set, List.length_replicate, List.length_append, List.length_range, List.length_cons, List.length_nil, Nat.blt_eq, Nat.ble_eq]; omega)) | refine anyB fun b => ?_ | refine got (nth_rowI rfl) ?_ | refine got (nth_row0 rfl) ?_ | refine got (nth_row2 rfl) ?_ | fail)
  refine frames_one hr .here ?_
  repeat' (first | refine step ?_ | refine knowI fun hk => ?_ | refine got rfl ?_ | refine And.intro rfl ?_ | (refine And.intro (fun hc => ?_) (fun hc => ?_) <;> (try (exfalso; first | omega | (simp only [List.length_nil, List.length_cons] at hc; omega)))) | (refine And.intro ?_ ?_; focus omega) | (refine And.intro ?_ ?_; focus (simp only [List.length_map, List.length_set, List.length_replicate, List.length_append, List.length_range, List.length_cons, List.length_nil, Nat.blt_eq, Nat.ble_eq]; omega)) | refine anyB fun b => ?_ | refine got (nth_rowI rfl) ?_ | refine got (nth_row0 rfl) ?_ | refine got (nth_row2 rfl) ?_ | fail)
  refine Room_spec (by omega) (by omega) .here .here hn ?_
  repeat' (first | refine step ?_ | refine knowI fun hk => ?_ | refine got rfl ?_ | refine And.intro rfl ?_ | (refine And.intro (fun hc => ?_) (fun hc => ?_) <;> (try (exfalso; first | omega | (simp only [List.length_nil, List.length_cons] at hc; omega)))) | (refine And.intro ?_ ?_; focus omega) | (refine And.intro ?_ ?_; focus (simp only [List.length_map, List.length_set, List.length_replicate, List.length_append, List.length_range, List.length_cons, List.length_nil, Nat.blt_eq, Nat.ble_eq]; omega)) | refine anyB fun b => ?_ | refine got (nth_rowI rfl) ?_ | refine got (nth_row0 rfl) ?_ | refine got (nth_row2 rfl) ?_ | fail)
  refine Run.drawI [0] rfl ?_
  repeat' (first | refine step ?_ | refine knowI fun hk => ?_ | refine got rfl ?_ | refine And.intro rfl ?_ | (refine And.intro (fun hc => ?_) (fun hc => ?_) <;> (try (exfalso; first | omega | (simp only [List.length_nil, List.length_cons] at hc; omega)))) | (refine And.intro ?_ ?_; focus omega) | (refine And.intro ?_ ?_; focus (simp only [List.length_map, List.length_set, List.length_replicate, List.length_append, List.length_range, List.length_cons, List.length_nil, Nat.blt_eq, Nat.ble_eq]; omega)) | refine anyB fun b => ?_ | refine got (nth_rowI rfl) ?_ | refine got (nth_row0 rfl) ?_ | refine got (nth_row2 rfl) ?_ | refine And.intro (keepS (by decide +kernel)) ?_ | refine And.intro keepR ?_ | refine RunD.done (by decide +kernel) ?_ | refine tk 0 rfl (by decide +kernel) ?_ | refine tk 1 rfl (by decide +kernel) ?_ | refine tk 2 rfl (by decide +kernel) ?_ | refine tk 3 rfl (by decide +kernel) ?_ | refine tk 4 rfl (by decide +kernel) ?_ | refine tk 5 rfl (by decide +kernel) ?_ | refine tk 6 rfl (by decide +kernel) ?_ | refine tk 7 rfl (by decide +kernel) ?_ | refine tk 8 rfl (by decide +kernel) ?_ | refine tk 9 rfl (by decide +kernel) ?_ | refine ef 10 (by decide +kernel) rfl ?_ | fail)
  refine writes_spec .here .here hn (by omega) hL hroom fun now' ks' i1 i2 i3 i4 => ?_
  repeat' (first | refine step ?_ | refine knowI fun hk => ?_ | refine got rfl ?_ | refine And.intro rfl ?_ | (refine And.intro (fun hc => ?_) (fun hc => ?_) <;> (try (exfalso; first | omega | (simp only [List.length_nil, List.length_cons] at hc; omega)))) | (refine And.intro ?_ ?_; focus omega) | (refine And.intro ?_ ?_; focus (simp only [List.length_map, List.length_set, List.length_replicate, List.length_append, List.length_range, List.length_cons, List.length_nil, Nat.blt_eq, Nat.ble_eq]; omega)) | refine anyB fun b => ?_ | refine got (nth_rowI rfl) ?_ | refine got (nth_row0 rfl) ?_ | refine got (nth_row2 rfl) ?_ | refine And.intro (keepS (by decide +kernel)) ?_ | refine And.intro keepR ?_ | refine RunD.done (by decide +kernel) ?_ | refine tk 0 rfl (by decide +kernel) ?_ | refine tk 1 rfl (by decide +kernel) ?_ | refine tk 2 rfl (by decide +kernel) ?_ | refine tk 3 rfl (by decide +kernel) ?_ | refine tk 4 rfl (by decide +kernel) ?_ | refine tk 5 rfl (by decide +kernel) ?_ | refine tk 6 rfl (by decide +kernel) ?_ | refine tk 7 rfl (by decide +kernel) ?_ | refine tk 8 rfl (by decide +kernel) ?_ | refine tk 9 rfl (by decide +kernel) ?_ | refine ef 10 (by decide +kernel) rfl ?_ | fail)
  repeat' (first | refine step ?_ | refine knowI fun hk => ?_ | refine got rfl ?_ | refine And.intro rfl ?_ | (refine And.intro (fun hc => ?_) (fun hc => ?_) <;> (try (exfalso; first | omega | (simp only [List.length_nil, List.length_cons] at hc; omega)))) | (refine And.intro ?_ ?_; focus omega) | (refine And.intro ?_ ?_; focus (simp only [List.length_map, List.length_set, List.length_replicate, List.length_append, List.length_range, List.length_cons, List.length_nil, Nat.blt_eq, Nat.ble_eq]; omega)) | refine anyB fun b => ?_ | refine got (nth_rowI rfl) ?_ | refine got (nth_row0 rfl) ?_ | refine got (nth_row2 rfl) ?_ | fail)
  refine appendG rfl (by decide) (by omega) fun a' cp' => ?_
  repeat' (first | refine step ?_ | refine knowI fun hk => ?_ | refine got rfl ?_ | refine And.intro rfl ?_ | (refine And.intro (fun hc => ?_) (fun hc => ?_) <;> (try (exfalso; first | omega | (simp only [List.length_nil, List.length_cons] at hc; omega)))) | (refine And.intro ?_ ?_; focus omega) | (refine And.intro ?_ ?_; focus (simp only [List.length_map, List.length_set, List.length_replicate, List.length_append, List.length_range, List.length_cons, List.length_nil, Nat.blt_eq, Nat.ble_eq]; omega)) | refine anyB fun b => ?_ | refine got (nth_rowI rfl) ?_ | refine got (nth_row0 rfl) ?_ | refine got (nth_row2 rfl) ?_ | fail)
  refine retG Tryz.func148 rfl ?_
  repeat' (first | refine step ?_ | refine knowI fun hk => ?_ | refine got rfl ?_ | refine And.intro rfl ?_ | (refine And.intro (fun hc => ?_) (fun hc => ?_) <;> (try (exfalso; first | omega | (simp only [List.length_nil, List.length_cons] at hc; omega)))) | (refine And.intro ?_ ?_; focus omega) | (refine And.intro ?_ ?_; focus (simp only [List.length_map, List.length_set, List.length_replicate, List.length_append, List.length_range, List.length_cons, List.length_nil, Nat.blt_eq, Nat.ble_eq]; omega)) | refine anyB fun b => ?_ | refine got (nth_rowI rfl) ?_ | refine got (nth_row0 rfl) ?_ | refine got (nth_row2 rfl) ?_ | fail)
  have hh2 := h now' ks' a' cp' i1 i2 i3 i4
  simp only [List.length_append, List.length_singleton, List.map_append, List.map_cons, List.map_nil, Int.natCast_add] at hh2
  exact Wk.mk fin hh2
theorem CloneStr_nil {n c : Nat} (h : K (.slice none 0 0) l) : CallG Tryz.prog w0 134 [.slice none n c].toArray l K := by
  refine CallG.enter Tryz.func134 rfl rfl fun cs => ?_
  repeat' (first | refine step ?_ | refine knowI fun hk => ?_ | refine got rfl ?_ | refine And.intro rfl ?_ | (refine And.intro (fun hc => ?_) (fun hc => ?_) <;> (try (exfalso; first | omega | (simp only [List.length_nil, List.length_cons] at hc; omega)))) | (refine And.intro ?_ ?_; focus omega) | (refine And.intro ?_ ?_; focus (simp only [List.length_map, List.length_set, List.length_replicate, List.length_append, List.length_range, List.length_cons, List.length_nil, Nat.blt_eq, Nat.ble_eq]; omega)) | refine anyB fun b => ?_ | refine got (nth_rowI rfl) ?_ | refine got (nth_row0 rfl) ?_ | refine got (nth_row2 rfl) ?_ | fail)
  refine retG Tryz.func134 rfl ?_
  repeat' (first | refine step ?_ | refine knowI fun hk => ?_ | refine got rfl ?_ | refine And.intro rfl ?_ | (refine And.intro (fun hc => ?_) (fun hc => ?_) <;> (try (exfalso; first | omega | (simp only [List.length_nil, List.length_cons] at hc; omega)))) | (refine And.intro ?_ ?_; focus omega) | (refine And.intro ?_ ?_; focus (simp only [List.length_map, List.length_set, List.length_replicate, List.length_append, List.length_range, List.length_cons, List.length_nil, Nat.blt_eq, Nat.ble_eq]; omega)) | refine anyB fun b => ?_ | refine got (nth_rowI rfl) ?_ | refine got (nth_row0 rfl) ?_ | refine got (nth_row2 rfl) ?_ | fail)
  exact h
theorem All_nil {n c : Nat} (hp : Rem l (LogC p d v1 v2 (.slice none n c) v4) F) (h : K (.slice none 0 0) (LogC p d v1 v2 (.slice none n c) v4 :: F)) : CallG Tryz.prog w0 92 [.pointer (some ⟨p, 0, none⟩)].toArray l K := by
  refine CallG.ent hp.ent ?_
  refine CallG.enter Tryz.func92 rfl rfl fun cs => ?_
  repeat' (first | refine step ?_ | refine knowI fun hk => ?_ | refine got rfl ?_ | refine And.intro rfl ?_ | (refine And.intro (fun hc => ?_) (fun hc => ?_) <;> (try (exfalso; first | omega | (simp only [List.length_nil, List.length_cons] at hc; omega)))) | (refine And.intro ?_ ?_; focus omega) | (refine And.intro ?_ ?_; focus (simp only [List.length_map, List.length_set, List.length_replicate, List.length_append, List.length_range, List.length_cons, List.length_nil, Nat.blt_eq, Nat.ble_eq]; omega)) | refine anyB fun b => ?_ | refine got (nth_rowI rfl) ?_ | refine got (nth_row0 rfl) ?_ | refine got (nth_row2 rfl) ?_ | fail)
  refine given_spec .here ?_
  repeat' (first | refine step ?_ | refine knowI fun hk => ?_ | refine got rfl ?_ | refine And.intro rfl ?_ | (refine And.intro (fun hc => ?_) (fun hc => ?_) <;> (try (exfalso; first | omega | (simp only [List.length_nil, List.length_cons] at hc; omega)))) | (refine And.intro ?_ ?_; focus omega) | (refine And.intro ?_ ?_; focus (simp only [List.length_map, List.length_set, List.length_replicate, List.length_append, List.length_range, List.length_cons, List.length_nil, Nat.blt_eq, Nat.ble_eq]; omega)) | refine anyB fun b => ?_ | refine got (nth_rowI rfl) ?_ | refine got (nth_row0 rfl) ?_ | refine got (nth_row2 rfl) ?_ | fail)
  refine CloneStr_nil ?_
  repeat' (first | refine step ?_ | refine knowI fun hk => ?_ | refine got rfl ?_ | refine And.intro rfl ?_ | (refine And.intro (fun hc => ?_) (fun hc => ?_) <;> (try (exfalso; first | omega | (simp only [List.length_nil, List.length_cons] at hc; omega)))) | (refine And.intro ?_ ?_; focus omega) | (refine And.intro ?_ ?_; focus (simp only [List.length_map, List.length_set, List.length_replicate, List.length_append, List.length_range, List.length_cons, List.length_nil, Nat.blt_eq, Nat.ble_eq]; omega)) | refine anyB fun b => ?_ | refine got (nth_rowI rfl) ?_ | refine got (nth_row0 rfl) ?_ | refine got (nth_row2 rfl) ?_ | fail)
  refine retG Tryz.func92 rfl ?_
  repeat' (first | refine step ?_ | refine knowI fun hk => ?_ | refine got rfl ?_ | refine And.intro rfl ?_ | (refine And.intro (fun hc => ?_) (fun hc => ?_) <;> (try (exfalso; first | omega | (simp only [List.length_nil, List.length_cons] at hc; omega)))) | (refine And.intro ?_ ?_; focus omega) | (refine And.intro ?_ ?_; focus (simp only [List.length_map, List.length_set, List.length_replicate, List.length_append, List.length_range, List.length_cons, List.length_nil, Nat.blt_eq, Nat.ble_eq]; omega)) | refine anyB fun b => ?_ | refine got (nth_rowI rfl) ?_ | refine got (nth_row0 rfl) ?_ | refine got (nth_row2 rfl) ?_ | fail)
  exact h
end
end Go.Sl
