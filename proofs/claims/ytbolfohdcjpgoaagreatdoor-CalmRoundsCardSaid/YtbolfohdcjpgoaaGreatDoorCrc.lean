/- The checksum (package crc), as a function on bytes; what lefts and Sum do. -/
import Derived.Test.YtbolfohdcjpgoaaGreatDoorFacts
import Derived.Test.YtbolfohdcjpgoaaGreatDoorSlC
import Derived.Test.YtbolfohdcjpgoaaGreatDoorStrs
set_option linter.unusedSimpArgs false
set_option linter.unusedVariables false
set_option linter.unusedSectionVars false
open Go Go.RowKit
namespace Go.Sl
open Go.Proofs
/-! ### the plain function -/
def left1 (n : Nat) : Nat := if 16777215 < n * 2 ^ 1 then (n * 2 ^ 1 &&& 16777215) ^^^ 8801531 else n * 2 ^ 1
def leftn : Nat → Nat → Nat
  | 0, n => n
  | j + 1, n => left1 (leftn j n)
theorem leftn_succ (j n : Nat) : leftn (j + 1) n = left1 (leftn j n) := rfl
def leftOf (k : Nat) : Nat := leftn 4 (k * 1048576)
def crcNib (n : Nat) : Nat := ((n * 2 ^ 4) &&& 16777215) ^^^ leftOf (n / 2 ^ 20)
def crcByte (n : Nat) (b : UInt8) : Nat := crcNib (crcNib (n ^^^ (b.toNat * 2 ^ 16)))
def crc (s : List UInt8) : Nat := s.foldl crcByte 11994318
theorem left1_lt {n : Nat} (h : n ≤ 16777215) : left1 n ≤ 16777215 := by
  unfold left1
  split
  · have h1 : (n * 2 ^ 1 &&& 16777215) < 2 ^ 24 := Nat.lt_of_le_of_lt Nat.and_le_right (by decide)
    have := Nat.xor_lt_two_pow h1 (show 8801531 < 2 ^ 24 by decide); omega
  · omega
theorem leftn_lt {n : Nat} (h : n ≤ 16777215) : ∀ j, leftn j n ≤ 16777215
  | 0 => h
  | j + 1 => left1_lt (leftn_lt h j)
theorem leftOf_lt {k : Nat} (h : k < 16) : leftOf k ≤ 16777215 := leftn_lt (by omega) 4
theorem crcNib_lt {n : Nat} (h : n ≤ 16777215) : crcNib n ≤ 16777215 := by
  unfold crcNib
  have h1 : (n * 2 ^ 4 &&& 16777215) < 2 ^ 24 := Nat.lt_of_le_of_lt Nat.and_le_right (by decide)
  have := leftOf_lt (k := n / 2 ^ 20) (by omega)
  have := Nat.xor_lt_two_pow h1 (show leftOf (n / 2 ^ 20) < 2 ^ 24 by omega); omega
theorem crcByte_lt {n : Nat} (b : UInt8) (h : n ≤ 16777215) : crcByte n b ≤ 16777215 := by
  unfold crcByte
  have hb := b.toNat_lt
  have := Nat.xor_lt_two_pow (n := 24) (show n < 2 ^ 24 by omega) (show b.toNat * 2 ^ 16 < 2 ^ 24 by omega)
  exact crcNib_lt (crcNib_lt (by omega))
theorem crcFold_lt : ∀ (s : List UInt8) (n : Nat), n ≤ 16777215 → s.foldl crcByte n ≤ 16777215
  | [], _, h => h
  | b :: s, n, h => crcFold_lt s _ (crcByte_lt b h)
theorem crc_lt (s : List UInt8) : crc s ≤ 16777215 := crcFold_lt s _ (by decide)
def leftsCells : List Value := (List.range 16).map fun k => .int .i64 (leftOf k)

theorem crc_step (s : List UInt8) (n i : Nat) (h : i < s.length) : (s.take (i + 1)).foldl crcByte n = crcByte ((s.take i).foldl crcByte n) (s[i]?.getD 0) := by
  rw [List.take_add_one, List.foldl_append]; simp [h]
theorem leftsCells_at {k : Nat} (h : k < 16) : leftsCells[k]? = some (.int .i64 (leftOf k)) := by simp [leftsCells, h]
def nibs : Nat → Nat → Nat
  | 0, n => n
  | j + 1, n => crcNib (nibs j n)
theorem nibs_lt {n : Nat} (h : n ≤ 16777215) : ∀ j, nibs j n ≤ 16777215
  | 0 => h
  | j + 1 => crcNib_lt (nibs_lt h j)
instance {s : List UInt8} {n : Nat} : NatC (bt s n) ((s[n]?.getD 0).toNat) := ⟨rfl⟩
section
variable {w0 : World} {l F : HL} {K : Value → HL → Prop}
set_option maxRecDepth 4000 in
theorem lefts_spec (h : K (.agg leftsCells.toArray) l) : CallG Tryz.prog w0 224 [].toArray l K := by
  refine CallG.weak (CallG.enter Tryz.func224 rfl rfl fun cs => ?_)
  repeat' (first | refine step ?_ | refine knowI fun hk => ?_ | refine got rfl ?_ | refine And.intro rfl ?_ | (refine And.intro (fun hc => ?_) (fun hc => ?_) <;> (try (exfalso; first | omega | (simp only [List.length_nil, List.length_cons] at hc; omega)))) | (refine And.intro ?_ ?_; focus omega) | (refine And.intro ?_ ?_; focus (simp only [List.length_map, List.length_set, List.length_replicate, List.length_append, List.length_range, List.length_cons, List.length_nil, Nat.blt_eq, Nat.ble_eq]; omega)) | refine anyB fun b => ?_ | refine got (nth_rowI rfl) ?_ | refine got (nth_row0 rfl) ?_ | refine got (nth_row2 rfl) ?_ | fail)
  rename_i b0
  refine Run.loop (fun k : Nat => [(0, .pointer (some ⟨b0, 0, none⟩)), (1, .pointer (some ⟨b, 0, none⟩)), (4, .int .i64 k)])
    (fun k => cells b ((List.range k).map (fun k => Value.int .i64 (leftOf k)) ++ List.replicate (16 - k) (.int .i64 0)) 358 :: cells b0 (List.replicate 16 (.int .i64 0)) 358 :: l)
    (fun k => k ≤ 16) (fun k => 16 - k) 0 (by omega) (by repeat (first | exact Sub.nil _ | refine Sub.cons rfl ?_)) (Ent.refl _) ?_
  intro k hk ih
  by_cases hlt : k < 16
  · repeat' (first | refine step ?_ | refine knowI fun hk => ?_ | refine got rfl ?_ | refine And.intro rfl ?_ | (refine And.intro (fun hc => ?_) (fun hc => ?_) <;> (try (exfalso; first | omega | (simp only [List.length_nil, List.length_cons] at hc; omega)))) | (refine And.intro ?_ ?_; focus omega) | (refine And.intro ?_ ?_; focus (simp only [List.length_map, List.length_set, List.length_replicate, List.length_append, List.length_range, List.length_cons, List.length_nil, Nat.blt_eq, Nat.ble_eq]; omega)) | refine anyB fun b => ?_ | refine got (nth_rowI rfl) ?_ | refine got (nth_row0 rfl) ?_ | refine got (nth_row2 rfl) ?_ | fail)
    have e0 : leftn 0 (k * 1048576) = k * 1048576 := rfl
    refine Run.loop (fun j : Nat => [(0, .pointer (some ⟨b0, 0, none⟩)), (1, .pointer (some ⟨b, 0, none⟩)), (4, .int .i64 k), (2, .int .i64 k), (3, .int .i64 (leftn j (k * 1048576))), (9, .int .i64 j)])
      (fun _ => cells b ((List.range k).map (fun k => Value.int .i64 (leftOf k)) ++ List.replicate (16 - k) (.int .i64 0)) 358 :: cells b0 (List.replicate 16 (.int .i64 0)) 358 :: l)
      (fun j => j ≤ 4) (fun j => 4 - j) 0 (by omega) (by repeat (first | exact Sub.nil _ | refine Sub.cons rfl ?_ | refine Sub.ci rfl (by omega) ?_)) (Ent.refl _) ?_
    intro j hj ih2
    have hb := leftn_lt (n := k * 1048576) (by omega) j
    have e1 := leftn_succ j (k * 1048576)
    generalize hm : leftn j (k * 1048576) = m at *
    unfold left1 at e1
    by_cases hlt2 : j < 4
    · repeat' (first | refine step ?_ | refine knowI fun hk => ?_ | refine got rfl ?_ | refine And.intro rfl ?_ | (refine And.intro (fun hc => ?_) (fun hc => ?_) <;> (try (exfalso; first | omega | (simp only [List.length_nil, List.length_cons] at hc; omega)))) | (refine And.intro ?_ ?_; focus omega) | (refine And.intro ?_ ?_; focus (simp only [List.length_map, List.length_set, List.length_replicate, List.length_append, List.length_range, List.length_cons, List.length_nil, Nat.blt_eq, Nat.ble_eq]; omega)) | refine anyB fun b => ?_ | refine got (nth_rowI rfl) ?_ | refine got (nth_row0 rfl) ?_ | refine got (nth_row2 rfl) ?_ | fail)
      · rw [if_pos (by omega)] at e1
        refine Run.sub ?_ (ih2 (j + 1) (by omega) (by omega))
        exact (by repeat (first | exact Sub.nil _ | refine Sub.cons rfl ?_ | refine Sub.ci rfl (by omega) ?_))
      · rw [if_neg (by omega)] at e1
        refine Run.sub ?_ (ih2 (j + 1) (by omega) (by omega))
        exact (by repeat (first | exact Sub.nil _ | refine Sub.cons rfl ?_ | refine Sub.ci rfl (by omega) ?_))
    · obtain rfl : j = 4 := by omega
      repeat' (first | refine step ?_ | refine knowI fun hk => ?_ | refine got rfl ?_ | refine And.intro rfl ?_ | (refine And.intro (fun hc => ?_) (fun hc => ?_) <;> (try (exfalso; first | omega | (simp only [List.length_nil, List.length_cons] at hc; omega)))) | (refine And.intro ?_ ?_; focus omega) | (refine And.intro ?_ ?_; focus (simp only [List.length_map, List.length_set, List.length_replicate, List.length_append, List.length_range, List.length_cons, List.length_nil, Nat.blt_eq, Nat.ble_eq]; omega)) | refine anyB fun b => ?_ | refine got (nth_rowI rfl) ?_ | refine got (nth_row0 rfl) ?_ | refine got (nth_row2 rfl) ?_ | fail)
      refine Run.sub ?_ (Run.ent (Ent.cellsEq ?_ (.refl _)) (ih (k + 1) (by omega) (by omega)))
      · exact (by repeat (first | exact Sub.nil _ | refine Sub.cons rfl ?_ | refine Sub.ci rfl (by omega) ?_))
      · rw [← hm, List.range_succ, List.map_append, show 16 - k = (16 - (k + 1)) + 1 by omega, List.replicate_succ]
        simp [leftOf]
  · obtain rfl : k = 16 := by omega
    repeat' (first | refine step ?_ | refine knowI fun hk => ?_ | refine got rfl ?_ | refine And.intro rfl ?_ | (refine And.intro (fun hc => ?_) (fun hc => ?_) <;> (try (exfalso; first | omega | (simp only [List.length_nil, List.length_cons] at hc; omega)))) | (refine And.intro ?_ ?_; focus omega) | (refine And.intro ?_ ?_; focus (simp only [List.length_map, List.length_set, List.length_replicate, List.length_append, List.length_range, List.length_cons, List.length_nil, Nat.blt_eq, Nat.ble_eq]; omega)) | refine anyB fun b => ?_ | refine got (nth_rowI rfl) ?_ | refine got (nth_row0 rfl) ?_ | refine got (nth_row2 rfl) ?_ | fail)
    refine retG Tryz.func224 rfl ?_
    repeat' (first | refine step ?_ | refine knowI fun hk => ?_ | refine got rfl ?_ | refine And.intro rfl ?_ | (refine And.intro (fun hc => ?_) (fun hc => ?_) <;> (try (exfalso; first | omega | (simp only [List.length_nil, List.length_cons] at hc; omega)))) | (refine And.intro ?_ ?_; focus omega) | (refine And.intro ?_ ?_; focus (simp only [List.length_map, List.length_set, List.length_replicate, List.length_append, List.length_range, List.length_cons, List.length_nil, Nat.blt_eq, Nat.ble_eq]; omega)) | refine anyB fun b => ?_ | refine got (nth_rowI rfl) ?_ | refine got (nth_row0 rfl) ?_ | refine got (nth_row2 rfl) ?_ | fail)
    refine Wk.mk fin (l' := l) ?_
    rw [show (List.map (fun k => Value.int IntKind.i64 (leftOf k)) (List.range 16) ++ List.replicate (16 - 16) (Value.int IntKind.i64 0)) = leftsCells by simp [leftsCells],
      cut_full (c := leftsCells) (by simp [leftsCells]), lay_full (by simp [leftsCells]), cut_full (by simp [leftsCells])]
    exact h

theorem Sum_spec {s : List UInt8} (hl : s.length ≤ 4611686018427387904) (h : K (.int .i64 (crc s)) l) : CallG Tryz.prog w0 198 [str s].toArray l K := by
  refine CallG.weak (CallG.enter Tryz.func198 rfl rfl fun cs => ?_)
  repeat' (first | refine step ?_ | refine knowI fun hk => ?_ | refine got rfl ?_ | refine And.intro rfl ?_ | (refine And.intro (fun hc => ?_) (fun hc => ?_) <;> (try (exfalso; first | omega | (simp only [List.length_nil, List.length_cons] at hc; omega)))) | (refine And.intro ?_ ?_; focus omega) | (refine And.intro ?_ ?_; focus (simp only [List.length_map, List.length_set, List.length_replicate, List.length_append, List.length_range, List.length_cons, List.length_nil, Nat.blt_eq, Nat.ble_eq]; omega)) | refine anyB fun b => ?_ | refine got (nth_rowI rfl) ?_ | refine got (nth_row0 rfl) ?_ | refine got (nth_row2 rfl) ?_ | fail)
  refine lefts_spec ?_
  repeat' (first | refine step ?_ | refine knowI fun hk => ?_ | refine got rfl ?_ | refine And.intro rfl ?_ | (refine And.intro (fun hc => ?_) (fun hc => ?_) <;> (try (exfalso; first | omega | (simp only [List.length_nil, List.length_cons] at hc; omega)))) | (refine And.intro ?_ ?_; focus omega) | (refine And.intro ?_ ?_; focus (simp only [List.length_map, List.length_set, List.length_replicate, List.length_append, List.length_range, List.length_cons, List.length_nil, Nat.blt_eq, Nat.ble_eq]; omega)) | refine anyB fun b => ?_ | refine got (nth_rowI rfl) ?_ | refine got (nth_row0 rfl) ?_ | refine got (nth_row2 rfl) ?_ | fail)
  rw [lay_full (by simp [leftsCells])]
  refine Run.loop (fun i : Nat => [(0, str s), (3, .pointer (some ⟨b, 0, none⟩)), (4, .int .i64 ((s.take i).foldl crcByte 11994318 : Nat)), (8, .int .i64 s.length), (9, .int .i64 i)])
    (fun _ => cells b leftsCells 358 :: l) (fun i => i ≤ s.length) (fun i => s.length - i) 0 (by omega) (by repeat (first | exact Sub.nil _ | refine Sub.cons rfl ?_ | refine Sub.ci rfl (by omega) ?_)) (Ent.refl _) ?_
  intro i hi ih
  have hb := crcFold_lt (s.take i) 11994318 (by decide)
  have hs := crc_step s 11994318 i
  generalize hm : (s.take i).foldl crcByte 11994318 = m at *
  by_cases hlt : i < s.length
  · have hbt := bt_le s i
    have h8 := (s[i]?.getD 0).toNat_lt
    have hs := hs hlt
    repeat' (first | refine step ?_ | refine knowI fun hk => ?_ | refine got rfl ?_ | refine And.intro rfl ?_ | (refine And.intro (fun hc => ?_) (fun hc => ?_) <;> (try (exfalso; first | omega | (simp only [List.length_nil, List.length_cons] at hc; omega)))) | (refine And.intro ?_ ?_; focus omega) | (refine And.intro ?_ ?_; focus (simp only [List.length_map, List.length_set, List.length_replicate, List.length_append, List.length_range, List.length_cons, List.length_nil, Nat.blt_eq, Nat.ble_eq]; omega)) | refine anyB fun b => ?_ | refine got (nth_rowI rfl) ?_ | refine got (nth_row0 rfl) ?_ | refine got (nth_row2 rfl) ?_ | fail)
    have hx := Nat.xor_lt_two_pow (n := 24) (show m < 2 ^ 24 by omega) (show (s[i]?.getD 0).toNat * 2 ^ 16 < 2 ^ 24 by omega)
    generalize hx0 : m ^^^ (s[i]?.getD 0).toNat * 2 ^ 16 = m0 at *
    refine Run.loop (fun j : Nat => [(0, str s), (3, .pointer (some ⟨b, 0, none⟩)), (4, .int .i64 (nibs j m0)), (8, .int .i64 s.length), (9, .int .i64 i), (19, .int .i64 j)])
      (fun _ => cells b leftsCells 358 :: l) (fun j => j ≤ 2) (fun j => 2 - j) 0 (by omega) (by repeat (first | exact Sub.nil _ | refine Sub.cons rfl ?_ | refine Sub.ci rfl (by omega) ?_)) (Ent.refl _) ?_
    intro j hj ih2
    have hb2 := nibs_lt (show m0 ≤ 16777215 by omega) j
    have hn : nibs (j + 1) m0 = (nibs j m0 * 2 ^ 4 &&& 16777215) ^^^ leftOf (nibs j m0 / 2 ^ 20) := rfl
    generalize hm2 : nibs j m0 = m2 at *
    by_cases hlt2 : j < 2
    · repeat' (first | refine step ?_ | refine knowI fun hk => ?_ | refine got rfl ?_ | refine And.intro rfl ?_ | (refine And.intro (fun hc => ?_) (fun hc => ?_) <;> (try (exfalso; first | omega | (simp only [List.length_nil, List.length_cons] at hc; omega)))) | (refine And.intro ?_ ?_; focus omega) | (refine And.intro ?_ ?_; focus (simp only [List.length_map, List.length_set, List.length_replicate, List.length_append, List.length_range, List.length_cons, List.length_nil, Nat.blt_eq, Nat.ble_eq]; omega)) | refine anyB fun b => ?_ | refine got (nth_rowI rfl) ?_ | refine got (nth_row0 rfl) ?_ | refine got (nth_row2 rfl) ?_ | fail)
      have h16 := leftOf_lt (k := m2 / 2 ^ 20) (by omega)
      refine got (v := .int .i64 (leftOf (m2 / 2 ^ 20))) (by rw [nth_eq]; exact leftsCells_at (by omega)) ?_
      repeat' (first | refine step ?_ | refine knowI fun hk => ?_ | refine got rfl ?_ | refine And.intro rfl ?_ | (refine And.intro (fun hc => ?_) (fun hc => ?_) <;> (try (exfalso; first | omega | (simp only [List.length_nil, List.length_cons] at hc; omega)))) | (refine And.intro ?_ ?_; focus omega) | (refine And.intro ?_ ?_; focus (simp only [List.length_map, List.length_set, List.length_replicate, List.length_append, List.length_range, List.length_cons, List.length_nil, Nat.blt_eq, Nat.ble_eq]; omega)) | refine anyB fun b => ?_ | refine got (nth_rowI rfl) ?_ | refine got (nth_row0 rfl) ?_ | refine got (nth_row2 rfl) ?_ | fail)
      refine Run.sub ?_ (ih2 (j + 1) (by omega) (by omega))
      exact (by repeat (first | exact Sub.nil _ | refine Sub.cons rfl ?_ | refine Sub.ci rfl (by omega) ?_))
    · obtain rfl : j = 2 := by omega
      repeat' (first | refine step ?_ | refine knowI fun hk => ?_ | refine got rfl ?_ | refine And.intro rfl ?_ | (refine And.intro (fun hc => ?_) (fun hc => ?_) <;> (try (exfalso; first | omega | (simp only [List.length_nil, List.length_cons] at hc; omega)))) | (refine And.intro ?_ ?_; focus omega) | (refine And.intro ?_ ?_; focus (simp only [List.length_map, List.length_set, List.length_replicate, List.length_append, List.length_range, List.length_cons, List.length_nil, Nat.blt_eq, Nat.ble_eq]; omega)) | refine anyB fun b => ?_ | refine got (nth_rowI rfl) ?_ | refine got (nth_row0 rfl) ?_ | refine got (nth_row2 rfl) ?_ | fail)
      refine Run.sub ?_ (ih (i + 1) (by omega) (by omega))
      have e2 : crcByte m (s[i]?.getD 0) = m2 := by rw [← hm2, ← hx0]; rfl
      exact (by repeat (first | exact Sub.nil _ | refine Sub.cons rfl ?_ | refine Sub.ci rfl (by omega) ?_))
  · obtain rfl : i = s.length := by omega
    repeat' (first | refine step ?_ | refine knowI fun hk => ?_ | refine got rfl ?_ | refine And.intro rfl ?_ | (refine And.intro (fun hc => ?_) (fun hc => ?_) <;> (try (exfalso; first | omega | (simp only [List.length_nil, List.length_cons] at hc; omega)))) | (refine And.intro ?_ ?_; focus omega) | (refine And.intro ?_ ?_; focus (simp only [List.length_map, List.length_set, List.length_replicate, List.length_append, List.length_range, List.length_cons, List.length_nil, Nat.blt_eq, Nat.ble_eq]; omega)) | refine anyB fun b => ?_ | refine got (nth_rowI rfl) ?_ | refine got (nth_row0 rfl) ?_ | refine got (nth_row2 rfl) ?_ | fail)
    refine retG Tryz.func198 rfl ?_
    repeat' (first | refine step ?_ | refine knowI fun hk => ?_ | refine got rfl ?_ | refine And.intro rfl ?_ | (refine And.intro (fun hc => ?_) (fun hc => ?_) <;> (try (exfalso; first | omega | (simp only [List.length_nil, List.length_cons] at hc; omega)))) | (refine And.intro ?_ ?_; focus omega) | (refine And.intro ?_ ?_; focus (simp only [List.length_map, List.length_set, List.length_replicate, List.length_append, List.length_range, List.length_cons, List.length_nil, Nat.blt_eq, Nat.ble_eq]; omega)) | refine anyB fun b => ?_ | refine got (nth_rowI rfl) ?_ | refine got (nth_row0 rfl) ?_ | refine got (nth_row2 rfl) ?_ | fail)
    refine Wk.mk fin (l' := l) ?_
    rw [List.take_length] at hm
    simpa [one, crc, hm] using h
/-- a number of 24 bits as six digits -/
def hex6 (n : Nat) : List UInt8 := hexs 6 (n + 16777216)
theorem hex6_length (n : Nat) : (hex6 n).length = 6 := hexs_length _ 6
theorem Hex_spec [Laid w0] {n : Nat} (h0 : n ≤ 16777215) (h : K (.tuple #[str (hex6 n), .int .i64 0]) l) : CallG Tryz.prog w0 197 [.int .i64 n].toArray l K := by
  refine CallG.enter Tryz.func197 rfl rfl fun cs => ?_
  repeat' (first | refine step ?_ | refine knowI fun hk => ?_ | refine got rfl ?_ | refine And.intro rfl ?_ | (refine And.intro (fun hc => ?_) (fun hc => ?_) <;> (try (exfalso; first | omega | (simp only [List.length_nil, List.length_cons] at hc; omega)))) | (refine And.intro ?_ ?_; focus omega) | (refine And.intro ?_ ?_; focus (simp only [List.length_map, List.length_set, List.length_replicate, List.length_append, List.length_range, List.length_cons, List.length_nil, Nat.blt_eq, Nat.ble_eq]; omega)) | refine anyB fun b => ?_ | refine got (nth_rowI rfl) ?_ | refine got (nth_row0 rfl) ?_ | refine got (nth_row2 rfl) ?_ | fail)
  refine FormatInt_spec (n := n + 16777216) (by omega) (by omega) ?_
  have hl := hexs_length (n + 16777216) 7
  repeat' (first | refine step ?_ | refine knowI fun hk => ?_ | refine got rfl ?_ | refine And.intro rfl ?_ | (refine And.intro (fun hc => ?_) (fun hc => ?_) <;> (try (exfalso; first | omega | (simp only [List.length_nil, List.length_cons] at hc; omega)))) | (refine And.intro ?_ ?_; focus omega) | (refine And.intro ?_ ?_; focus (simp only [List.length_map, List.length_set, List.length_replicate, List.length_append, List.length_range, List.length_cons, List.length_nil, Nat.blt_eq, Nat.ble_eq]; omega)) | refine anyB fun b => ?_ | refine got (nth_rowI rfl) ?_ | refine got (nth_row0 rfl) ?_ | refine got (nth_row2 rfl) ?_ | fail)
  refine ret2 Tryz.func197 rfl ?_
  repeat' (first | refine step ?_ | refine knowI fun hk => ?_ | refine got rfl ?_ | refine And.intro rfl ?_ | (refine And.intro (fun hc => ?_) (fun hc => ?_) <;> (try (exfalso; first | omega | (simp only [List.length_nil, List.length_cons] at hc; omega)))) | (refine And.intro ?_ ?_; focus omega) | (refine And.intro ?_ ?_; focus (simp only [List.length_map, List.length_set, List.length_replicate, List.length_append, List.length_range, List.length_cons, List.length_nil, Nat.blt_eq, Nat.ble_eq]; omega)) | refine anyB fun b => ?_ | refine got (nth_rowI rfl) ?_ | refine got (nth_row0 rfl) ?_ | refine got (nth_row2 rfl) ?_ | fail)
  have : (((hexs 7 (n + 16777216)).length : Int) - 6).toNat = 1 := by omega
  rw [this]; exact h
/-- where a name stands -/
def spot (kind : List UInt8) (a b : Int) : Nat := crc (kind ++ [47] ++ itoa a ++ [47] ++ itoa b)
theorem spot_lt (kind : List UInt8) (a b : Int) : spot kind a b ≤ 16777215 := crc_lt _
theorem Spot_spec [Laid w0] {kind : List UInt8} {a b : Int} (hk : kind.length ≤ 1000000) (ha0 : -9223372036854775808 ≤ a) (ha1 : a ≤ 9223372036854775807) (hb0 : -9223372036854775808 ≤ b) (hb1 : b ≤ 9223372036854775807)
    (h : K (.int .i64 (spot kind a b)) l) : CallG Tryz.prog w0 213 [str kind, .int .i64 a, .int .i64 b].toArray l K := by
  have h1 := itoa_len ha0 ha1
  have h2 := itoa_len hb0 hb1
  refine CallG.enter Tryz.func213 rfl rfl fun cs => ?_
  repeat' (first | refine step ?_ | refine knowI fun hk => ?_ | refine got rfl ?_ | refine And.intro rfl ?_ | (refine And.intro (fun hc => ?_) (fun hc => ?_) <;> (try (exfalso; first | omega | (simp only [List.length_nil, List.length_cons] at hc; omega)))) | (refine And.intro ?_ ?_; focus omega) | (refine And.intro ?_ ?_; focus (simp only [List.length_map, List.length_set, List.length_replicate, List.length_append, List.length_range, List.length_cons, List.length_nil, Nat.blt_eq, Nat.ble_eq]; omega)) | refine anyB fun b => ?_ | refine got (nth_rowI rfl) ?_ | refine got (nth_row0 rfl) ?_ | refine got (nth_row2 rfl) ?_ | fail)
  refine Itoa_spec ha0 ha1 ?_
  repeat' (first | refine step ?_ | refine knowI fun hk => ?_ | refine got rfl ?_ | refine And.intro rfl ?_ | (refine And.intro (fun hc => ?_) (fun hc => ?_) <;> (try (exfalso; first | omega | (simp only [List.length_nil, List.length_cons] at hc; omega)))) | (refine And.intro ?_ ?_; focus omega) | (refine And.intro ?_ ?_; focus (simp only [List.length_map, List.length_set, List.length_replicate, List.length_append, List.length_range, List.length_cons, List.length_nil, Nat.blt_eq, Nat.ble_eq]; omega)) | refine anyB fun b => ?_ | refine got (nth_rowI rfl) ?_ | refine got (nth_row0 rfl) ?_ | refine got (nth_row2 rfl) ?_ | fail)
  refine Itoa_spec hb0 hb1 ?_
  repeat' (first | refine step ?_ | refine knowI fun hk => ?_ | refine got rfl ?_ | refine And.intro rfl ?_ | (refine And.intro (fun hc => ?_) (fun hc => ?_) <;> (try (exfalso; first | omega | (simp only [List.length_nil, List.length_cons] at hc; omega)))) | (refine And.intro ?_ ?_; focus omega) | (refine And.intro ?_ ?_; focus (simp only [List.length_map, List.length_set, List.length_replicate, List.length_append, List.length_range, List.length_cons, List.length_nil, Nat.blt_eq, Nat.ble_eq]; omega)) | refine anyB fun b => ?_ | refine got (nth_rowI rfl) ?_ | refine got (nth_row0 rfl) ?_ | refine got (nth_row2 rfl) ?_ | fail)
  refine Sum_spec (by simp only [List.length_append, List.length_singleton]; omega) ?_
  repeat' (first | refine step ?_ | refine knowI fun hk => ?_ | refine got rfl ?_ | refine And.intro rfl ?_ | (refine And.intro (fun hc => ?_) (fun hc => ?_) <;> (try (exfalso; first | omega | (simp only [List.length_nil, List.length_cons] at hc; omega)))) | (refine And.intro ?_ ?_; focus omega) | (refine And.intro ?_ ?_; focus (simp only [List.length_map, List.length_set, List.length_replicate, List.length_append, List.length_range, List.length_cons, List.length_nil, Nat.blt_eq, Nat.ble_eq]; omega)) | refine anyB fun b => ?_ | refine got (nth_rowI rfl) ?_ | refine got (nth_row0 rfl) ?_ | refine got (nth_row2 rfl) ?_ | fail)
  refine ret1 Tryz.func213 rfl ?_
  repeat' (first | refine step ?_ | refine knowI fun hk => ?_ | refine got rfl ?_ | refine And.intro rfl ?_ | (refine And.intro (fun hc => ?_) (fun hc => ?_) <;> (try (exfalso; first | omega | (simp only [List.length_nil, List.length_cons] at hc; omega)))) | (refine And.intro ?_ ?_; focus omega) | (refine And.intro ?_ ?_; focus (simp only [List.length_map, List.length_set, List.length_replicate, List.length_append, List.length_range, List.length_cons, List.length_nil, Nat.blt_eq, Nat.ble_eq]; omega)) | refine anyB fun b => ?_ | refine got (nth_rowI rfl) ?_ | refine got (nth_row0 rfl) ?_ | refine got (nth_row2 rfl) ?_ | fail)
  exact h
end
end Go.Sl
