/- The row and the card of CalmRounds. -/
import Derived.Test.YtbolfohdcjpgoaaGreatDoorRowLaid
import Derived.Test.YtbolfohdcjpgoaaGreatDoorCalm4
set_option linter.unusedSimpArgs false
set_option linter.unusedVariables false
set_option linter.unusedSectionVars false
open Go Go.RowKit
namespace Go.Proofs.YtbolfohdcjpgoaaGreatDoor
open Go.ChangeShapes Go.WideShapes Go.ChangeAt Go.RowKit Go.Sl
/-- a struct of so many ints -/
def intsB (P : Program) (t n : Nat) : Bool := match P.underlying t with
  | some (.struct fs) => Nat.beq fs.size n && Nat.beq (P.cellsOf t) n && (List.range n).all fun i => match fs[i]? with
    | some f => Nat.beq f.offset i && Nat.beq (P.cellsOf f.type) 1 && (match P.underlying f.type with | some (.int .i64) => true | _ => false)
    | none => false
  | _ => false
theorem ints_of {H : Type} {enc : TypeId × Value → H} {P : Program} {W : World} {r : Reach} {b0 base : Nat} {sp : Nat → Bool} {held : Bool} {t n : Nat} {v : Value} {d : DataW H} {p : List MemPlace} (hB : intsB P t n = true)
    (hv : Value.okWide P W r b0 t v) (h : DataW.Trod enc P W base sp held t v d p) : ∃ cs : Array Value, v = .agg cs ∧ cs.size = n ∧ ∀ i, i < n → ∃ k, cs[i]? = some (.int .i64 k) := by
  unfold intsB at hB
  split at hB
  · rename_i fs hs
    simp only [Bool.and_eq_true] at hB
    obtain ⟨⟨h1, h2⟩, h3⟩ := hB
    have h1 := Nat.eq_of_beq_eq_true h1
    have h2 := Nat.eq_of_beq_eq_true h2
    obtain ⟨cs, rfl, hsz⟩ := okWide_struct hs hv
    refine ⟨cs, rfl, by omega, fun i hi => ?_⟩
    obtain ⟨fuel, hf⟩ := h
    obtain ⟨xs, m, _, _, hl, hxl, hall⟩ := DataW.trod_struct hs hf
    have h4 := List.all_eq_true.1 h3 i (by simpa using hi)
    split at h4
    · rename_i f hfi
      simp only [Bool.and_eq_true] at h4
      obtain ⟨⟨h5, h6⟩, h7⟩ := h4
      have h5 := Nat.eq_of_beq_eq_true h5
      have h6 := Nat.eq_of_beq_eq_true h6
      have ht := hall i f hfi
      rw [h5, h6] at ht
      have hx : i < xs.length := by omega
      rw [List.getElem?_eq_getElem hx] at ht
      split at h7
      · rename_i hu
        obtain ⟨k, hc, _, _⟩ := DataW.trod_int hu ht
        refine ⟨k, ?_⟩
        have := congrArg (fun z => z[0]?) hc
        simpa [Value.cells, List.getElem?_take, List.getElem?_drop] using this
      · cases h7
    · cases h4
  · cases hB
theorem row_of {cs : Array Value} (hsz : cs.size = 7) (h : ∀ i, i < 7 → ∃ k, cs[i]? = some (.int .i64 k)) : ∃ c : Cfg, cs = c.row.toArray := by
  obtain ⟨k0, h0⟩ := h 0 (by omega)
  obtain ⟨k1, h1⟩ := h 1 (by omega)
  obtain ⟨k2, h2⟩ := h 2 (by omega)
  obtain ⟨k3, h3⟩ := h 3 (by omega)
  obtain ⟨k4, h4⟩ := h 4 (by omega)
  obtain ⟨k5, h5⟩ := h 5 (by omega)
  obtain ⟨k6, h6⟩ := h 6 (by omega)
  refine ⟨⟨k0, k1, k2, k3, k4, k5, k6⟩, ?_⟩
  apply Array.ext_getElem?
  intro i
  match i with
  | 0 => exact h0
  | 1 => exact h1
  | 2 => exact h2
  | 3 => exact h3
  | 4 => exact h4
  | 5 => exact h5
  | 6 => exact h6
  | i + 7 => rw [Array.getElem?_eq_none (by omega), Array.getElem?_eq_none (by simp)]
theorem walk {W : World} (hL : Laid W) (c : Cfg) (a m : Int) : Calls Tryz.prog 3 #[.agg c.row.toArray, .int .i64 a, .int .i64 m] W fun e w' => e = .returned (.bool true) ∧ Below W.heap.size W w' := by
  have hself : Sat W W [] := ⟨rfl, rfl, rfl, Nat.le_refl _, Nat.le_refl _, fun _ _ => rfl, fun _ => none, by simp, trivial⟩
  refine (law_spec (w0 := W) (l := []) (K := fun v _ => v = .bool true) (c := c) (a := a) (m := m) rfl W hself).mono ?_
  rintro e w' ⟨v, l', rfl, hs, rfl⟩
  exact ⟨rfl, hs.below⟩
set_option maxRecDepth 100000 in
theorem contract (H : Type) (enc : TypeId × Value → H) (W : World) (base : Nat) (args : Array Value) (ds gs : List (DataW H)) (before : List MemPlace)
    (hval : ∀ (j : Nat) t v, Tryz.f3.params[j]? = some t → args[j]? = some v → Value.okWide Tryz.prog W .any base t v)
    (hW : DataW.Whole enc Tryz.prog Tryz.f3.params.toList Rows.calmRoundsSpec.vars false W args.toList ds gs before) (hL : laidMetH Tryz.prog Rows.calmRoundsRow.laid W) :
    Calls Tryz.prog 3 args W fun e W' => ∃ v, e = .returned v ∧ Rows.calmRoundsSpec.post enc Tryz.prog Tryz.f3 false true false false W args v W' := by
  have hW' := hW
  obtain ⟨p, q, hA0, hV, rfl, hfz, hnd⟩ := hW
  have hA : DataW.TrodAll enc Tryz.prog W 0 (fun _ => true) true Tryz.f3.params.toList args.toList ds p := hA0
  rw [Tryz.params3] at hA hval
  obtain ⟨v0, vs0, d0, ds0, p0, q0, hargs, rfl, rfl, h0, r0⟩ := trodAll_cons hA
  obtain ⟨v1, vs1, d1, ds1, p1, q1, rfl, rfl, rfl, h1, r1⟩ := trodAll_cons r0
  obtain ⟨v2, vs2, d2, ds2, p2, q2, rfl, rfl, rfl, h2, r2⟩ := trodAll_cons r1
  obtain ⟨rfl, rfl, rfl⟩ := trodAll_nil r2
  obtain rfl : args = #[v0, v1, v2] := by cases args; simp_all
  obtain ⟨rfl, rfl⟩ := trodVars_none hV
  have hlt : ∀ y ∈ p0 ++ (p1 ++ (p2 ++ [])) ++ [], y.block < W.heap.size := fun y hy => by simpa using hW'.lt y hy
  have lt0 : ∀ y ∈ p0, y.block < W.heap.size := fun y hy => hlt y (by simp [hy])
  have lt1 : ∀ y ∈ p1, y.block < W.heap.size := fun y hy => hlt y (by simp [hy])
  have lt2 : ∀ y ∈ p2, y.block < W.heap.size := fun y hy => hlt y (by simp [hy])
  obtain ⟨cs, rfl, hsz, hint⟩ := ints_of (n := 7) (by kernel_rfl) (hval 0 23 v0 rfl rfl) h0
  obtain ⟨c, rfl⟩ := row_of hsz hint
  have h1k := h1
  have h2k := h2
  obtain ⟨x, rfl, rfl, rfl, wx⟩ := open_int Tryz.underlying3 (hval 1 3 v1 rfl rfl) h1
  obtain ⟨y, rfl, rfl, rfl, wy⟩ := open_int Tryz.underlying3 (hval 2 3 v2 rfl rfl) h2
  refine (walk (laid_of hL) c x y).mono fun e W' ⟨he, hn⟩ => ?_
  subst he
  have a0 := Below.trod laidOut (by kernel_rfl) (of_decide_eq_true (by kernel_rfl)) h0 hn lt0
  have a1 := Below.trod laidOut (by kernel_rfl) (of_decide_eq_true (by kernel_rfl)) h1k hn lt1
  have a2 := Below.trod laidOut (by kernel_rfl) (of_decide_eq_true (by kernel_rfl)) h2k hn lt2
  exact ⟨_, rfl, _, _, _, [], _, [], hW', trodAll_mk1 (shut_bool Tryz.underlying4 _), trodAll_cons_mk a0 (trodAll_cons_mk a1 (trodAll_cons_mk a2 trodAll_mk0)), rfl, hn.frame _, fun h => by cases h⟩
end Go.Proofs.YtbolfohdcjpgoaaGreatDoor
