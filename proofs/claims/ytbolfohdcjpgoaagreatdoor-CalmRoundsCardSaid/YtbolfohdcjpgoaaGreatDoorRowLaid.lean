/- What a row's list of package-level variables gives; what a walk gives a row. -/
import Derived.Test.YtbolfohdcjpgoaaGreatDoorCards
import Derived.Test.YtbolfohdcjpgoaaGreatDoorTie
import Derived.Test.YtbolfohdcjpgoaaGreatDoorStrs
import Derived.WalkKit
import Derived.ProofKit
import Derived.OpenShut
import Derived.LaidMore
import Derived.Deep.DeepHandedRow
import Derived.Deep.DeepWitnessRowRef
import Derived.Lib.LaidTab
import Derived.Carry
set_option linter.unusedSimpArgs false
set_option linter.unusedVariables false
set_option linter.unusedSectionVars false
open Go Go.RowKit
namespace Go.Proofs.YtbolfohdcjpgoaaGreatDoor
open Go.ChangeShapes Go.WideShapes Go.ChangeAt Go.RowKit Go.Sl
theorem own : ownKnob Tryz.prog.godebug = none := by kernel_rfl
theorem laidOut : laidOutB Tryz.prog = true := by kernel_rfl
theorem gPow : (Tryz.prog).globalNamed "internal/strconv.uint64pow10" = some 0 := by kernel_rfl
theorem gBru : (Tryz.prog).globalNamed "math/bits.deBruijn64tab" = some 4 := by kernel_rfl
abbrev laid5 : List (String × DataW Unit) := Rows.calmRoundsRow.laid
theorem tab_of {W : World} {name : String} {k : IntKind} {zs : List Int} {g g' : Nat} {t t' e : TypeId} {n fuel base : Nat} {sp : Nat → Bool} {held : Bool} {enc : TypeId × Value → Unit} {cs : Array Value} {p : List MemPlace} (hg : (Tryz.prog).globalNamed name = some g) (hty : ((Tryz.prog).globals[g]?).map (·.type) = some t) (ht : (Tryz.prog).underlying t = some (.array n e)) (he : (Tryz.prog).underlying e = some (.int k))
    (hce : (Tryz.prog).cellsOf e = 1) (hct : (Tryz.prog).cellsOf t = n) (hg' : (Tryz.prog).globalNamed name = some g') (ht' : ((Tryz.prog).globals[g']?).map (·.type) = some t') (hvar : W.var? Tryz.prog name = some cs) (hd : DataW.trod enc Tryz.prog W base sp held fuel t' cs.toList = some (Lib.tabData k zs, p)) : Lib.TabIs Tryz.prog W name k zs := by
  obtain rfl := Option.some.inj (hg.symm.trans hg')
  obtain rfl := Option.some.inj (hty.symm.trans ht')
  unfold Lib.TabIs
  rw [hvar, ← Lib.cells_of_tab ht he hce hct hd]
theorem laid_of {W : World} (h : laidMetH Tryz.prog laid5 W) : Laid W := by
  rw [MakeChecks.laidMetH_plain _ _ _ (by kernel_rfl)] at h
  obtain ⟨ps, ⟨g0, t0, cs0, f0, p0, q0, hg0, ht0, hv0, hd0, ⟨g1, t1, cs1, f1, p1, q1, hg1, ht1, hv1, hd1, ⟨g2, t2, cs2, f2, p2, q2, hg2, ht2, hv2, hd2, _, _⟩, _⟩, _⟩, _, _⟩ := h
  refine ⟨tab_of (t := 411) (e := 374) (n := 20) gPow (by kernel_rfl) (by kernel_rfl) (by kernel_rfl) (by kernel_rfl) (by kernel_rfl) hg2 ht2 hv2 hd2, ?_⟩
  have hb : Lib.TabIs Tryz.prog W "math/bits.deBruijn64tab" .u8 (bruTab.map fun z : Nat => (z : Int)) := tab_of (t := 426) (e := 5) (n := 64) gBru (by kernel_rfl) (by kernel_rfl) (by kernel_rfl) (by kernel_rfl) (by kernel_rfl) hg1 ht1 hv1 hd1
  unfold Lib.TabIs World.var? at hb
  rw [gBru] at hb
  simp only [Option.bind_some] at hb
  split at hb
  · rename_i cs T fz he
    refine ⟨T, fz, ?_⟩
    simp only [Option.some.injEq] at hb
    rw [he, hb, List.map_map]; rfl
  · cases hb
end Go.Proofs.YtbolfohdcjpgoaaGreatDoor
