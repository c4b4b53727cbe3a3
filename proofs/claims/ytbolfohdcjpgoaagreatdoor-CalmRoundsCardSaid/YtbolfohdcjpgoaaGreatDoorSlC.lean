/- The steps of a walk: bits, conversions, results that lie in memory, a loop run as it stands. -/
import Derived.Test.YtbolfohdcjpgoaaGreatDoorSlB
import Derived.Sort.Grow
import Derived.Laws.IdiomStrings
import Derived.Deep.Draws
import Derived.MapKept
set_option linter.unusedSimpArgs false
set_option linter.unusedVariables false
set_option linter.unusedSectionVars false
open Go Go.RowKit
namespace Go.Sl
section
variable {P : Program} {w0 : World} {e : Env} {l : HL} {ty t : TypeId} {x y : Operand} {a b : Int} {K : Value → Prop}
theorem ofInt_toNat {a : Int} (h0 : 0 ≤ a) (h1 : a ≤ 9223372036854775807) : (BitVec.ofInt 64 a).toNat = a.toNat := by
  rw [BitVec.toNat_ofInt]; omega
theorem back_nat {n : Nat} (h : n ≤ 9223372036854775807) : IntKind.i64.wrap (n : Int) = n := wrap_in ⟨by omega, by omega⟩
theorem intBits_and (a b : Int) : Op.intBits .and .i64 a b = pure (.int .i64 (IntKind.i64.wrap ((BitVec.ofInt 64 a &&& BitVec.ofInt 64 b).toNat : Int))) := rfl
theorem intBits_xor (a b : Int) : Op.intBits .xor .i64 a b = pure (.int .i64 (IntKind.i64.wrap ((BitVec.ofInt 64 a ^^^ BitVec.ofInt 64 b).toNat : Int))) := rfl
theorem intBits_or (a b : Int) : Op.intBits .or .i64 a b = pure (.int .i64 (IntKind.i64.wrap ((BitVec.ofInt 64 a ||| BitVec.ofInt 64 b).toNat : Int))) := rfl
theorem and_le' {a b : Nat} : a &&& b ≤ a := Nat.and_le_left
theorem xor_lt63 {a b : Nat} (ha : a ≤ 9223372036854775807) (hb : b ≤ 9223372036854775807) : a ^^^ b ≤ 9223372036854775807 := by
  have := Nat.xor_lt_two_pow (n := 63) (x := a) (y := b) (by omega) (by omega); omega
theorem or_lt63 {a b : Nat} (ha : a ≤ 9223372036854775807) (hb : b ≤ 9223372036854775807) : a ||| b ≤ 9223372036854775807 := by
  have := Nat.or_lt_two_pow (n := 63) (x := a) (y := b) (by omega) (by omega); omega
end
/-- something that is known from here on -/
structure Know (p q : Prop) : Prop where
  h : p → q
theorem knowI {p q : Prop} (h : p → q) : Know p q := ⟨h⟩
/-- an integer that is a natural number -/
class NatC (i : Int) (n : outParam Nat) : Prop where
  h : i = (n : Int)
instance {n : Nat} : NatC (n : Int) n := ⟨rfl⟩
instance {a b : Int} {n m : Nat} [h1 : NatC a n] [h2 : NatC b m] : NatC (a + b) (n + m) := ⟨by rw [h1.h, h2.h]; simp⟩
instance {a b : Int} {n m : Nat} [h1 : NatC a n] [h2 : NatC b m] : NatC (a * b) (n * m) := ⟨by rw [h1.h, h2.h]; simp⟩
instance : NatC 0 0 := ⟨rfl⟩
instance : NatC 1 1 := ⟨rfl⟩
instance : NatC 2 2 := ⟨rfl⟩
instance : NatC 3 3 := ⟨rfl⟩
instance : NatC 4 4 := ⟨rfl⟩
instance : NatC 5 5 := ⟨rfl⟩
instance : NatC 6 6 := ⟨rfl⟩
instance : NatC 7 7 := ⟨rfl⟩
instance : NatC 8 8 := ⟨rfl⟩
instance : NatC 9 9 := ⟨rfl⟩
instance : NatC 10 10 := ⟨rfl⟩
instance : NatC 11 11 := ⟨rfl⟩
instance : NatC 12 12 := ⟨rfl⟩
instance : NatC 13 13 := ⟨rfl⟩
instance : NatC 14 14 := ⟨rfl⟩
instance : NatC 15 15 := ⟨rfl⟩
instance : NatC 16 16 := ⟨rfl⟩
instance : NatC 17 17 := ⟨rfl⟩
instance : NatC 18 18 := ⟨rfl⟩
instance : NatC 19 19 := ⟨rfl⟩
instance : NatC 20 20 := ⟨rfl⟩
instance : NatC 21 21 := ⟨rfl⟩
instance : NatC 22 22 := ⟨rfl⟩
instance : NatC 23 23 := ⟨rfl⟩
instance : NatC 24 24 := ⟨rfl⟩
instance : NatC 25 25 := ⟨rfl⟩
instance : NatC 26 26 := ⟨rfl⟩
instance : NatC 27 27 := ⟨rfl⟩
instance : NatC 28 28 := ⟨rfl⟩
instance : NatC 29 29 := ⟨rfl⟩
instance : NatC 30 30 := ⟨rfl⟩
instance : NatC 31 31 := ⟨rfl⟩
instance : NatC 32 32 := ⟨rfl⟩
instance : NatC 63 63 := ⟨rfl⟩
instance : NatC 64 64 := ⟨rfl⟩
instance : NatC 127 127 := ⟨rfl⟩
instance : NatC 128 128 := ⟨rfl⟩
instance : NatC 255 255 := ⟨rfl⟩
instance : NatC 16777215 16777215 := ⟨rfl⟩
instance : NatC 8801531 8801531 := ⟨rfl⟩
instance : NatC 11994318 11994318 := ⟨rfl⟩
section
variable {P : Program} {w0 : World} {e : Env} {l : HL} {ty t : TypeId} {x y : Operand} {a b : Int} {n m : Nat} {K : Value → Prop} {k' : IntKind}
theorem toNat_cast (n : Nat) : ((n : Int)).toNat = n := by simp
instance [ha : NatC a n] [hb : NatC b m] : Step (BinG P w0 .and t x y (.int .i64 a) (.int .i64 b) l K) ((n ≤ 9223372036854775807 ∧ m ≤ 9223372036854775807) ∧ Know (n &&& m ≤ n ∧ n &&& m ≤ m) (K (.int .i64 ((n &&& m : Nat) : Int)))) :=
  ⟨fun ⟨⟨h2, h4⟩, hk⟩ => .mk (r := .int .i64 ((n &&& m : Nat) : Int)) (fun w => by simp [eqGuard]) (fun w => by
    rw [ha.h, hb.h]
    simp only [binOp, ne_eq, not_true_eq_false, if_false, intBits_and, Sem.run_pure]
    rw [BitVec.toNat_and, ofInt_toNat (by omega) (by omega), ofInt_toNat (by omega) (by omega), toNat_cast, toNat_cast, back_nat (by have := @and_le' n m; omega)]) (hk.h ⟨Nat.and_le_left, Nat.and_le_right⟩)⟩
instance [ha : NatC a n] [hb : NatC b m] : Step (BinG P w0 .xor t x y (.int .i64 a) (.int .i64 b) l K) ((n ≤ 9223372036854775807 ∧ m ≤ 9223372036854775807) ∧ K (.int .i64 ((n ^^^ m : Nat) : Int))) :=
  ⟨fun ⟨⟨h2, h4⟩, hk⟩ => .mk (r := .int .i64 ((n ^^^ m : Nat) : Int)) (fun w => by simp [eqGuard]) (fun w => by
    rw [ha.h, hb.h]
    simp only [binOp, ne_eq, not_true_eq_false, if_false, intBits_xor, Sem.run_pure]
    rw [BitVec.toNat_xor, ofInt_toNat (by omega) (by omega), ofInt_toNat (by omega) (by omega), toNat_cast, toNat_cast, back_nat (xor_lt63 (by omega) (by omega))]) hk⟩
instance [ha : NatC a n] [hb : NatC b m] : Step (BinG P w0 .or t x y (.int .i64 a) (.int .i64 b) l K) ((n ≤ 9223372036854775807 ∧ m ≤ 9223372036854775807) ∧ K (.int .i64 ((n ||| m : Nat) : Int))) :=
  ⟨fun ⟨⟨h2, h4⟩, hk⟩ => .mk (r := .int .i64 ((n ||| m : Nat) : Int)) (fun w => by simp [eqGuard]) (fun w => by
    rw [ha.h, hb.h]
    simp only [binOp, ne_eq, not_true_eq_false, if_false, intBits_or, Sem.run_pure]
    rw [BitVec.toNat_or, ofInt_toNat (by omega) (by omega), ofInt_toNat (by omega) (by omega), toNat_cast, toNat_cast, back_nat (or_lt63 (by omega) (by omega))]) hk⟩
/-- shifts of numbers that stay small -/
instance (priority := high) [ha : NatC a n] [hb : NatC b m] : Step (BinG P w0 .shl t x y (.int .i64 a) (.int k' b) l K) ((m ≤ 62 ∧ n * 2 ^ m ≤ 9223372036854775807) ∧ K (.int .i64 ((n * 2 ^ m : Nat) : Int))) :=
  ⟨fun ⟨⟨h1, h3⟩, hk⟩ => .mk (r := .int .i64 ((n * 2 ^ m : Nat) : Int)) (fun w => by simp [eqGuard]) (fun w => by
    rw [ha.h, hb.h]
    simp [binOp, Op.shift, IntKind.bits, Nat.min_eq_left (show m ≤ 64 by omega)]
    have := back_nat h3
    simpa using this) hk⟩
instance (priority := high) [ha : NatC a n] [hb : NatC b m] : Step (BinG P w0 .shr t x y (.int .i64 a) (.int k' b) l K) ((m ≤ 62) ∧ K (.int .i64 ((n / 2 ^ m : Nat) : Int))) :=
  ⟨fun ⟨h1, hk⟩ => .mk (r := .int .i64 ((n / 2 ^ m : Nat) : Int)) (fun w => by simp [eqGuard]) (fun w => by
    rw [ha.h, hb.h]
    simp [binOp, Op.shift, IntKind.bits, Nat.min_eq_left (show m ≤ 64 by omega)]) hk⟩
end

section
variable {P : Program} {w0 : World} {e : Env} {l : HL} {ty t : TypeId} {x y : Operand} {a b : Int} {K : Value → Prop}
/-! conversions between integers -/
def CvG (P : Program) (s d : TypeId) (v : Value) (K : Value → Prop) : Prop := ∃ r, (∀ w, (convert s d v).run P w = .ok r w) ∧ K r
/-- a conversion that makes no memory: its types are integers -/
class IntT (P : Program) (t : TypeId) (k : outParam IntKind) : Prop where
  h : P.underlying t = some (.int k)
instance {k : IntKind} [h : Und P t (.int k)] : IntT P t k := ⟨h.h⟩
instance Flt.convert {s d : TypeId} {k : IntKind} [hd : IntT P d k] : Flt P w0 (.convert s d x) ty e l (fun K => Let (ev e x) fun v => CvG P s d v K) :=
  ⟨fun K ⟨v, hv, r, h1, h2⟩ => ⟨r, fun ρ w hρ hs => by simp [execOp, hρ x v hv, h1], h2⟩⟩
theorem run_conv {s d : TypeId} {k k' k2 : IntKind} {n : Int} {w : World} (hs : P.underlying s = some (.int k')) (hd : P.underlying d = some (.int k)) :
    (convert s d (.int k2 n)).run P w = .ok (.int k (k.wrap n)) w := by
  simp [Go.convert, run_und hs, run_und hd, Conv.intToInt]
/-- into int, of a number that is one -/
instance {s d : TypeId} {k' k2 : IntKind} {n : Int} [hs : Und P s (.int k')] [hd : Und P d (.int .i64)] : Step (CvG P s d (.int k2 n) K) ((-9223372036854775808 ≤ n ∧ n ≤ 9223372036854775807) ∧ K (.int .i64 n)) :=
  ⟨fun ⟨h, hk⟩ => ⟨_, fun w => by rw [run_conv hs.h hd.h, wrap_in h], hk⟩⟩
theorem wrap_byte {n : Int} (h : 0 ≤ n ∧ n ≤ 255) : IntKind.u8.wrap n = n := by
  simp only [IntKind.wrap, IntKind.bits, IntKind.signed]; simp; omega
theorem bt_le (s : List UInt8) (n : Nat) : 0 ≤ bt s n ∧ bt s n ≤ 255 := by
  unfold bt
  have := (s[n]?.getD 0).toNat_lt
  omega
end
section
variable {P : Program} {k : List Item} {e : Env} {l : HL} {w0 : World} {f : FuncId} {cs : List Frame} {N : Nat} {fn : Func} {t : Tmp} {T : TypeId}
/-! results, also such as lie in memory -/
def resOf (tmps : Array Value) : ResultVar → Sem Value
  | .tmp t => pure (tmps.getD t undef)
  | .cell a t => do loadVar t (← asAddr (tmps.getD a undef))
def RvG (P : Program) (w0 : World) (rs : List ResultVar) (e : Env) (l : HL) (K : List Value → Prop) : Prop :=
  ∃ vs, (∀ a w N, EnvOK N a e → Sat w0 w l → (rs.mapM (resOf a.tmps)).run P w = .ok vs w) ∧ K vs
def one : List Value → Value
  | [v] => v
  | vs => .tuple vs.toArray
instance {K : List Value → Prop} : Step (RvG P w0 [] e l K) (K []) := ⟨fun h => ⟨[], fun a w N _ _ => by simp, h⟩⟩
instance {rs : List ResultVar} {K : List Value → Prop} : Step (RvG P w0 (.tmp t :: rs) e l K) (Let (lk e t) fun v => RvG P w0 rs e l fun vs => K (v :: vs)) :=
  ⟨fun ⟨v, h1, vs, h2, h3⟩ => ⟨v :: vs, fun a w N ha hs => by
    have hv : a.tmps.getD t undef = v := by simp [Array.getD_eq_getD_getElem?, ha.has t v h1]
    simp only [List.mapM_cons, Sem.run_bind, resOf, hv, Sem.run_pure, Result.andThen_ok, h2 a w N ha hs], h3⟩⟩
instance {rs : List ResultVar} {K : List Value → Prop} : Step (RvG P w0 (.cell t T :: rs) e l K) (Let (lk e t) fun p => LoadG P T p l w0 fun u => RvG P w0 rs e l fun vs => K (u :: vs)) :=
  ⟨fun ⟨p, h1, u, h2, vs, h3, h4⟩ => ⟨u :: vs, fun a w N ha hs => by
    have hv : a.tmps.getD t undef = p := by simp [Array.getD_eq_getD_getElem?, ha.has t p h1]
    have hl := h2 w hs
    have hp : ∃ ad, p = .pointer (some ad) := by
      simp only [Instr.loadAt, Sem.run_bind] at hl
      cases p <;> simp [Instr.sureAddr] at hl
      rename_i o; cases o
      · simp [Instr.sureAddr] at hl
      · exact ⟨_, rfl⟩
    obtain ⟨ad, rfl⟩ := hp
    simp only [Instr.loadAt, Instr.sureAddr, Sem.run_bind, Sem.run_pure, Result.andThen_ok] at hl
    simp only [List.mapM_cons, Sem.run_bind, resOf, hv, asAddr, Sem.run_pure, Result.andThen_ok, hl, h3 a w N ha hs], h4⟩⟩
theorem resG_of {rs : List ResultVar} {vs : List Value} (hr : fn.results = rs.toArray) (h : ∀ a w N, EnvOK N a e → Sat w0 w l → (rs.mapM (resOf a.tmps)).run P w = .ok vs w) : ResG P w0 fn e l (one vs) := fun a w N ha hs => by
  have h1 : (fn.results.mapM (resOf a.tmps)).run P w = .ok vs.toArray w := by
    rw [hr, Array.mapM_eq_mapM_toList, Sem.run_map]; simp only [h a w N ha hs, Result.andThen_ok]
  have h2 : results fn a.tmps = (do let xs ← fn.results.mapM (resOf a.tmps); pure (if h : xs.size = 1 then xs[0] else .tuple xs)) := rfl
  rw [h2, Sem.run_bind, h1]
  simp only [Result.andThen_ok, Sem.run_pure]
  match vs with
  | [] => rfl
  | [v] => rfl
  | v :: u :: r => simp [one]
variable {K : Value → HL → Prop}
theorem retG {rs : List ResultVar} (hf : P.funcs[f]? = some fn) (h1 : fn.results = rs.toArray) (h : RvG P w0 rs e l fun vs => K (one vs) l) : Run P (Cx.of w0 f cs N K) (.code .ret :: k) e l :=
  let ⟨_, h2, h3⟩ := h; Run.ret hf (resG_of h1 h2) h3
theorem finG {rs : List ResultVar} (hf : P.funcs[f]? = some fn) (h1 : fn.results = rs.toArray) (h : RvG P w0 rs e l fun vs => K (one vs) l) : Run P (Cx.of w0 f cs N K) [] e l :=
  let ⟨_, h2, h3⟩ := h; Run.fin hf (resG_of h1 h2) h3
end
theorem Sub.ci {e e' : Env} {t : Nat} {k : IntKind} {a b : Int} (h : lk e t = some (.int k a)) (hab : a = b) (r : Sub e e') : Sub e ((t, .int k b) :: e') := by
  subst hab; exact .cons h r
/-- the memory at the end may hold more than is told -/
def Wk (K : Value → HL → Prop) (v : Value) (l : HL) : Prop := ∃ l', Ent l l' ∧ K v l'
theorem CallG.weak {P : Program} {w0 : World} {f : FuncId} {args : Array Value} {l : HL} {K : Value → HL → Prop} (h : CallG P w0 f args l (Wk K)) : CallG P w0 f args l K :=
  fun w hs => (h w hs).mono fun _ _ ⟨v, _, h1, h2, l'', h3, h4⟩ => ⟨v, l'', h1, h2.ent h3, h4⟩
theorem Wk.mk {K : Value → HL → Prop} {v : Value} {l l' : HL} (h : Ent l l') (k : K v l') : Wk K v l := ⟨l', h, k⟩
theorem Ent.cellsEq {b : Nat} {c c' : List Value} {T : TypeId} {l l' : HL} (h : c = c') (k : Ent l l') : Ent (cells b c T :: l) (cells b c' T :: l') := by
  subst h; exact .cons _ k
theorem Ent.ofEq {l l' : HL} (h : l = l') : Ent l l' := by subst h; exact .refl _
theorem Ent.drop {A : HP} {l l' : HL} (h : Ent l l') : Ent (A :: l) l' := .trans (.tail A l) h
theorem cut_full {c : List Value} {n : Nat} (h : c.length = n) : cut c 0 n = c := by subst h; simp [cut]
theorem lay_app : ∀ (d c pre : List Value), d.length ≤ c.length → lay (pre ++ c) pre.length d = pre ++ (d ++ c.drop d.length)
  | [], c, pre, _ => by simp [lay]
  | v :: d, [], pre, h => by simp at h
  | v :: d, x :: c, pre, h => by
    have ih := lay_app d c (pre ++ [v]) (by simpa using h)
    simp only [lay, List.set_append_right _ _ (Nat.le_refl _), Nat.sub_self, List.set_cons_zero]
    simpa using ih
theorem lay_full {c d : List Value} (h : c.length = d.length) : lay c 0 d = d := by
  have := lay_app d c [] (by omega)
  simpa [← h] using this
end Go.Sl
/- The steps of a walk: unsigned numbers of 64 bits; what other texts have shown of a call. -/
open Go Go.RowKit
namespace Go.Sl
section
variable {P : Program} {w0 : World} {e : Env} {l : HL} {ty t : TypeId} {x y : Operand} {a b : Int} {n m : Nat} {K : Value → Prop} {k' : IntKind}
instance : NatC 31 31 := ⟨rfl⟩
instance : NatC 33 33 := ⟨rfl⟩
instance : NatC 34 34 := ⟨rfl⟩
instance : NatC 35 35 := ⟨rfl⟩
instance : NatC 36 36 := ⟨rfl⟩
instance : NatC 37 37 := ⟨rfl⟩
instance : NatC 38 38 := ⟨rfl⟩
instance : NatC 39 39 := ⟨rfl⟩
instance : NatC 40 40 := ⟨rfl⟩
instance : NatC 41 41 := ⟨rfl⟩
instance : NatC 42 42 := ⟨rfl⟩
instance : NatC 43 43 := ⟨rfl⟩
instance : NatC 44 44 := ⟨rfl⟩
instance : NatC 45 45 := ⟨rfl⟩
instance : NatC 46 46 := ⟨rfl⟩
instance : NatC 47 47 := ⟨rfl⟩
instance : NatC 48 48 := ⟨rfl⟩
instance : NatC 49 49 := ⟨rfl⟩
instance : NatC 50 50 := ⟨rfl⟩
instance : NatC 51 51 := ⟨rfl⟩
instance : NatC 52 52 := ⟨rfl⟩
instance : NatC 53 53 := ⟨rfl⟩
instance : NatC 54 54 := ⟨rfl⟩
instance : NatC 55 55 := ⟨rfl⟩
instance : NatC 56 56 := ⟨rfl⟩
instance : NatC 57 57 := ⟨rfl⟩
instance : NatC 58 58 := ⟨rfl⟩
instance : NatC 59 59 := ⟨rfl⟩
instance : NatC 60 60 := ⟨rfl⟩
instance : NatC 61 61 := ⟨rfl⟩
instance : NatC 62 62 := ⟨rfl⟩
instance : NatC 65 65 := ⟨rfl⟩
instance : NatC 66 66 := ⟨rfl⟩
instance : NatC 67 67 := ⟨rfl⟩
instance : NatC 68 68 := ⟨rfl⟩
instance : NatC 69 69 := ⟨rfl⟩
instance : NatC 70 70 := ⟨rfl⟩
instance : NatC 71 71 := ⟨rfl⟩
instance : NatC 72 72 := ⟨rfl⟩
instance : NatC 73 73 := ⟨rfl⟩
instance : NatC 74 74 := ⟨rfl⟩
instance : NatC 75 75 := ⟨rfl⟩
instance : NatC 76 76 := ⟨rfl⟩
instance : NatC 77 77 := ⟨rfl⟩
instance : NatC 78 78 := ⟨rfl⟩
instance : NatC 79 79 := ⟨rfl⟩
instance : NatC 80 80 := ⟨rfl⟩
instance : NatC 81 81 := ⟨rfl⟩
instance : NatC 82 82 := ⟨rfl⟩
instance : NatC 83 83 := ⟨rfl⟩
instance : NatC 84 84 := ⟨rfl⟩
instance : NatC 85 85 := ⟨rfl⟩
instance : NatC 86 86 := ⟨rfl⟩
instance : NatC 87 87 := ⟨rfl⟩
instance : NatC 88 88 := ⟨rfl⟩
instance : NatC 89 89 := ⟨rfl⟩
instance : NatC 90 90 := ⟨rfl⟩
instance : NatC 91 91 := ⟨rfl⟩
instance : NatC 92 92 := ⟨rfl⟩
instance : NatC 93 93 := ⟨rfl⟩
instance : NatC 94 94 := ⟨rfl⟩
instance : NatC 95 95 := ⟨rfl⟩
instance : NatC 96 96 := ⟨rfl⟩
instance : NatC 97 97 := ⟨rfl⟩
instance : NatC 98 98 := ⟨rfl⟩
instance : NatC 99 99 := ⟨rfl⟩
instance : NatC 100 100 := ⟨rfl⟩
instance : NatC 101 101 := ⟨rfl⟩
instance : NatC 102 102 := ⟨rfl⟩
instance : NatC 103 103 := ⟨rfl⟩
instance : NatC 104 104 := ⟨rfl⟩
instance : NatC 105 105 := ⟨rfl⟩
instance : NatC 106 106 := ⟨rfl⟩
instance : NatC 107 107 := ⟨rfl⟩
instance : NatC 108 108 := ⟨rfl⟩
instance : NatC 109 109 := ⟨rfl⟩
instance : NatC 110 110 := ⟨rfl⟩
instance : NatC 111 111 := ⟨rfl⟩
instance : NatC 112 112 := ⟨rfl⟩
instance : NatC 113 113 := ⟨rfl⟩
instance : NatC 114 114 := ⟨rfl⟩
instance : NatC 115 115 := ⟨rfl⟩
instance : NatC 116 116 := ⟨rfl⟩
instance : NatC 117 117 := ⟨rfl⟩
instance : NatC 118 118 := ⟨rfl⟩
instance : NatC 119 119 := ⟨rfl⟩
instance : NatC 120 120 := ⟨rfl⟩
instance : NatC 121 121 := ⟨rfl⟩
instance : NatC 122 122 := ⟨rfl⟩
instance : NatC 123 123 := ⟨rfl⟩
instance : NatC 124 124 := ⟨rfl⟩
instance : NatC 125 125 := ⟨rfl⟩
instance : NatC 126 126 := ⟨rfl⟩
instance : NatC 129 129 := ⟨rfl⟩
instance : NatC 256 256 := ⟨rfl⟩
instance : NatC 4000 4000 := ⟨rfl⟩
instance : NatC 16384 16384 := ⟨rfl⟩
instance : NatC 1000 1000 := ⟨rfl⟩
instance : NatC 1024 1024 := ⟨rfl⟩
instance : NatC 4096 4096 := ⟨rfl⟩
instance : NatC 65535 65535 := ⟨rfl⟩
instance : NatC 65536 65536 := ⟨rfl⟩
instance : NatC 100000 100000 := ⟨rfl⟩
instance : NatC 1000000 1000000 := ⟨rfl⟩
instance : NatC 1048576 1048576 := ⟨rfl⟩
instance : NatC 2048 2048 := ⟨rfl⟩
instance : NatC 512 512 := ⟨rfl⟩
instance : NatC 511 511 := ⟨rfl⟩
instance : NatC 16777216 16777216 := ⟨rfl⟩
instance : NatC 285870213051353865 285870213051353865 := ⟨rfl⟩
instance : NatC 1099511627776 1099511627776 := ⟨rfl⟩
instance : NatR 33 33 := ⟨rfl⟩
instance : NatR 34 34 := ⟨rfl⟩
instance : NatR 35 35 := ⟨rfl⟩
instance : NatR 36 36 := ⟨rfl⟩
instance : NatR 37 37 := ⟨rfl⟩
instance : NatR 38 38 := ⟨rfl⟩
instance : NatR 39 39 := ⟨rfl⟩
instance : NatR 40 40 := ⟨rfl⟩
instance : NatR 41 41 := ⟨rfl⟩
instance : NatR 42 42 := ⟨rfl⟩
instance : NatR 43 43 := ⟨rfl⟩
instance : NatR 44 44 := ⟨rfl⟩
instance : NatR 45 45 := ⟨rfl⟩
instance : NatR 46 46 := ⟨rfl⟩
instance : NatR 47 47 := ⟨rfl⟩
instance : NatR 48 48 := ⟨rfl⟩
instance : NatR 49 49 := ⟨rfl⟩
instance : NatR 50 50 := ⟨rfl⟩
instance : NatR 51 51 := ⟨rfl⟩
instance : NatR 52 52 := ⟨rfl⟩
instance : NatR 53 53 := ⟨rfl⟩
instance : NatR 54 54 := ⟨rfl⟩
instance : NatR 55 55 := ⟨rfl⟩
instance : NatR 56 56 := ⟨rfl⟩
instance : NatR 57 57 := ⟨rfl⟩
instance : NatR 58 58 := ⟨rfl⟩
instance : NatR 59 59 := ⟨rfl⟩
instance : NatR 60 60 := ⟨rfl⟩
instance : NatR 61 61 := ⟨rfl⟩
instance : NatR 62 62 := ⟨rfl⟩
instance : NatR 65 65 := ⟨rfl⟩
instance : NatR 66 66 := ⟨rfl⟩
instance : NatR 67 67 := ⟨rfl⟩
instance : NatR 68 68 := ⟨rfl⟩
instance : NatR 69 69 := ⟨rfl⟩
instance : NatR 70 70 := ⟨rfl⟩
instance : NatR 71 71 := ⟨rfl⟩
instance : NatR 72 72 := ⟨rfl⟩
instance : NatR 73 73 := ⟨rfl⟩
instance : NatR 74 74 := ⟨rfl⟩
instance : NatR 75 75 := ⟨rfl⟩
instance : NatR 76 76 := ⟨rfl⟩
instance : NatR 77 77 := ⟨rfl⟩
instance : NatR 78 78 := ⟨rfl⟩
instance : NatR 79 79 := ⟨rfl⟩
instance : NatR 80 80 := ⟨rfl⟩
instance : NatR 81 81 := ⟨rfl⟩
instance : NatR 82 82 := ⟨rfl⟩
instance : NatR 83 83 := ⟨rfl⟩
instance : NatR 84 84 := ⟨rfl⟩
instance : NatR 85 85 := ⟨rfl⟩
instance : NatR 86 86 := ⟨rfl⟩
instance : NatR 87 87 := ⟨rfl⟩
instance : NatR 88 88 := ⟨rfl⟩
instance : NatR 89 89 := ⟨rfl⟩
instance : NatR 90 90 := ⟨rfl⟩
instance : NatR 91 91 := ⟨rfl⟩
instance : NatR 92 92 := ⟨rfl⟩
instance : NatR 93 93 := ⟨rfl⟩
instance : NatR 94 94 := ⟨rfl⟩
instance : NatR 95 95 := ⟨rfl⟩
instance : NatR 96 96 := ⟨rfl⟩
instance : NatR 97 97 := ⟨rfl⟩
instance : NatR 98 98 := ⟨rfl⟩
instance : NatR 99 99 := ⟨rfl⟩
instance : NatR 100 100 := ⟨rfl⟩
instance : NatR 101 101 := ⟨rfl⟩
instance : NatR 102 102 := ⟨rfl⟩
instance : NatR 103 103 := ⟨rfl⟩
instance : NatR 104 104 := ⟨rfl⟩
instance : NatR 105 105 := ⟨rfl⟩
instance : NatR 106 106 := ⟨rfl⟩
instance : NatR 107 107 := ⟨rfl⟩
instance : NatR 108 108 := ⟨rfl⟩
instance : NatR 109 109 := ⟨rfl⟩
instance : NatR 110 110 := ⟨rfl⟩
instance : NatR 111 111 := ⟨rfl⟩
instance : NatR 112 112 := ⟨rfl⟩
instance : NatR 113 113 := ⟨rfl⟩
instance : NatR 114 114 := ⟨rfl⟩
instance : NatR 115 115 := ⟨rfl⟩
instance : NatR 116 116 := ⟨rfl⟩
instance : NatR 117 117 := ⟨rfl⟩
instance : NatR 118 118 := ⟨rfl⟩
instance : NatR 119 119 := ⟨rfl⟩
instance : NatR 120 120 := ⟨rfl⟩
instance : NatR 121 121 := ⟨rfl⟩
instance : NatR 122 122 := ⟨rfl⟩
instance : NatR 123 123 := ⟨rfl⟩
instance : NatR 124 124 := ⟨rfl⟩
instance : NatR 125 125 := ⟨rfl⟩
instance : NatR 126 126 := ⟨rfl⟩
instance : NatR 129 129 := ⟨rfl⟩
instance : NatR 255 255 := ⟨rfl⟩
instance : NatC (16 - 1) 15 := ⟨rfl⟩
theorem wrap_u64 (n : Nat) : IntKind.u64.wrap (n : Int) = ((n % 18446744073709551616 : Nat) : Int) := by
  simp only [IntKind.wrap, IntKind.bits, IntKind.signed]; simp
theorem back_u64 {n : Nat} (h : n < 18446744073709551616) : IntKind.u64.wrap (n : Int) = n := by rw [wrap_u64, Nat.mod_eq_of_lt h]
theorem ofInt_toNat64 {n : Nat} (h1 : n < 18446744073709551616) : (BitVec.ofInt 64 (n : Int)).toNat = n := by
  rw [BitVec.toNat_ofInt]; omega
theorem intBits_andu (a b : Int) : Op.intBits .and .u64 a b = pure (.int .u64 (IntKind.u64.wrap ((BitVec.ofInt 64 a &&& BitVec.ofInt 64 b).toNat : Int))) := rfl
instance [ha : NatC a n] [hb : NatC b m] : Step (BinG P w0 .and t x y (.int .u64 a) (.int .u64 b) l K) ((n < 18446744073709551616 ∧ m < 18446744073709551616) ∧ K (.int .u64 ((n &&& m : Nat) : Int))) :=
  ⟨fun ⟨⟨h2, h4⟩, hk⟩ => .mk (r := .int .u64 ((n &&& m : Nat) : Int)) (fun w => by simp [eqGuard]) (fun w => by
    rw [ha.h, hb.h]
    simp only [binOp, ne_eq, not_true_eq_false, if_false, intBits_andu, Sem.run_pure]
    rw [BitVec.toNat_and, ofInt_toNat64 h2, ofInt_toNat64 h4, back_u64 (by have := @and_le' n m; omega)]) hk⟩
instance (priority := high) [ha : NatC a n] [hb : NatC b m] : Step (BinG P w0 .shr t x y (.int .u64 a) (.int k' b) l K) ((m ≤ 62) ∧ K (.int .u64 ((n / 2 ^ m : Nat) : Int))) :=
  ⟨fun ⟨h1, hk⟩ => .mk (r := .int .u64 ((n / 2 ^ m : Nat) : Int)) (fun w => by simp [eqGuard]) (fun w => by
    rw [ha.h, hb.h]
    simp [binOp, Op.shift, IntKind.bits, Nat.min_eq_left (show m ≤ 64 by omega)]) hk⟩
instance (priority := high) [ha : NatC a n] [hb : NatC b m] : Step (BinG P w0 .sub t x y (.int .u64 a) (.int .u64 b) l K) ((m ≤ n ∧ n < 18446744073709551616) ∧ K (.int .u64 ((n - m : Nat) : Int))) :=
  ⟨fun ⟨⟨h1, h2⟩, hk⟩ => .mk (r := .int .u64 ((n - m : Nat) : Int)) (fun w => by simp [eqGuard]) (fun w => by
    rw [ha.h, hb.h]
    have : (n : Int) - (m : Int) = ((n - m : Nat) : Int) := by omega
    simp [binOp, Op.intArith, this, back_u64 (show n - m < 18446744073709551616 by omega)]) hk⟩
instance (priority := high) [ha : NatC a n] [hb : NatC b m] : Step (BinG P w0 .mul t x y (.int .u64 a) (.int .u64 b) l K) (K (.int .u64 ((n * m % 18446744073709551616 : Nat) : Int))) :=
  ⟨fun hk => .mk (r := .int .u64 ((n * m % 18446744073709551616 : Nat) : Int)) (fun w => by simp [eqGuard]) (fun w => by
    rw [ha.h, hb.h, ← wrap_u64]
    simp [binOp, Op.intArith]) hk⟩
instance [ha : NatC a n] : Step (UnG P .neg (.int .u64 a) K) ((n ≤ 18446744073709551616) ∧ K (.int .u64 (((18446744073709551616 - n) % 18446744073709551616 : Nat) : Int))) := ⟨fun ⟨h, hk⟩ => ⟨_, fun w => by
    have : IntKind.u64.wrap (0 - (n : Int)) = (((18446744073709551616 - n) % 18446744073709551616 : Nat) : Int) := by
      simp only [IntKind.wrap, IntKind.bits, IntKind.signed]; simp; omega
    rw [ha.h]
    simp only [Op.unary, Op.intArith]
    rw [this]; rfl, hk⟩⟩
instance (priority := high) {s d : TypeId} {k2 k' : IntKind} {n : Int} [hs : Und P s (.int k')] [hd : Und P d (.int .u64)] : Step (CvG P s d (.int k2 n) K) ((0 ≤ n ∧ n < 18446744073709551616) ∧ K (.int .u64 n)) :=
  ⟨fun ⟨h, hk⟩ => ⟨_, fun w => by
    obtain ⟨m, rfl⟩ := Int.eq_ofNat_of_zero_le h.1
    rw [run_conv hs.h hd.h, back_u64 (by omega)], hk⟩⟩
end
theorem Sat.grow {w0 w : World} {l : HL} (H : Sat w0 w l) (os : Array Obj) : Sat w0 (Go.Sort.grow w os) l := by
  have hlt : ∀ k, k < w.heap.size → (w.heap ++ os)[k]? = w.heap[k]? := fun k hk => by rw [Array.getElem?_append_left hk]
  refine ⟨H.os, H.tape, H.output, H.drawn, by have := H.size; simp [Go.Sort.grow]; omega, fun k hk => ?_, ?_⟩
  · have := H.size
    rw [← H.block k hk]; exact hlt k (by omega)
  · obtain ⟨h, h1, hl⟩ := H.own
    refine ⟨h, fun b o e => ?_, hl⟩
    have h2 := h1 b o e
    exact ⟨h2.1, by rw [← h2.2]; exact hlt b (Array.getElem?_eq_some_iff.1 h2.2).1⟩
theorem CallG.grown {P : Program} {w0 : World} {l : HL} {f : FuncId} {args : Array Value} {K : Value → HL → Prop} {v : Value}
    (h : ∀ w, Sat w0 w l → Calls P f args w fun e w' => e = .returned v ∧ ∃ k os, w' = Go.Sort.grow (w.drewN k) os) (hk : K v l) : CallG P w0 f args l K :=
  fun w hs => (h w hs).mono fun _ _ ⟨he, k, os, hw⟩ => ⟨v, l, he, by subst hw; exact (hs.drew _).grow os, hk⟩
theorem CallG.same {P : Program} {w0 : World} {l : HL} {f : FuncId} {args : Array Value} {K : Value → HL → Prop} {v : Value}
    (h : ∀ w, Sat w0 w l → Calls P f args w fun e w' => e = .returned v ∧ w' = w) (hk : K v l) : CallG P w0 f args l K :=
  fun w hs => (h w hs).mono fun _ _ ⟨he, hw⟩ => ⟨v, l, he, by subst hw; exact hs, hk⟩
/-! slices of arrays, and bytes as a string -/
section
variable {P : Program} {w0 : World} {e : Env} {l : HL} {ty t el : TypeId} {x y : Operand} {a b : Int} {n m sz q : Nat} {K : Value → Prop} {k k' : IntKind} {bl off : Nat}
instance [ht : Und P t (.array n el)] [hs : Siz P el sz] [ha : NatR a m] : Step (SlG P t (.pointer (some ⟨bl, off, none⟩)) (some (.int k a)) none none K)
    ((0 ≤ a ∧ a < n) ∧ K (.slice (some ⟨bl, off + m * sz, none⟩) (n - m) (n - m))) :=
  ⟨fun ⟨h1, hk⟩ => ⟨_, fun w => by
    obtain ⟨i, e1, e2⟩ := hs.h
    have h3 := ha.h
    have h4 : ¬ n = m := by omega
    simp [Instr.sliceAt, run_und ht.h, Instr.sliceBounds, Instr.sliceBound, asIntOf, h1, h3, run_sizeOf e1, e2, Instr.sureAddr, addr_add, h4, show a ≤ n by omega], hk⟩⟩
/-- a conversion that reads memory -/
def CvS (P : Program) (w0 : World) (s d : TypeId) (v : Value) (l : HL) (K : Value → Prop) : Prop := ∃ r, (∀ w, Sat w0 w l → (convert s d v).run P w = .ok r w) ∧ K r
instance Flt.convertS {s d : TypeId} [hd : Und P d .string] : Flt P w0 (.convert s d x) ty e l (fun K => Let (ev e x) fun v => CvS P w0 s d v l K) :=
  ⟨fun K ⟨v, hv, r, h1, h2⟩ => ⟨r, fun ρ w hρ hs => by simp [execOp, hρ x v hv, h1 w hs], h2⟩⟩
theorem cell_of_cells {w : World} {b : Nat} {c : List Value} {T : TypeId} {fz : Nat × Nat} (h : w.heap[b]? = some (.cells c.toArray T fz)) (i : Nat) : w.cell? ⟨b, i, none⟩ = c[i]? := by
  simp [World.cell?, h]
theorem conv_bytes {s d el : TypeId} {w : World} {c : List Value} {T : TypeId} {fz : Nat × Nat} {bs : List UInt8} (hs : P.underlying s = some (.slice el)) (he : P.underlying el = some (.int .u8)) (hd : P.underlying d = some .string)
    (h : w.heap[bl]? = some (.cells c.toArray T fz)) (hc : cut c off bs.length = bc bs) (cap : Nat) : (convert s d (.slice (some ⟨bl, off, none⟩) bs.length cap)).run P w = .ok (str bs) w := by
  refine run_convert_bytes_back w s d el ⟨bl, off, none⟩ cap bs hs he hd fun j hj => ?_
  rw [addr_add, cell_of_cells h]
  have := congrArg (fun z => z[j]?) hc
  simp only [cut, List.getElem?_take, hj, if_true, List.getElem?_drop] at this
  rw [this]; simp [bc, hj]
instance (priority := low) {s d : TypeId} {c : List Value} {T : TypeId} [hr : Reads w0 l bl c T] [hs : Und P s (.slice el)] [he : Und P el (.int .u8)] [hd : Und P d .string] :
    Step (CvS P w0 s d (.slice (some ⟨bl, off, none⟩) n m) l K) (∃ bs : List UInt8, bs.length = n ∧ cut c off n = bc bs ∧ K (str bs)) :=
  ⟨fun ⟨bs, h1, h2, hk⟩ => ⟨_, fun w hw => by
    obtain ⟨fz, h⟩ := hr.h w hw
    subst h1
    exact conv_bytes hs.h he.h hd.h h h2 m, hk⟩⟩
end
end Go.Sl
/- The steps of a walk: slices against nil. -/
open Go Go.RowKit
namespace Go.Sl
section
variable {P : Program} {w0 : World} {e : Env} {l : HL} {t el : TypeId} {x y : Operand} {K : Value → Prop} {a : Option Addr} {n c m k : Nat}
theorem equalIn_sl {w : World} (d : Nat) (h : P.underlying t = some (.slice el)) (a : Option Addr) (n c : Nat) :
    (Op.equalIn (d + 1) t (.slice a n c) (.slice none 0 0)).run P w = .ok a.isNone w := by
  simp only [Op.equalIn, Sem.run_bind, run_und h, Result.andThen_ok]
  cases a <;> simp
theorem run_eql_sl {w : World} (h : P.underlying t = some (.slice el)) : (binOp .eql t (.slice a n c) (.slice none 0 0)).run P w = .ok (.bool a.isNone) w := by
  simp only [binOp, Op.equal, Op.maxDepth, Sem.run_bind, equalIn_sl 9999 h a n c, Result.andThen_ok]; rfl
theorem run_neq_sl {w : World} (h : P.underlying t = some (.slice el)) : (binOp .neq t (.slice a n c) (.slice none 0 0)).run P w = .ok (.bool (!a.isNone)) w := by
  simp only [binOp, Op.equal, Op.maxDepth, Sem.run_bind, equalIn_sl 9999 h a n c, Result.andThen_ok]; rfl
instance [h : Und P t (.slice el)] : Step (BinG P w0 .eql t x y (.slice none n c) (.slice none 0 0) l K) (K (.bool true)) :=
  ⟨fun hk => .mk (fun w => by simp [eqGuard]) (fun w => run_eql_sl h.h) hk⟩
instance {b : Addr} [h : Und P t (.slice el)] : Step (BinG P w0 .eql t x y (.slice (some b) n c) (.slice none 0 0) l K) (K (.bool false)) :=
  ⟨fun hk => .mk (fun w => by simp [eqGuard]) (fun w => run_eql_sl h.h) hk⟩
instance [h : Und P t (.slice el)] : Step (BinG P w0 .neq t x y (.slice none n c) (.slice none 0 0) l K) (K (.bool false)) :=
  ⟨fun hk => .mk (fun w => by simp [eqGuard]) (fun w => run_neq_sl h.h) hk⟩
instance {b : Addr} [h : Und P t (.slice el)] : Step (BinG P w0 .neq t x y (.slice (some b) n c) (.slice none 0 0) l K) (K (.bool true)) :=
  ⟨fun hk => .mk (fun w => by simp [eqGuard]) (fun w => run_neq_sl h.h) hk⟩
end
end Go.Sl
/- The steps of a walk: maps. -/
open Go Go.RowKit
namespace Go.Sl
section
variable {P : Program} {w0 : World} {e : Env} {l : HL} {ty t : TypeId}
/-- a map that is empty -/
instance Rule.makeMap : Rule P w0 (.makeMap t none) ty e l (fun K => All fun b => K (.map (some b)) (obj b (.map #[] 0) :: l)) :=
  ⟨fun K hk ρ w hρ hs => .val (v := .map (some w.heap.size)) (w := { w with heap := w.heap.push (.map #[] 0) }) (by simp [execOp, Instr.makeMap]) (hs.new _) (hk _)⟩
end
end Go.Sl
/- The steps of a walk: maps whose keys are ints. -/
open Go Go.RowKit
namespace Go.Sl
/-- a cell of a row -/
theorem nth_rowI {α : Type} {f : α → List Value} {xs : List α} {x : α} {pre junk : List Value} {i j sz : Nat} {v : Value} [hx : RowAt xs i x] [hf : RowLen f sz] (hv : nth (f x) j = some v) :
    nth (pre ++ xs.flatMap f ++ junk) (pre.length + i * sz + j) = some v := by
  have hjlt : j < sz := by rw [← hf.h x]; rw [nth_eq] at hv; exact (List.getElem?_eq_some_iff.1 hv).1
  have key : ∀ (xs : List α) (i : Nat), xs[i]? = some x → (xs.flatMap f)[i * sz + j]? = some v := by
    intro xs
    induction xs with
    | nil => intro i h; simp at h
    | cons y ys ih =>
      intro i h
      rw [List.flatMap_cons]
      cases i with
      | zero =>
        simp at h; subst h
        rw [Nat.zero_mul, Nat.zero_add, List.getElem?_append_left (by rw [hf.h]; exact hjlt), ← nth_eq]; exact hv
      | succ i =>
        have h' : ys[i]? = some x := by simpa using h
        rw [Nat.add_mul, List.getElem?_append_right (by rw [hf.h]; omega), hf.h]
        rw [show i * sz + 1 * sz + j - sz = i * sz + j by omega]
        exact ih i h'
  have h := key xs i hx.h
  have hlt := (List.getElem?_eq_some_iff.1 h).1
  rw [nth_eq, List.append_assoc, List.getElem?_append_right (by omega), show pre.length + i * sz + j - pre.length = i * sz + j by omega, List.getElem?_append_left hlt]
  exact h
section
variable {α : Type}
/-- what a key has in a list of pairs -/
def mget (m : List (Int × α)) (a : Int) : Option α := (m.find? (fun p => p.1 == a)).map (·.2)
/-- the place of a key, or none -/
def midx (m : List (Int × α)) (a : Int) : Option Nat := m.findIdx? (fun p => p.1 == a)
def mput (m : List (Int × α)) (a : Int) (v : α) : List (Int × α) := match midx m a with
  | some i => m.set i (a, v)
  | none => m ++ [(a, v)]
def mdel (m : List (Int × α)) (a : Int) : List (Int × α) := match midx m a with
  | some i => m.eraseIdx i
  | none => m
structure MapOk (f : α → Value) (m : List (Int × α)) (es : Array MapEntry) (clock : Nat) : Prop where
  kv : es.toList.map (fun e => (e.key, e.val)) = m.map (fun p => (Value.int .i64 p.1, f p.2))
  born : es.toList.Pairwise (fun a b => a.born < b.born)
  lt : ∀ e ∈ es.toList, e.born < clock
def MapA (b : Nat) (f : α → Value) (m : List (Int × α)) : HP := ex fun x : Array MapEntry × Nat => all [pur (MapOk f m x.1 x.2), obj b (.map x.1 x.2)]
theorem mapa_close {b : Nat} {f : α → Value} {m : List (Int × α)} (es : Array MapEntry) (clock : Nat) (h : MapOk f m es clock) (F : HL) : Ent (obj b (.map es clock) :: F) (MapA b f m :: F) := by
  refine Ent.trans ?_ (ent_ex _ (es, clock) F)
  exact (ent_pur h _).trans (ent_all' [pur (MapOk f m es clock), obj b (.map es clock)] F)
theorem mapa_sat {w0 w : World} {b : Nat} {f : α → Value} {m : List (Int × α)} {F : HL} (hs : Sat w0 w (MapA b f m :: F)) : ∃ es clock, MapOk f m es clock ∧ Sat w0 w (obj b (.map es clock) :: F) := by
  obtain ⟨⟨es, clock⟩, hs⟩ := hs.ex
  have hs := hs.ent (ent_all _ _)
  obtain ⟨hok, hs⟩ := Sat.pur hs
  exact ⟨es, clock, hok, hs⟩
theorem mapa_new (b : Nat) (f : α → Value) (F : HL) : Ent (obj b (.map #[] 0) :: F) (MapA b f [] :: F) := mapa_close #[] 0 ⟨rfl, by simp, by simp⟩ F
/-- a map, in the list -/
class HasM {α : outParam Type} (l : HL) (b : Nat) (f : outParam (α → Value)) (m : outParam (List (Int × α))) (l' : outParam HL) : Prop where
  h : Rem l (MapA b f m) l'
instance HasM.head {l : HL} {b : Nat} {f : α → Value} {m : List (Int × α)} : HasM (MapA b f m :: l) b f m l := ⟨.here⟩
instance (priority := low) HasM.tail {l l' : HL} {A : HP} {b : Nat} {f : α → Value} {m : List (Int × α)} [h : HasM l b f m l'] : HasM (A :: l) b f m (A :: l') := ⟨.there h.h⟩
theorem findNow_int {kd : IntKind} {f : α → Value} {a : Int} : ∀ (es : List MapEntry) (m : List (Int × α)) (n : Nat), es.map (fun e => (e.key, e.val)) = m.map (fun p => (Value.int .i64 p.1, f p.2)) →
    Instr.findNow (.int kd) (.int .i64 a) es n = some ((midx m a).bind fun i => (mget m a).map fun v => (n + i, f v))
  | [], [], n, _ => rfl
  | [], _ :: _, _, h => by simp at h
  | _ :: _, [], _, h => by simp at h
  | e :: es, p :: m, n, h => by
    simp only [List.map_cons, List.cons.injEq, Prod.mk.injEq] at h
    obtain ⟨⟨h1, h2⟩, h3⟩ := h
    have ih := findNow_int (kd := kd) (a := a) es m (n + 1) h3
    simp only [Instr.findNow, h1, Instr.sameNow, if_true]
    by_cases he : a = p.1
    · subst he; simp [midx, mget, h2, List.findIdx?_cons]
    · have hb : (a == p.1) = false := by simpa using he
      have hb' : (p.1 == a) = false := by simpa using Ne.symm he
      rw [hb]
      simp only [ih, midx, mget, List.findIdx?_cons, List.find?_cons, hb']
      cases m.findIdx? (fun p => p.1 == a) with
      | none => simp
      | some i => simp [show n + 1 + i = n + (i + 1) by omega]
theorem midx_get {m : List (Int × α)} {a : Int} {i : Nat} (h : midx m a = some i) : ∃ v, m[i]? = some (a, v) ∧ mget m a = some v := by
  unfold midx at h
  induction m generalizing i with
  | nil => simp at h
  | cons p m ih =>
    rw [List.findIdx?_cons] at h
    by_cases he : (p.1 == a) = true
    · simp [he] at h; subst h
      have : p.1 = a := by simpa using he
      subst this
      exact ⟨p.2, by simp, by simp [mget]⟩
    · have he : (p.1 == a) = false := by simpa using he
      simp [he] at h
      obtain ⟨j, hj, rfl⟩ := h
      obtain ⟨v, h1, h2⟩ := ih hj
      exact ⟨v, by simpa using h1, by simp only [mget, List.find?_cons, he]; exact h2⟩
theorem midx_none {m : List (Int × α)} {a : Int} (h : midx m a = none) : mget m a = none ∧ ∀ p ∈ m, p.1 ≠ a := by
  unfold midx at h
  rw [List.findIdx?_eq_none_iff] at h
  have : ∀ p ∈ m, p.1 ≠ a := fun p hp => by simpa using h p hp
  refine ⟨?_, this⟩
  unfold mget
  rw [List.find?_eq_none.2 (by simpa using this)]; rfl
theorem mget_none {m : List (Int × α)} {a : Int} (h : mget m a = none) : midx m a = none := by
  cases hi : midx m a with
  | none => rfl
  | some i => obtain ⟨v, _, h2⟩ := midx_get hi; rw [h] at h2; cases h2
theorem mget_append {m m' : List (Int × α)} {b : Int} : mget (m ++ m') b = (mget m b).or (mget m' b) := by
  unfold mget; rw [List.find?_append]; cases m.find? _ <;> simp
theorem mget_set {m : List (Int × α)} {a : Int} {v : α} {i : Nat} (h : midx m a = some i) (b : Int) : mget (m.set i (a, v)) b = if b = a then some v else mget m b := by
  unfold midx at h
  induction m generalizing i with
  | nil => simp at h
  | cons p m ih =>
    rw [List.findIdx?_cons] at h
    by_cases he : (p.1 == a) = true
    · simp [he] at h; subst h
      have : p.1 = a := by simpa using he
      simp only [List.set_cons_zero, mget, List.find?_cons]
      by_cases hb : b = a
      · subst hb; simp
      · have e1 : (a == b) = false := by simpa using Ne.symm hb
        have e2 : (p.1 == b) = false := by rw [this]; exact e1
        simp [e1, e2, hb]
    · have he : (p.1 == a) = false := by simpa using he
      simp [he] at h
      obtain ⟨j, hj, rfl⟩ := h
      have ih := ih hj
      simp only [List.set_cons_succ, mget, List.find?_cons]
      by_cases hb : (p.1 == b) = true
      · have e : p.1 = b := by simpa using hb
        have : ¬ b = a := fun e' => by rw [e, e'] at he; simp at he
        simp [hb, this]
      · have hb : (p.1 == b) = false := by simpa using hb
        simp only [hb]; exact ih
theorem mget_put {m : List (Int × α)} {a b : Int} {v : α} : mget (mput m a v) b = if b = a then some v else mget m b := by
  unfold mput
  cases hi : midx m a with
  | some i => exact mget_set hi b
  | none =>
    dsimp only
    have h1 := (midx_none hi).1
    rw [mget_append]
    by_cases hb : b = a
    · subst hb; rw [h1]; simp [mget]
    · have e : mget [(a, v)] b = none := by
        have e1 : (a == b) = false := by simpa using Ne.symm hb
        simp [mget, e1]
      simp [e, hb]
theorem mput_keys {m : List (Int × α)} {a : Int} {v : α} : (mput m a v).map (·.1) = if (midx m a).isSome then m.map (·.1) else m.map (·.1) ++ [a] := by
  unfold mput
  cases hi : midx m a with
  | some i =>
    obtain ⟨v', h1, _⟩ := midx_get hi
    dsimp only
    simp only [Option.isSome_some, if_true]
    rw [List.map_set]
    apply List.ext_getElem (by simp)
    intro j h2 h3
    rw [List.getElem_set]
    split
    · subst_vars
      have := List.getElem?_eq_some_iff.1 h1
      simp [this.2]
    · rfl
  | none => simp
end
section
variable {α : Type} {P : Program} {w0 : World} {e : Env} {l : HL} {ty t key el : TypeId} {x y : Operand} {f : α → Value} {m : List (Int × α)} {b : Nat}
/-- the zero of a type, as it is -/
class ZerV (P : Program) (t : TypeId) (v : outParam Value) : Prop where
  h : (P.info? t).bind (fun i => i.zero) = some v
theorem getMap {w : World} {r : Nat} {es : Array MapEntry} {clock : Nat} (hb : w.heap[r]? = some (.map es clock)) : (getObj r).run P w = .ok (.map es clock) w := by simp [getObj, Sem.run, hb]
theorem setMap {w : World} {r : Nat} {es : Array MapEntry} {clock : Nat} (o : Obj) (hb : w.heap[r]? = some (.map es clock)) : (setObj r o).run P w = .ok () { w with heap := w.heap.setIfInBounds r o } := by simp [setObj, Sem.run, hb]
theorem run_zerV {w : World} {v : Value} (h : ZerV P t v) : (zeroValue t).run P w = .ok v w := by
  obtain ⟨i, h1, h2⟩ := Option.bind_eq_some_iff.1 h.h
  exact run_zeroValue h1 h2
theorem run_checkKey_int {w : World} {k kd : IntKind} {a : Int} (hk : P.underlying key = some (.int kd)) (em : Bool) : (Instr.checkKey em 10000 key (.int k a)).run P w = .ok () w := by
  rw [Instr.checkKey]; simp [run_und hk]
theorem run_findKey_int {w : World} {kd : IntKind} {a : Int} {es : Array MapEntry} {clock : Nat} (hk : P.underlying key = some (.int kd)) (h : MapOk f m es clock) :
    (Instr.findKey key (.int .i64 a) es.toList).run P w = .ok ((midx m a).bind fun i => (mget m a).map fun v => (i, f v)) w := by
  simp [Instr.findKey, run_und hk, findNow_int _ _ 0 h.kv]
def LkG (P : Program) (w0 : World) (t : TypeId) (m k : Value) (ok : Bool) (l : HL) (K : Value → Prop) : Prop := ∃ r, (∀ w, Sat w0 w l → (Instr.lookup t m k ok).run P w = .ok r w) ∧ K r
instance Flt.lookup {ok : Bool} : Flt P w0 (.lookup t x y ok) ty e l (fun K => Let (ev e x) fun v => Let (ev e y) fun k => LkG P w0 t v k ok l K) :=
  ⟨fun K ⟨v, hv, k, hk, r, h1, h2⟩ => ⟨r, fun ρ w hρ hs => by simp [execOp, hρ x v hv, hρ y k hk, h1 w hs], h2⟩⟩
def lkRes (f : α → Value) (z : Value) (ok : Bool) (o : Option α) : Value :=
  let v := match o with
    | some v => f v
    | none => z
  if ok then .tuple #[v, .bool o.isSome] else v
theorem run_lookup_int {w : World} {kd : IntKind} {a : Int} {z : Value} {ok : Bool} {es : Array MapEntry} {clock : Nat} (ht : P.underlying t = some (.map key el)) (hk : P.underlying key = some (.int kd)) (hz : ZerV P el z)
    (h : MapOk f m es clock) (hb : w.heap[b]? = some (.map es clock)) : (Instr.lookup t (.map (some b)) (.int .i64 a) ok).run P w = .ok (lkRes f z ok (mget m a)) w := by
  simp only [Instr.lookup, Sem.run_bind, run_und ht, Result.andThen_ok, getMap hb, Sem.run_pure, run_checkKey_int hk, run_findKey_int hk h]
  cases hg : mget m a with
  | none => rw [mget_none hg]; cases ok <;> simp [lkRes, run_zerV hz]
  | some v =>
    cases hi : midx m a with
    | none => rw [(midx_none hi).1] at hg; cases hg
    | some i => cases ok <;> simp [lkRes]
instance {a : Int} {z : Value} {kd : IntKind} {l' : HL} {K : Value → Prop} {ok : Bool} [hm : HasM l b f m l'] [ht : Und P t (.map key el)] [hk : Und P key (.int kd)] [hz : ZerV P el z] :
    Step (LkG P w0 t (.map (some b)) (.int .i64 a) ok l K) (K (lkRes f z ok (mget m a))) :=
  ⟨fun hk' => ⟨_, fun w hs => by
    obtain ⟨es, clock, hok, hs⟩ := mapa_sat (hs.ent hm.h.ent)
    exact run_lookup_int ht.h hk.h hz hok hs.obj.2, hk'⟩⟩
/-- a map of nobody's -/
instance {a : Int} {z : Value} {kd : IntKind} {K : Value → Prop} {ok : Bool} [ht : Und P t (.map key el)] [hk : Und P key (.int kd)] [hz : ZerV P el z] :
    Step (LkG P w0 t (.map none) (.int .i64 a) ok l K) (K (lkRes (fun v : Value => v) z ok none)) :=
  ⟨fun hk' => ⟨_, fun w hs => by
    simp only [Instr.lookup, Sem.run_bind, run_und ht.h, Result.andThen_ok, Sem.run_pure, run_checkKey_int hk.h]
    have h0 : MapOk (fun v : Value => v) [] #[] 0 := ⟨rfl, by simp, by simp⟩
    have := run_findKey_int (w := w) (a := a) hk.h h0
    simp only [this]
    cases ok <;> simp [lkRes, midx, mget, run_zerV hz], hk'⟩⟩
def MuG (P : Program) (w0 : World) (t : TypeId) (m k v : Value) (l : HL) (K : HL → Prop) : Prop := ∀ w, Sat w0 w l → ∃ w' l', (Instr.mapUpdate t m k v).run P w = .ok () w' ∧ Sat w0 w' l' ∧ K l'
instance Rule.mapUpdate {z : Operand} : Rule P w0 (.mapUpdate t x y z) ty e l (fun K => Let (ev e x) fun v => Let (ev e y) fun k => Let (ev e z) fun u => MuG P w0 t v k u l (K undef)) :=
  ⟨fun K ⟨v, hv, k, hk, u, hu, h⟩ ρ w hρ hs => by
    obtain ⟨w', l', h1, h2, h3⟩ := h w hs
    exact .unit (w := w') (by simp [execOp, hρ x v hv, hρ y k hk, hρ z u hu, h1]) h2 h3⟩
theorem mapok_set {es : Array MapEntry} {clock i : Nat} {a : Int} {v : α} (h : MapOk f m es clock) (hi : midx m a = some i) :
    MapOk f (m.set i (a, v)) (es.modify i fun e => { e with key := Value.int .i64 a, val := f v }) clock := by
  have hlen : es.toList.length = m.length := by have := congrArg List.length h.kv; simpa using this
  have hl : (es.modify i fun e => { e with key := Value.int .i64 a, val := f v }).toList = es.toList.modify i fun e => { e with key := Value.int .i64 a, val := f v } := by simp
  refine ⟨?_, ?_, ?_⟩
  · rw [hl]
    apply List.ext_getElem?
    intro j
    have hj := congrArg (fun z => z[j]?) h.kv
    simp only [List.getElem?_map, List.getElem?_modify, List.getElem?_set] at hj ⊢
    by_cases e1 : i = j
    · subst e1
      simp only [if_true]
      obtain ⟨u, h1, _⟩ := midx_get hi
      have hlt := (List.getElem?_eq_some_iff.1 h1).1
      rw [if_pos hlt, List.getElem?_eq_getElem (by rw [hlen]; exact hlt)]; rfl
    · simp only [e1, if_false]; simpa using hj
  · rw [hl, List.pairwise_iff_getElem]
    intro p q hp hq hpq
    have := (List.pairwise_iff_getElem.1 h.born) p q (by simpa using hp) (by simpa using hq) hpq
    simp only [List.getElem_modify]
    split <;> split <;> simpa using this
  · rw [hl]
    intro e he
    obtain ⟨j, hj, rfl⟩ := List.getElem_of_mem he
    simp only [List.getElem_modify]
    have := h.lt _ (List.getElem_mem (l := es.toList) (n := j) (by simpa using hj))
    split <;> exact this
theorem mapok_push {es : Array MapEntry} {clock : Nat} {a : Int} {v : α} (h : MapOk f m es clock) : MapOk f (m ++ [(a, v)]) (es.push { key := Value.int .i64 a, val := f v, born := clock }) (clock + 1) := by
  refine ⟨by simpa using h.kv, ?_, ?_⟩
  · rw [Array.toList_push, List.pairwise_append]
    refine ⟨h.born, by simp, fun p hp q hq => ?_⟩
    rw [List.mem_singleton] at hq; subst hq; exact h.lt p hp
  · intro e he
    rw [Array.toList_push, List.mem_append, List.mem_singleton] at he
    rcases he with he | rfl
    · have := h.lt e he; omega
    · simp
theorem run_update_int {w : World} {kd : IntKind} {a : Int} {v : α} {es : Array MapEntry} {clock : Nat} (ht : P.underlying t = some (.map key el)) (hk : P.underlying key = some (.int kd))
    (h : MapOk f m es clock) (hs : Sat w0 w (obj b (.map es clock) :: l)) : ∃ w', (Instr.mapUpdate t (.map (some b)) (.int .i64 a) (f v)).run P w = .ok () w' ∧ Sat w0 w' (MapA b f (mput m a v) :: l) := by
  have hb := hs.obj.2
  cases hi : midx m a with
  | none =>
    refine ⟨_, ?_, (hs.setObj (o' := .map (es.push { key := Value.int .i64 a, val := f v, born := clock }) (clock + 1))).ent (mapa_close _ _ (by unfold mput; rw [hi]; exact mapok_push h) l)⟩
    simp only [Instr.mapUpdate, Sem.run_bind, run_und ht, Result.andThen_ok, getMap hb, run_checkKey_int hk, run_findKey_int hk h, hi, Option.bind_none, setMap _ hb]
  | some i =>
    obtain ⟨u, h1, h2⟩ := midx_get hi
    have hkey : ((es[i]?).map (·.key)).getD (.int .i64 a) = .int .i64 a := by
      have hj := congrArg (fun z => z[i]?) h.kv
      simp only [List.getElem?_map, h1, Option.map_some] at hj
      rw [← Array.getElem?_toList]
      cases hh : es.toList[i]? with
      | none => rfl
      | some x => rw [hh] at hj; simp at hj; simp [hj.1]
    refine ⟨_, ?_, (hs.setObj (o' := .map (es.modify i fun e => { e with key := Value.int .i64 a, val := f v }) clock)).ent (mapa_close _ _ (by unfold mput; rw [hi]; exact mapok_set h hi) l)⟩
    simp only [Instr.mapUpdate, Sem.run_bind, run_und ht, Result.andThen_ok, getMap hb, run_checkKey_int hk, run_findKey_int hk h, hi, h2, Option.bind_some, Option.map_some, hkey, Instr.keyThatStays, Instr.sameBits, beq_self_eq_true, Bool.and_self, if_true, Sem.run_pure, setMap _ hb]
/-- a value as a map has it -/
class ElV (f : α → Value) (v : Value) (a : outParam α) : Prop where
  h : f a = v
instance {a : Int} {kd : IntKind} {l' : HL} {K : HL → Prop} {v : Value} {u : α} [hm : HasM l b f m l'] [ht : Und P t (.map key el)] [hk : Und P key (.int kd)] [he : ElV f v u] :
    Step (MuG P w0 t (.map (some b)) (.int .i64 a) v l K) (K (MapA b f (mput m a u) :: l')) :=
  ⟨fun hk' w hs => by
    obtain ⟨es, clock, hok, hs⟩ := mapa_sat (hs.ent hm.h.ent)
    obtain ⟨w', h1, h2⟩ := run_update_int (a := a) (v := u) ht.h hk.h hok hs
    exact ⟨w', _, by rw [← he.h]; exact h1, h2, hk'⟩⟩
instance {l' : HL} {K : Value → Prop} [hm : HasM l b f m l'] [h : Und P t (.map key el)] : Step (BlkG P w0 .len #[t] ty [.map (some b)] l K) (K (.int .i64 m.length)) :=
  ⟨fun hk => ⟨_, fun _ w hs => by
    obtain ⟨es, clock, hok, hs⟩ := mapa_sat (hs.ent hm.h.ent)
    have hlen : es.size = m.length := by have := congrArg List.length hok.kv; simpa using this
    simp [Go.builtin, Builtin.len_, run_und h.h, goInt, getMap hs.obj.2, hlen], hk⟩⟩
end
end Go.Sl
/- The steps of a walk: make, of elements of several cells; several effects in any order. -/
open Go Go.RowKit
namespace Go.Sl
theorem nth_row0 {α : Type} {f : α → List Value} {xs : List α} {x : α} {pre junk : List Value} {i sz : Nat} {v : Value} [hx : RowAt xs i x] [hf : RowLen f sz] (hv : nth (f x) 0 = some v) :
    nth (pre ++ xs.flatMap f ++ junk) (pre.length + i * sz) = some v := nth_rowI (j := 0) hv
theorem nth_row2 {α : Type} {f : α → List Value} {xs : List α} {x : α} {pre junk : List Value} {i sz a b : Nat} {v : Value} [hx : RowAt xs i x] [hf : RowLen f sz] (hv : nth (f x) (a + b) = some v) :
    nth (pre ++ xs.flatMap f ++ junk) (pre.length + i * sz + a + b) = some v := by rw [Nat.add_assoc]; exact nth_rowI (j := a + b) hv
section
variable {P : Program} {w0 : World} {e : Env} {l : HL} {ty t : TypeId} {x y : Operand}
theorem rep_flat (z : List Value) (hz : z ≠ []) : ∀ m : Nat, (Array.range (m * z.length)).map (fun x => z.toArray[x % z.toArray.size]!) = ((List.replicate m z).flatten).toArray := by
  have hpos : 0 < z.length := List.length_pos_iff.2 hz
  intro m
  apply Array.ext
  · simp
  · intro j h1 h2
    have hj : j < m * z.length := by simpa using h1
    simp only [Array.getElem_map, Array.getElem_range, List.getElem_toArray, List.size_toArray]
    clear h1
    induction m generalizing j with
    | zero => simp at hj
    | succ m ih =>
      have e : (List.replicate (m + 1) z).flatten = z ++ (List.replicate m z).flatten := rfl
      simp only [e]
      by_cases hlt : j < z.length
      · rw [List.getElem_append_left hlt, Nat.mod_eq_of_lt hlt, getElem!_pos z.toArray j (by simpa using hlt)]; simp
      · rw [List.getElem_append_right (by omega)]
        have hj' : j - z.length < m * z.length := by rw [Nat.add_mul] at hj; omega
        rw [← ih (j - z.length) (by simpa using hj') hj']
        rw [Nat.mod_eq_sub_mod (by omega)]
/-- made of elements of several cells -/
instance {n : Int} {z : List Value} {zn sz : Nat} {el by_ : TypeId} {K : Value → HL → Prop} [hu : Und P t (.slice el)] [hz : Agg P el sz] [hb : Byt P el by_] [hv : Zer P el z] [hl : Long z zn] [he : SameN zn sz] :
    Step (MkG P w0 t (.int .i64 n) (.int .i64 n) l K) ((0 ≤ n ∧ n ≤ 1073741824 ∧ (by_ : Int) ≤ 262144 ∧ 0 < sz) ∧ All fun b => K (.slice (some ⟨b, 0, none⟩) n.toNat n.toNat) (cells b (List.replicate n.toNat z).flatten el :: l)) :=
  ⟨fun ⟨⟨h1, h2, h3, hpos⟩, hk⟩ w hs => by
    obtain ⟨_, i, _, _, e1, e2⟩ := hz.h
    obtain ⟨i', e3, e4⟩ := hb.h
    obtain ⟨i'', zv, e5, e6, e7⟩ := hv.h
    rw [e1] at e3 e5; cases e3; cases e5
    have hzl : z.length = sz := hl.h.trans he.h
    obtain ⟨m, rfl⟩ := Int.eq_ofNat_of_zero_le h1
    have hw : IntKind.i64.wrap (m : Int) = m := wrap_nat (by omega) (by omega)
    have hbig : ¬ ((by_ : Int) * m > 2 ^ 48) := by
      have hm : (by_ : Int) * m ≤ 262144 * 1073741824 := Int.mul_le_mul h3 h2 (by omega) (by omega)
      have : (262144 : Int) * 1073741824 = 2 ^ 48 := by decide
      omega
    refine ⟨_, { w with heap := w.heap.push (.cells ((List.replicate m z).flatten).toArray el) }, _, ?_, hs.newCells ((List.replicate m z).flatten) el, by simpa using hk w.heap.size⟩
    have hm0 : ¬ ((m : Int) < 0) := by omega
    simp only [Instr.makeSlice, Sem.run_bind, run_und hu.h, Result.andThen_ok, asInt, asIntOf, Sem.run_pure, run_inf e1, hw, e4]
    simp only [hm0, hbig, decide_false, Bool.or_false, Bool.false_or, Int.lt_irrefl, gt_iff_lt, Sem.run_ite, Bool.false_eq_true, if_false]
    simp only [Sem.run_bind, run_askRoom, Result.andThen_ok, run_sizeOf e1, e2, Int.toNat_natCast, Sem.run_pure]
    by_cases h0 : m * sz = 0
    · have hm : m = 0 := by
        rcases Nat.mul_eq_zero.1 h0 with h | h
        · exact h
        · omega
      subst hm
      have hr0 : Array.range 0 = (#[] : Array Nat) := by simp
      simp [newRow, hr0]
    · simp only [h0, if_false, Sem.run_bind, run_zeroValue e1 e6, Result.andThen_ok, Sem.run_pure, e7, newRow, run_newObj]
      have := rep_flat z (by intro e; rw [e] at hzl; simp at hzl; omega) m
      rw [hzl] at this
      rw [this]⟩
end
section
variable {P : Program} {w0 : World} {t el : TypeId} {n sz i off : Nat} {z r : List Value} {ps : List (Nat × Value)} {K : Value → Prop}
/-- arrays by value -/
instance [hu : Und P t (.array n el)] [hs : Siz P el sz] [hm : MulR i sz off] : Plc P t i off sz := ⟨.inr (by
  obtain ⟨inf, h1, h2⟩ := hs.h
  exact ⟨n, el, inf, hu.h, h1, h2, hm.h⟩)⟩
instance [hu : Und P t (.array n el)] [hs : Siz P el sz] [hz : Zer P t z] [hp : Parts P t z ps r] : Step (BuildG P t ps K) (K (.agg r.toArray)) :=
  ⟨fun hk => ⟨_, fun w => by
    obtain ⟨inf, e1, e2⟩ := hs.h
    obtain ⟨j, v, h1, h2, h3⟩ := hz.h
    have hf : Instr.fill (fun x => some (x * sz, sz)) z.toArray ps = some r.toArray := hp.h _ fun x o s hj => by
      rcases hj.struct_or_array with ⟨fs', fl, inf', e3, _⟩ | ⟨n', el', inf', e3, e4, e5, e6⟩
      · rw [hu.h] at e3; cases e3
      · rw [hu.h] at e3; cases e3
        rw [e1] at e4; cases e4
        rw [e2] at e5; subst e5; rw [e6]
    simp only [Instr.build, Sem.run_bind, run_zeroValue h1 h2, Result.andThen_ok, run_und hu.h, h3, run_sizeOf e1, e2]
    simp only [hf]; rfl, hk⟩⟩
end
section
variable {P : Program} {c : Cx} {k : List Item} {e : Env} {l R : HL} {ops : List Oper} {A : List Nat} {n : Nat} {dn : List Nat}
theorem RunL.norm {os : Array Oper} {rest rest' : List Oper} (h : rest = rest') (g : RunL P c os rest' k e l) : RunL P c os rest k e l := by subst h; exact g
theorem ef3 (i j m : Nat) (hr : readyL ops 0 dn = [i, j, m]) (h1 : RunE P c ops A R k n dn i e l) (h2 : RunE P c ops A R k n dn j e l) (h3 : RunE P c ops A R k n dn m e l) : RunD P c ops A R k (n + 1) dn e l :=
  RunD.eff hr (by simp) fun x hx => by simp at hx; rcases hx with rfl | rfl | rfl <;> assumption
theorem ef4 (i j m q : Nat) (hr : readyL ops 0 dn = [i, j, m, q]) (h1 : RunE P c ops A R k n dn i e l) (h2 : RunE P c ops A R k n dn j e l) (h3 : RunE P c ops A R k n dn m e l) (h4 : RunE P c ops A R k n dn q e l) : RunD P c ops A R k (n + 1) dn e l :=
  RunD.eff hr (by simp) fun x hx => by simp at hx; rcases hx with rfl | rfl | rfl | rfl <;> assumption
end
end Go.Sl
