/- The steps of a walk: parts of values, slicing. -/
import Derived.Test.YtbolfohdcjpgoaaGreatDoorSlA
import Derived.OrdersHeld
import Derived.KernelRfl
set_option linter.unusedSimpArgs false
set_option linter.unusedVariables false
set_option linter.unusedSectionVars false
open Go Go.RowKit
namespace Go.Sl
section
variable {P : Program} {w0 : World} {e : Env} {l : HL} {ty t : TypeId} {x y : Operand}

/-! elements of values -/
def IxG (P : Program) (t : TypeId) (v i : Value) (K : Value → Prop) : Prop := ∃ r, (∀ w, (Instr.index t v i).run P w = .ok r w) ∧ K r
instance Flt.index : Flt P w0 (.index t x y) ty e l (fun K => Let (ev e x) fun v => Let (ev e y) fun i => IxG P t v i K) :=
  ⟨fun K ⟨v, hv, i, hi, r, h1, h2⟩ => ⟨r, fun ρ w hρ hs => by simp [execOp, hρ x v hv, hρ y i hi, h1], h2⟩⟩
/-- a byte of a list -/
def bt (s : List UInt8) (n : Nat) : Int := ((s[n]?.getD 0).toNat : Int)
section
variable {s : List UInt8} {i : Int} {k : IntKind} {K : Value → Prop} {n N sz m off : Nat} {cs r : List Value} {el : TypeId}
instance [h : Und P t .string] [hn : NatR i n] : Step (IxG P t (.string ⟨s.toArray⟩) (.int k i) K) ((0 ≤ i ∧ i < s.length) ∧ K (.int .u8 (bt s n))) :=
  ⟨fun ⟨⟨h1, h2⟩, hk⟩ => ⟨_, fun w => by
    have hlt : n < s.length := by rw [← hn.h]; omega
    have he : (ByteArray.mk s.toArray)[n]? = some s[n] := by
      have : n < (ByteArray.mk s.toArray).size := by simpa [ByteArray.size_mk'] using hlt
      rw [ByteArray.getElem?_lt' _ _ this]; rfl
    simp [Instr.index, asIntOf, run_und h.h, h1, hn.h, he, bt, hlt], hk⟩⟩
instance [h : Und P t (.array N el)] [hn : NatR i n] [hs : Sca P el] : Step (IxG P t (.agg cs.toArray) (.int k i) K) ((0 ≤ i ∧ i < N) ∧ Let (nth cs n) K) :=
  ⟨fun ⟨h1, v, hv, hk⟩ => ⟨v, fun w => by
    obtain ⟨d, inf, e1, e2, e3, e4⟩ := hs.h
    simp [Instr.index, asIntOf, run_und h.h, h1, run_sizeOf e3, e4, part, run_isAgg_no hs, hn.h, ← nth_eq, hv], hk⟩⟩
instance [h : Und P t (.array N el)] [hn : NatR i n] [ha : Agg P el sz] [hm : MulR n sz off] [hc : CutR cs off sz r] : Step (IxG P t (.agg cs.toArray) (.int k i) K) ((0 ≤ i ∧ i < N) ∧ K (.agg r.toArray)) :=
  ⟨fun ⟨h1, hk⟩ => ⟨_, fun w => by
    simp [Instr.index, asIntOf, run_und h.h, h1, run_size_agg ha, part, run_isAgg_yes ha, hn.h, hc.h, hm.h, cut], hk⟩⟩
end

/-! fields of values -/
class FldV (P : Program) (t : TypeId) (f : Nat) (off : outParam Nat) (ft : outParam TypeId) : Prop where
  h : ∃ fs fl, P.underlying t = some (.struct fs) ∧ fs[f]? = some fl ∧ fl.offset = off ∧ fl.type = ft
def FvG (P : Program) (t : TypeId) (f : Nat) (v : Value) (K : Value → Prop) : Prop := ∃ r, (∀ w, (Instr.field t v f).run P w = .ok r w) ∧ K r
instance Flt.field {f : Nat} : Flt P w0 (.field t x f) ty e l (fun K => Let (ev e x) fun v => FvG P t f v K) :=
  ⟨fun K ⟨v, hv, r, h1, h2⟩ => ⟨r, fun ρ w hρ hs => by simp [execOp, hρ x v hv, h1], h2⟩⟩
section
variable {K : Value → Prop} {f off n : Nat} {ft : TypeId} {cs r : List Value}
instance [h : FldV P t f off ft] [hs : Sca P ft] : Step (FvG P t f (.agg cs.toArray) K) (Let (nth cs off) K) :=
  ⟨fun ⟨v, hv, hk⟩ => ⟨v, fun w => by
    obtain ⟨fs, fl, h1, h2, h3, h4⟩ := h.h
    simp [Instr.field, run_und h1, h2, asAgg, part, h3, h4, run_isAgg_no hs, ← nth_eq, hv], hk⟩⟩
instance [h : FldV P t f off ft] [ha : Agg P ft n] [hc : CutR cs off n r] : Step (FvG P t f (.agg cs.toArray) K) (K (.agg r.toArray)) :=
  ⟨fun hk => ⟨_, fun w => by
    obtain ⟨fs, fl, h1, h2, h3, h4⟩ := h.h
    simp [Instr.field, run_und h1, h2, asAgg, part, h3, h4, run_isAgg_yes ha, run_size_agg ha, hc.h, cut], hk⟩⟩
end

/-! slicing -/
def SlG (P : Program) (t : TypeId) (v : Value) (lo hi mx : Option Value) (K : Value → Prop) : Prop := ∃ r, (∀ w, (Instr.sliceAt t v lo hi mx).run P w = .ok r w) ∧ K r
def evo (e : Env) : Option Operand → Option (Option Value)
  | none => some none
  | some x => match ev e x with
    | none => none
    | some v => some (some v)
theorem evo_map {e : Env} {ρ : Operand → Value} (hρ : ∀ x v, ev e x = some v → ρ x = v) (o : Option Operand) (v : Option Value) (h : evo e o = some v) : o.map ρ = v := by
  cases o with
  | none => simp [evo] at h; simp [h]
  | some x =>
    simp only [evo] at h
    cases h1 : ev e x with
    | none => simp [h1] at h
    | some u => simp only [h1, Option.some.injEq] at h; subst h; simp [hρ x u h1]
instance Flt.slice {lo hi mx : Option Operand} : Flt P w0 (.slice t x lo hi mx) ty e l
    (fun K => Let (ev e x) fun v => Let (evo e lo) fun a => Let (evo e hi) fun b => Let (evo e mx) fun c => SlG P t v a b c K) :=
  ⟨fun K ⟨v, hv, a, ha, b, hb, c, hc, r, h1, h2⟩ => ⟨r, fun ρ w hρ hs => by
    simp [execOp, hρ x v hv, evo_map hρ _ _ ha, evo_map hρ _ _ hb, evo_map hρ _ _ hc, h1], h2⟩⟩
section
variable {s : List UInt8} {a b : Int} {k k' : IntKind} {K : Value → Prop} {n m : Nat}
theorem extract_list (s : List UInt8) (a b : Nat) : (ByteArray.mk s.toArray).extract a b = ⟨((s.drop a).take (b - a)).toArray⟩ := ByteArray.extract_mk s a b
instance [h : Und P t .string] [ha : NatR a n] : Step (SlG P t (.string ⟨s.toArray⟩) (some (.int k a)) none none K) ((0 ≤ a ∧ a ≤ s.length) ∧ K (str (s.drop n))) :=
  ⟨fun ⟨h1, hk⟩ => ⟨_, fun w => by
    simp [Instr.sliceAt, Instr.slice, run_und h.h, Instr.sliceBounds, Instr.sliceBound, asIntOf, h1, ha.h, ByteArray.size_mk', extract_list]
    rw [List.take_of_length_le (by simp)], hk⟩⟩
instance [h : Und P t .string] [ha : NatR a n] : Step (SlG P t (.string ⟨s.toArray⟩) none (some (.int k a)) none K) ((0 ≤ a ∧ a ≤ s.length) ∧ K (str (s.take n))) :=
  ⟨fun ⟨h1, hk⟩ => ⟨_, fun w => by
    simp [Instr.sliceAt, Instr.slice, run_und h.h, Instr.sliceBounds, Instr.sliceBound, asIntOf, h1, ha.h, ByteArray.size_mk', extract_list], hk⟩⟩
instance [h : Und P t .string] [ha : NatR a n] [hb : NatR b m] : Step (SlG P t (.string ⟨s.toArray⟩) (some (.int k a)) (some (.int k' b)) none K)
    ((0 ≤ a ∧ a ≤ b ∧ b ≤ s.length) ∧ K (str ((s.drop n).take (m - n)))) :=
  ⟨fun ⟨h1, hk⟩ => ⟨_, fun w => by
    simp [Instr.sliceAt, Instr.slice, run_und h.h, Instr.sliceBounds, Instr.sliceBound, asIntOf, show 0 ≤ b by omega, h1, ha.h, hb.h, ByteArray.size_mk', extract_list]
    intro hh; have := hb.h; omega, hk⟩⟩
end
end
end Go.Sl
/- Regions whose order is drawn. -/
open Go Go.RowKit
namespace Go.Sl

/-! ### regions whose order is drawn -/
section
variable {P : Program} {ops : Array Oper} {Q : Exit → Act → World → Prop} {md : Region.Mode} {S : World → Prop} {nd : Nat → Bool}
/-- whichever order is picked; S stands behind each operation that is to keep it -/
def anyN (P : Program) (md : Region.Mode) (ops : Array Oper) (Q : Exit → Act → World → Prop) (S : World → Prop) (nd : Nat → Bool) : Nat → Array Bool → Act → World → Prop
  | 0, d, a, w => Region.ready md ops d = [] ∧ Q .normal a w
  | n + 1, d, a, w => (Region.ready md ops d = [] → Q .normal a w) ∧
    ∀ i ∈ Region.ready md ops d, wpOp P ops Q i (fun a' w' => (nd i = true → S w') ∧ anyN P md ops Q S nd n (d.setIfInBounds i true) a' w') a w
theorem anyN_any : ∀ (n : Nat) (d : Array Bool) (a : Act) (w : World), anyN P md ops Q S nd n d a w → wpAny P md ops Q n d a w
  | 0, _, _, _, h => h
  | n + 1, _, _, _, h => ⟨h.1, fun i hi => wpOp_mono (fun a' w' h' => anyN_any n _ a' w' h'.2) (h.2 i hi)⟩

/-- one waits for another, straight or through others -/
inductive Anc (md : Region.Mode) (ops : Array Oper) : Nat → Nat → Prop
  | base {j : Nat} {o : Oper} {e : Edge} : ops[j]? = some o → e ∈ o.after → Region.binds md e = true → Anc md ops j e.on
  | trans {j k i : Nat} : Anc md ops j k → Anc md ops k i → Anc md ops j i
def Closed (md : Region.Mode) (ops : Array Oper) (d : Array Bool) : Prop :=
  ∀ j o, ops[j]? = some o → d.getD j false = true → ∀ e ∈ o.after, Region.binds md e = true → d.getD e.on false = true
theorem Closed.anc {d : Array Bool} (hc : Closed md ops d) {j i : Nat} (h : Anc md ops j i) : d.getD j false = true → d.getD i false = true := by
  induction h with
  | base h1 h2 h3 => exact fun h => hc _ _ h1 h _ h2 h3
  | trans _ _ ih1 ih2 => exact fun h => ih2 (ih1 h)
theorem Closed.ready {d : Array Bool} (hc : Closed md ops d) {j i : Nat} (h : Anc md ops j i) : j ∈ Region.ready md ops d → d.getD i false = true := by
  induction h with
  | base h1 h2 h3 =>
    intro hj
    obtain ⟨_, o, ho, hall⟩ := mem_ready.1 hj
    rw [h1] at ho; cases ho; exact hall _ h2 h3
  | trans _ b ih1 _ => exact fun hj => hc.anc b (ih1 hj)
theorem getD_set_true' {d : Array Bool} {i j : Nat} (h : d.getD j false = true) : (d.setIfInBounds i true).getD j false = true := getD_set_true h
theorem Closed.set {d : Array Bool} (hc : Closed md ops d) {i : Nat} (hi : i ∈ Region.ready md ops d) : Closed md ops (d.setIfInBounds i true) := by
  intro j o ho hj e he hb
  by_cases hji : i = j
  · subst hji
    obtain ⟨_, o', ho', hall⟩ := mem_ready.1 hi
    rw [ho] at ho'; cases ho'
    exact getD_set_true (hall e he hb)
  · rw [getD_set_ne false hji] at hj
    exact getD_set_true (hc j o ho hj e he hb)

theorem anyN_take {i : Nat} {oi : Oper} {v : Value} (hi : ops[i]? = some oi) (hsel : ∀ (j : Nat) (o : Oper) cs b, ops[j]? = some o → o.op ≠ .select cs b)
    (hQ : ∀ c a w, Q (.panic c) (a.put oi.dst v) w → Q (.panic c) a w) :
    ∀ (n : Nat) (d : Array Bool) (a : Act) (w : World), Closed md ops d →
      (∀ j oj, ops[j]? = some oj → j ≠ i → d.getD j true = false → ¬ Anc md ops j i → oi.apart ops oj = true ∧ nd j = true) →
      i ∈ Region.ready md ops d → YieldsIf P ops S oi v a → S w →
      anyN P md ops Q S nd n (d.setIfInBounds i true) (a.put oi.dst v) w → anyN P md ops Q S nd (n + 1) d a w := by
  intro n
  induction n with
  | zero =>
    intro d a w _ _ hr hy hS H
    refine ⟨fun h => (by rw [h] at hr; cases hr), fun j hj => ?_⟩
    by_cases hji : j = i
    · subst hji; exact hy.wpOp hi hS ⟨fun _ => hS, H⟩
    · have := ready_mono hj hji
      rw [H.1] at this; cases this
  | succ n ih =>
    intro d a w hcl hfree hr hy hS H
    refine ⟨fun h => (by rw [h] at hr; cases hr), fun j hj => ?_⟩
    by_cases hji : j = i
    · subst hji; exact hy.wpOp hi hS ⟨fun _ => hS, H⟩
    · have h1 := H.2 j (ready_mono hj hji)
      obtain ⟨hjun, oj, hoj, hall⟩ := mem_ready.1 hj
      have hi0 : d.getD i false = false := by
        have h0 := (mem_ready.1 hr).1
        simp only [Array.getD] at h0 ⊢; split <;> simp_all
      have hnot : ¬ Anc md ops j i := fun h => by rw [hcl.ready h hj] at hi0; cases hi0
      obtain ⟨hap, hnd⟩ := hfree j oj hoj hji hjun hnot
      have h2 := wpOp_putIf hoj hap (fun cs b => hsel i oi cs b hi) (fun cs b => hsel j oj cs b hoj) hQ hy h1
      have hfree' : ∀ k ok, ops[k]? = some ok → k ≠ i → (d.setIfInBounds j true).getD k true = false →
          ¬ Anc md ops k i → oi.apart ops ok = true ∧ nd k = true := fun k ok hk hki hun hno => by
        refine hfree k ok hk hki ?_ hno
        by_cases hjk : j = k
        · subst hjk; exact hjun
        · rw [getD_set_ne true hjk] at hun; exact hun
      refine wpOp_mono (fun a' w' h3 => ⟨fun _ => h3.2.1 hnd, ih (d.setIfInBounds j true) a' w' (hcl.set hj) hfree' (ready_mono hr (Ne.symm hji)) h3.1 (h3.2.1 hnd) ?_⟩) h2
      rw [Array.setIfInBounds_comm _ _ hji]
      exact h3.2.2
theorem anyN_all {rs : List Nat} {n : Nat} {d : Array Bool} {a : Act} {w : World} (hr : Region.ready md ops d = rs) (hne : rs ≠ [])
    (h : ∀ i ∈ rs, wpOp P ops Q i (fun a' w' => (nd i = true → S w') ∧ anyN P md ops Q S nd n (d.setIfInBounds i true) a' w') a w) : anyN P md ops Q S nd (n + 1) d a w :=
  ⟨fun h0 => absurd (hr ▸ h0) hne, hr ▸ h⟩
theorem anyN_done {d : Array Bool} {a : Act} {w : World} (hr : Region.ready md ops d = []) (h : Q .normal a w) : ∀ n, anyN P md ops Q S nd n d a w
  | 0 => ⟨hr, h⟩
  | _ + 1 => ⟨fun _ => h, by rw [hr]; simp⟩
end

/-! the same by lists, to be reckoned -/
def direct (o : Oper) : List Nat := (o.after.toList.filter (Region.binds .any)).map (·.on)
def marks (n : Nat) (done : List Nat) : Array Bool := ((List.range n).map fun i => done.contains i).toArray
def readyL : List Oper → Nat → List Nat → List Nat
  | [], _, _ => []
  | o :: os, i, done => if !done.contains i && (direct o).all done.contains then i :: readyL os (i + 1) done else readyL os (i + 1) done
theorem marks_getD {n i : Nat} {done : List Nat} (b : Bool) (h : i < n) : (marks n done).getD i b = done.contains i := by
  simp [marks, Array.getD, h]
theorem marks_getD_ge {n i : Nat} {done : List Nat} (b : Bool) (h : ¬ i < n) : (marks n done).getD i b = b := by
  simp [marks, Array.getD, h]
theorem marks_set {n i : Nat} {done : List Nat} (h : i < n) : (marks n done).setIfInBounds i true = marks n (i :: done) := by
  apply Array.ext
  · simp [marks]
  · intro j h1 h2
    simp [marks] at h2
    simp only [marks, Array.getElem_setIfInBounds, List.getElem_toArray, List.getElem_map, List.getElem_range, List.contains_cons]
    by_cases e : i = j
    · subst e; simp
    · have : (j == i) = false := by simp; omega
      simp [e, this]
theorem mem_readyL : ∀ (os : List Oper) (i : Nat) (done : List Nat) (j : Nat), j ∈ readyL os i done ↔
    ∃ o, i ≤ j ∧ os[j - i]? = some o ∧ done.contains j = false ∧ (∀ e ∈ o.after, Region.binds .any e = true → done.contains e.on = true)
  | [], i, done, j => by simp [readyL]
  | o :: os, i, done, j => by
    have ih := mem_readyL os (i + 1) done j
    have hd : (direct o).all done.contains = true ↔ ∀ e ∈ o.after, Region.binds .any e = true → done.contains e.on = true := by
      rw [List.all_eq_true]
      constructor
      · intro h e he hb; exact h e.on (List.mem_map.2 ⟨e, List.mem_filter.2 ⟨by simpa using he, hb⟩, rfl⟩)
      · intro h x hx
        obtain ⟨e, he, rfl⟩ := List.mem_map.1 hx
        obtain ⟨h1, h2⟩ := List.mem_filter.1 he
        exact h e (by simpa using h1) h2
    have key : j ∈ readyL (o :: os) i done ↔ (j = i ∧ done.contains i = false ∧ (direct o).all done.contains = true) ∨ j ∈ readyL os (i + 1) done := by
      simp only [readyL]
      by_cases h : (!done.contains i && (direct o).all done.contains) = true
      · rw [if_pos h]; simp only [Bool.and_eq_true, Bool.not_eq_true'] at h
        simp only [List.mem_cons, h.1, h.2, and_true]
      · rw [if_neg h]
        constructor
        · exact .inr
        · rintro (⟨_, h1, h2⟩ | h1)
          · exact absurd (by rw [h1, h2]; rfl) h
          · exact h1
    rw [key, ih, hd]
    constructor
    · rintro (⟨rfl, h1, h2⟩ | ⟨u, h1, h2, h3, h4⟩)
      · exact ⟨o, Nat.le_refl _, by simp, h1, h2⟩
      · refine ⟨u, by omega, ?_, h3, h4⟩
        rw [show j - i = (j - (i + 1)) + 1 by omega]; simpa using h2
    · rintro ⟨u, h1, h2, h3, h4⟩
      by_cases e : j = i
      · subst e; simp at h2; subst h2; exact .inl ⟨rfl, h3, h4⟩
      · refine .inr ⟨u, by omega, ?_, h3, h4⟩
        rw [show j - i = (j - (i + 1)) + 1 by omega] at h2; simpa using h2

def inB (n : Nat) (done : List Nat) : Prop := ∀ x ∈ done, x < n
theorem ready_marks {ops : List Oper} {done : List Nat} (hin : inB ops.length done) : ∀ j, j ∈ Region.ready .any ops.toArray (marks ops.length done) ↔ j ∈ readyL ops 0 done := by
  intro j
  rw [mem_ready, mem_readyL]
  constructor
  · rintro ⟨h1, o, h2, h3⟩
    have hlt : j < ops.length := by simpa using (Array.getElem?_eq_some_iff.1 h2).1
    rw [marks_getD _ hlt] at h1
    refine ⟨o, Nat.zero_le _, by simpa using h2, by simpa using h1, fun e he hb => ?_⟩
    have := h3 e he hb
    by_cases hl : e.on < ops.length
    · rw [marks_getD _ hl] at this; exact this
    · rw [marks_getD_ge _ hl] at this; cases this
  · rintro ⟨o, _, h2, h3, h4⟩
    have hlt : j < ops.length := by simpa using (List.getElem?_eq_some_iff.1 h2).1
    refine ⟨by rw [marks_getD _ hlt]; exact h3, o, by simpa using h2, fun e he hb => ?_⟩
    have := h4 e he hb
    by_cases hl : e.on < ops.length
    · rw [marks_getD _ hl]; exact this
    · exact absurd (hin _ (by simpa using this)) hl
/-- for whom each waits, in the order of the text -/
def maskOf (acc : List Nat) (ks : List Nat) : Nat := ks.foldl (fun m k => m ||| (1 <<< k ||| acc.getD k 0)) 0
theorem maskOf_bit (acc : List Nat) (x : Nat) : ∀ (ks : List Nat) (m : Nat), (ks.foldl (fun m k => m ||| (1 <<< k ||| acc.getD k 0)) m).testBit x = true →
    m.testBit x = true ∨ ∃ k ∈ ks, x = k ∨ (acc.getD k 0).testBit x = true
  | [], m, h => .inl h
  | k :: ks, m, h => by
    rcases maskOf_bit acc x ks _ h with h1 | ⟨y, hy, h1⟩
    · rw [Nat.testBit_or, Nat.testBit_or, Nat.one_shiftLeft, Nat.testBit_two_pow] at h1
      simp only [Bool.or_eq_true, decide_eq_true_eq] at h1
      rcases h1 with h1 | h1 | h1
      · exact .inl h1
      · exact .inr ⟨k, by simp, .inl h1.symm⟩
      · exact .inr ⟨k, by simp, .inr h1⟩
    · exact .inr ⟨y, by simp [hy], h1⟩
def ancs : List Oper → List Nat → List Nat
  | [], acc => acc
  | o :: os, acc => ancs os (acc ++ [maskOf acc (direct o)])
def ancsOf (ops : List Oper) : List Nat := ancs ops []
def hasB (A : List Nat) (j i : Nat) : Bool := (A.getD j 0).testBit i
theorem ancs_sound (all : List Oper) : ∀ (os : List Oper) (acc : List Nat) (pre : List Oper), all = pre ++ os → acc.length = pre.length →
    (∀ j x, hasB acc j x = true → Anc .any all.toArray j x) → ∀ j x, hasB (ancs os acc) j x = true → Anc .any all.toArray j x
  | [], acc, pre, _, _, h => h
  | o :: os, acc, pre, hall, hlen, h => by
    refine ancs_sound all os _ (pre ++ [o]) (by simp [hall]) (by simp [hlen]) ?_
    intro j x hx
    unfold hasB at hx h
    by_cases hj : j < acc.length
    · rw [List.getD_eq_getElem?_getD, List.getElem?_append_left hj] at hx; exact h j x (by rw [List.getD_eq_getElem?_getD]; exact hx)
    · by_cases hj' : j = acc.length
      · subst hj'
        rw [List.getD_eq_getElem?_getD, List.getElem?_append_right (Nat.le_refl _)] at hx
        simp only [Nat.sub_self, List.getElem?_cons_zero, Option.getD_some] at hx
        rcases maskOf_bit acc x _ _ hx with h0 | ⟨k, hk, hx⟩
        · simp at h0
        obtain ⟨e, he, rfl⟩ := List.mem_map.1 hk
        obtain ⟨h1, h2⟩ := List.mem_filter.1 he
        have hb : Anc .any all.toArray acc.length e.on := .base (o := o) (by simp [hall, hlen]) (by simpa using h1) h2
        rcases hx with rfl | hx
        · exact hb
        · exact .trans hb (h _ _ hx)
      · rw [List.getD_eq_getElem?_getD, List.getElem?_eq_none (by simp; omega)] at hx; simp at hx
theorem ancsOf_sound {ops : List Oper} {j x : Nat} (h : hasB (ancsOf ops) j x = true) : Anc .any ops.toArray j x :=
  ancs_sound ops ops [] [] rfl rfl (by intro j x h; simp [hasB] at h) j x h
/-- everything else stands ahead of it, or behind it -/
def syncL (ops : List Oper) (A : List Nat) (j : Nat) : Bool := (List.range ops.length).all fun i => Nat.beq i j || hasB A j i || hasB A i j
def freeL (ops : List Oper) (A : List Nat) (done : List Nat) (i : Nat) (oi : Oper) : List Oper → Nat → Bool
  | [], _ => true
  | oj :: os, j => (Nat.beq j i || done.contains j || hasB A j i || (oi.apart ops.toArray oj && !syncL ops A j)) && freeL ops A done i oi os (j + 1)
theorem freeL_sound {ops : List Oper} {A : List Nat} {done : List Nat} {i : Nat} {oi : Oper} : ∀ (os : List Oper) (n : Nat), freeL ops A done i oi os n = true →
    ∀ j oj, n ≤ j → os[j - n]? = some oj → j ≠ i → done.contains j = false → hasB A j i = false → oi.apart ops.toArray oj = true ∧ (!syncL ops A j) = true
  | [], _, _, _, _, _, h, _, _, _ => by simp at h
  | o :: os, n, h, j, oj, hle, hj, hne, hd, ha => by
    simp only [freeL, Bool.and_eq_true] at h
    by_cases e : j = n
    · subst e
      simp at hj; subst hj
      have := h.1
      have hne' : Nat.beq j i = false := by
        cases hb : Nat.beq j i with
        | false => rfl
        | true => exact absurd (Nat.eq_of_beq_eq_true hb) hne
      simp only [hne', hd, ha, Bool.false_or, Bool.and_eq_true] at this
      exact this
    · refine freeL_sound os (n + 1) h.2 j oj (by omega) ?_ hne hd ha
      rw [show j - n = (j - (n + 1)) + 1 by omega] at hj; simpa using hj

section
variable {P : Program} {c : Cx} {k : List Item} {e : Env} {l R : HL} {ops : List Oper} {A : List Nat} {n : Nat} {dn : List Nat}
def SR (w0 : World) (R : HL) (w : World) : Prop := ∃ m, Sat w0 w (R ++ m)
theorem Ent.left (R m : HL) : Ent (R ++ m) R := fun _ H => by
  obtain ⟨x, y, d, rfl, h1, _⟩ := sep_append.1 H; exact sep_up d h1
/-- a region whose order is drawn, so many operations to come, some dn -/
def RunD (P : Program) (c : Cx) (ops : List Oper) (A : List Nat) (R : HL) (k : List Item) (n : Nat) (dn : List Nat) (e : Env) (l : HL) : Prop :=
  A = ancsOf ops → inB ops.length dn → Closed .any ops.toArray (marks ops.length dn) → ∀ a w, EnvOK c.N a e → Sat c.w0 w l →
    anyN P .any ops.toArray (QK P c k) (SR c.w0 R) (fun j => !syncL ops A j) n (marks ops.length dn) a w
theorem marks_nil (n : Nat) : marks n [] = Array.replicate n false := by
  apply Array.ext <;> simp [marks]
theorem Run.draw {id : Nat} (hm : P.follows .mixedOrders = true) (R : HL) (h : RunD P c ops (ancsOf ops) R k ops.length [] e l) :
    Run P c (.code (.region id ops.toArray true) :: k) e l := fun a w ha hs => by
  have h1 := h rfl (fun x hx => by cases hx) (by
    intro j o ho hj; rw [marks_nil] at hj; simp [Array.getD] at hj) a { w with drawn := w.drawn + 1 } ha (hs.drew _)
  have h2 : (Code.region id ops.toArray true).wp P (QK P c k) a w := wp_region_any hm (by
    have := anyN_any _ _ _ _ h1
    rw [marks_nil] at this
    simpa using this)
  obtain ⟨x, a', w', hq, harr⟩ := h2 c.b k c.cs
  cases x <;> simp only [QK] at hq
  exact .steps harr hq
theorem Run.drawA {id : Nat} (hm : P.follows .mixedOrders = true) (R : HL) (hA : A = ancsOf ops) (h : RunD P c ops A R k ops.length [] e l) :
    Run P c (.code (.region id ops.toArray true) :: k) e l := Run.draw hm R (hA ▸ h)
theorem RunD.done (hr : readyL ops 0 dn = []) (h : Run P c k e l) : RunD P c ops A R k n dn e l := fun _ hin _ a w ha hs => by
  refine anyN_done ?_ (h a w ha hs) n
  rw [List.eq_nil_iff_forall_not_mem]
  intro j hj
  rw [ready_marks hin, hr] at hj; cases hj
theorem RunD.take (i : Nat) {op : Op} {ty : TypeId} {d : Tmp} {pos : String} {after : Array Edge} {G : (Value → Prop) → Prop} (hi : ops[i]? = some ⟨some d, op, ty, pos, after, none⟩)
    (hs : Region.noSelect ops.toArray = true) (hf : freeL ops A dn i ⟨some d, op, ty, pos, after, none⟩ ops 0 = true) (hr : (readyL ops 0 dn).contains i = true)
    (hd : Nat.blt d c.N = true) {m : HL} (hR : Ent l (R ++ m)) [h : Flt P c.w0 op ty e R G]
    (hg : G fun v => RunD P c ops A R k n (i :: dn) ((d, v) :: e) l) : RunD P c ops A R k (n + 1) dn e l := by
  obtain ⟨v, hv, hk⟩ := h.sound _ hg
  intro hA hin hcl a w ha hw
  have hlt : i < ops.length := (List.getElem?_eq_some_iff.1 hi).1
  have hrd : i ∈ Region.ready .any ops.toArray (marks ops.length dn) := by rw [ready_marks hin]; simpa using hr
  have hin' : inB ops.length (i :: dn) := by
    intro x hx; rcases List.mem_cons.1 hx with rfl | hx
    · exact hlt
    · exact hin x hx
  have hset : (marks ops.length dn).setIfInBounds i true = marks ops.length (i :: dn) := marks_set hlt
  refine anyN_take (v := v) (by simpa using hi) (Region.noSelect_spec hs) (fun c a w h => by simp [QK] at h) n _ a w hcl ?_ hrd ?_ ⟨m, hw.ent hR⟩ ?_
  · intro j oj hj hji hjd hanc
    have hjl : j < ops.length := by simpa using (Array.getElem?_eq_some_iff.1 hj).1
    rw [marks_getD _ hjl] at hjd
    refine freeL_sound ops 0 hf j oj (Nat.zero_le _) (by simpa using hj) hji hjd ?_
    cases hc : hasB A j i with
    | false => rfl
    | true => exact absurd (ancsOf_sound (by rw [← hA]; exact hc)) hanc
  · refine .inl ⟨by simp [Region.wanted], fun w' ⟨m', hs'⟩ => ?_⟩
    rw [execOp_only]
    exact hv a.eval w' ha.eval (hs'.ent (Ent.left _ _))
  · have := hk hA hin' (by rw [← hset]; exact hcl.set hrd) (a.put (some d) v) w (ha.put (d := some d) hd v) hw
    rw [hset]; exact this
/-- an operation's turn -/
def RunE (P : Program) (c : Cx) (ops : List Oper) (A : List Nat) (R : HL) (k : List Item) (n : Nat) (dn : List Nat) (i : Nat) (e : Env) (l : HL) : Prop :=
  A = ancsOf ops → inB ops.length dn → Closed .any ops.toArray (marks ops.length dn) → i ∈ Region.ready .any ops.toArray (marks ops.length dn) → ∀ a w, EnvOK c.N a e → Sat c.w0 w l →
    wpOp P ops.toArray (QK P c k) i (fun a' w' => ((!syncL ops A i) = true → SR c.w0 R w') ∧
      anyN P .any ops.toArray (QK P c k) (SR c.w0 R) (fun j => !syncL ops A j) n ((marks ops.length dn).setIfInBounds i true) a' w') a w
theorem RunD.eff {is : List Nat} (hr : readyL ops 0 dn = is) (hne : is ≠ []) (h : ∀ i ∈ is, RunE P c ops A R k n dn i e l) : RunD P c ops A R k (n + 1) dn e l := by
  intro hA hin hcl a w ha hw
  have hmem : ∀ j, j ∈ Region.ready .any ops.toArray (marks ops.length dn) → j ∈ is := fun j hj => by rw [ready_marks hin, hr] at hj; exact hj
  refine anyN_all rfl ?_ fun j hj => h j (hmem j hj) hA hin hcl hj a w ha hw
  intro h0
  cases is with
  | nil => exact hne rfl
  | cons x xs =>
    have : x ∈ readyL ops 0 dn := by rw [hr]; simp
    rw [← ready_marks hin, h0] at this; cases this
theorem RunD.eff1 {i : Nat} (hr : readyL ops 0 dn = [i]) (h : RunE P c ops A R k n dn i e l) : RunD P c ops A R k (n + 1) dn e l :=
  RunD.eff hr (by simp) fun j hj => by simp at hj; subst hj; exact h
theorem RunD.eff2 {i j : Nat} (hr : readyL ops 0 dn = [i, j]) (h : RunE P c ops A R k n dn i e l) (h' : RunE P c ops A R k n dn j e l) : RunD P c ops A R k (n + 1) dn e l :=
  RunD.eff hr (by simp) fun x hx => by simp at hx; rcases hx with rfl | rfl <;> assumption
/-- what is to hold behind an effect: it stands alone, or the read part stands yet -/
def Keeps (ops : List Oper) (A : List Nat) (R : HL) (i : Nat) (l : HL) : Prop := syncL ops A i = true ∨ ∃ m, Ent l (R ++ m)
theorem RunE.op {i : Nat} {o : Oper} {G : (Value → HL → Prop) → Prop} (hi : ops[i]? = some o) (hgd : o.guard = none) (hd : dstOk c.N o.dst = true) [r : Rule P c.w0 o.op o.type e l G]
    (hg : G fun v l' => Keeps ops A R i l' ∧ RunD P c ops A R k n (i :: dn) (upd e o.dst v) l') : RunE P c ops A R k n dn i e l := by
  intro hA hin hcl hrd a w ha hw
  have hlt : i < ops.length := (List.getElem?_eq_some_iff.1 hi).1
  have hin' : inB ops.length (i :: dn) := by
    intro x hx; rcases List.mem_cons.1 hx with rfl | hx
    · exact hlt
    · exact hin x hx
  have hset : (marks ops.length dn).setIfInBounds i true = marks ops.length (i :: dn) := marks_set hlt
  have hi' : ops.toArray[i]? = some o := by simpa using hi
  unfold wpOp
  simp only [hi']
  rw [if_pos (by simp [Region.wanted, hgd])]
  refine .inl (OpG.wp ha hw hd (r.sound _ hg) ?_)
  rintro v l' a' w' ⟨hk, hrun⟩ ha' hw'
  refine ⟨fun hns => ?_, ?_⟩
  · rcases hk with hk | ⟨m, hm⟩
    · rw [hk] at hns; cases hns
    · exact ⟨m, hw'.ent hm⟩
  · rw [hset]; exact hrun hA hin' (by rw [← hset]; exact hcl.set hrd) a' w' ha' hw'
/-- a guarded operation that is passed over, or that looks -/
theorem RunD.takeN (i : Nat) {op : Op} {ty : TypeId} {d j t : Nat} {want b : Bool} {pos : String} {after : Array Edge} (hi : ops[i]? = some ⟨some d, op, ty, pos, after, some (j, want)⟩)
    (hj : (ops[j]?).bind (·.dst) = some t) (ht : lk e t = some (.bool b)) (hb : (b == want) = false)
    (hs : Region.noSelect ops.toArray = true) (hf : freeL ops A dn i ⟨some d, op, ty, pos, after, some (j, want)⟩ ops 0 = true) (hr : (readyL ops 0 dn).contains i = true)
    (hd : Nat.blt d c.N = true) {m : HL} (hR : Ent l (R ++ m))
    (hg : RunD P c ops A R k n (i :: dn) ((d, undef) :: e) l) : RunD P c ops A R k (n + 1) dn e l := by
  intro hA hin hcl a w ha hw
  have hlt : i < ops.length := (List.getElem?_eq_some_iff.1 hi).1
  have hrd : i ∈ Region.ready .any ops.toArray (marks ops.length dn) := by rw [ready_marks hin]; simpa using hr
  have hin' : inB ops.length (i :: dn) := by
    intro x hx; rcases List.mem_cons.1 hx with rfl | hx
    · exact hlt
    · exact hin x hx
  have hset : (marks ops.length dn).setIfInBounds i true = marks ops.length (i :: dn) := marks_set hlt
  refine anyN_take (v := undef) (by simpa using hi) (Region.noSelect_spec hs) (fun c a w h => by simp [QK] at h) n _ a w hcl ?_ hrd ?_ ⟨m, hw.ent hR⟩ ?_
  · intro j' oj hj' hji hjd hanc
    have hjl : j' < ops.length := by simpa using (Array.getElem?_eq_some_iff.1 hj').1
    rw [marks_getD _ hjl] at hjd
    refine freeL_sound ops 0 hf j' oj (Nat.zero_le _) (by simpa using hj') hji hjd ?_
    cases hc : hasB A j' i with
    | false => rfl
    | true => exact absurd (ancsOf_sound (by rw [← hA]; exact hc)) hanc
  · refine .inr ⟨?_, rfl⟩
    simp [Region.wanted, yielded_of (ops := ops.toArray) ha (by simpa using hj) ht]; simpa using hb
  · have := hg hA hin' (by rw [← hset]; exact hcl.set hrd) (a.put (some d) undef) w (ha.put (d := some d) hd undef) hw
    rw [hset]; exact this
theorem RunD.takeW (i : Nat) {op : Op} {ty : TypeId} {d j t : Nat} {want : Bool} {pos : String} {after : Array Edge} {G : (Value → Prop) → Prop} (hi : ops[i]? = some ⟨some d, op, ty, pos, after, some (j, want)⟩)
    (hj : (ops[j]?).bind (·.dst) = some t) (ht : lk e t = some (.bool want))
    (hs : Region.noSelect ops.toArray = true) (hf : freeL ops A dn i ⟨some d, op, ty, pos, after, some (j, want)⟩ ops 0 = true) (hr : (readyL ops 0 dn).contains i = true)
    (hd : Nat.blt d c.N = true) {m : HL} (hR : Ent l (R ++ m)) [h : Flt P c.w0 op ty e R G]
    (hg : G fun v => RunD P c ops A R k n (i :: dn) ((d, v) :: e) l) : RunD P c ops A R k (n + 1) dn e l := by
  obtain ⟨v, hv, hk⟩ := h.sound _ hg
  intro hA hin hcl a w ha hw
  have hlt : i < ops.length := (List.getElem?_eq_some_iff.1 hi).1
  have hrd : i ∈ Region.ready .any ops.toArray (marks ops.length dn) := by rw [ready_marks hin]; simpa using hr
  have hin' : inB ops.length (i :: dn) := by
    intro x hx; rcases List.mem_cons.1 hx with rfl | hx
    · exact hlt
    · exact hin x hx
  have hset : (marks ops.length dn).setIfInBounds i true = marks ops.length (i :: dn) := marks_set hlt
  refine anyN_take (v := v) (by simpa using hi) (Region.noSelect_spec hs) (fun c a w h => by simp [QK] at h) n _ a w hcl ?_ hrd ?_ ⟨m, hw.ent hR⟩ ?_
  · intro j' oj hj' hji hjd hanc
    have hjl : j' < ops.length := by simpa using (Array.getElem?_eq_some_iff.1 hj').1
    rw [marks_getD _ hjl] at hjd
    refine freeL_sound ops 0 hf j' oj (Nat.zero_le _) (by simpa using hj') hji hjd ?_
    cases hc : hasB A j' i with
    | false => rfl
    | true => exact absurd (ancsOf_sound (by rw [← hA]; exact hc)) hanc
  · refine .inl ⟨by simp [Region.wanted, yielded_of (ops := ops.toArray) ha (by simpa using hj) ht], fun w' ⟨m', hs'⟩ => ?_⟩
    rw [execOp_only]
    exact hv a.eval w' ha.eval (hs'.ent (Ent.left _ _))
  · have := hk hA hin' (by rw [← hset]; exact hcl.set hrd) (a.put (some d) v) w (ha.put (d := some d) hd v) hw
    rw [hset]; exact this
end
end Go.Sl
/- The tables by the kernel. -/
open Go Go.RowKit
namespace Go.Sl
section
variable {P : Program} {k : List Item} {e : Env} {l : HL} {w0 : World} {f : FuncId} {cs : List Frame} {N : Nat} {K : Value → HL → Prop} {fn : Func} {v u : Value} {t s : Tmp}
theorem ret0 (hf : P.funcs[f]? = some fn) (h1 : fn.results = #[]) (h : K (.tuple #[]) l) : Run P (Cx.of w0 f cs N K) (.code .ret :: k) e l := Run.ret hf (ResG.none h1) h
theorem fin0 (hf : P.funcs[f]? = some fn) (h1 : fn.results = #[]) (h : K (.tuple #[]) l) : Run P (Cx.of w0 f cs N K) [] e l := Run.fin hf (ResG.none h1) h
theorem ret1 (hf : P.funcs[f]? = some fn) (h1 : fn.results = #[.tmp t]) (h : Let (lk e t) fun v => K v l) : Run P (Cx.of w0 f cs N K) (.code .ret :: k) e l :=
  let ⟨_, h2, h3⟩ := h; Run.ret hf (ResG.one h1 h2) h3
theorem ret2 (hf : P.funcs[f]? = some fn) (h1 : fn.results = #[.tmp t, .tmp s]) (h : Let (lk e t) fun v => Let (lk e s) fun u => K (.tuple #[v, u]) l) :
    Run P (Cx.of w0 f cs N K) (.code .ret :: k) e l := let ⟨_, h2, _, h3, h4⟩ := h; Run.ret hf (ResG.two h1 h2 h3) h4
end
/-! the tables' facts, as Bools for the kernel -/
def isAggD : TypeDesc → Bool
  | .struct _ | .array _ _ => true
  | _ => false
def scaB (P : Program) (t : TypeId) : Bool := match P.underlying t, P.info? t with
  | some d, some i => !isAggD d && Nat.beq i.size 1
  | _, _ => false
theorem Sca.of {P : Program} {t : TypeId} (h : scaB P t = true) : Sca P t := by
  unfold scaB at h
  split at h
  · rename_i d i h1 h2
    simp only [Bool.and_eq_true, Bool.not_eq_true'] at h
    exact ⟨d, i, h1, by have := h.1; cases d <;> simp_all [isAggD], h2, Nat.eq_of_beq_eq_true h.2⟩
  · cases h
def aggB (P : Program) (t : TypeId) (n : Nat) : Bool := match P.underlying t, P.info? t with
  | some d, some i => isAggD d && Nat.beq i.size n
  | _, _ => false
theorem Agg.of {P : Program} {t n : TypeId} (h : aggB P t n = true) : Agg P t n := by
  unfold aggB at h
  split at h
  · rename_i d i h1 h2
    simp only [Bool.and_eq_true] at h
    exact ⟨d, i, h1, by have := h.1; cases d <;> simp_all [isAggD], h2, Nat.eq_of_beq_eq_true h.2⟩
  · cases h
theorem Siz.of {P : Program} {t : TypeId} {n : Nat} (h : (P.info? t).map (·.size) = some n) : Siz P t n := by
  cases hi : P.info? t with
  | none => simp [hi] at h
  | some i => exact ⟨i, hi, by simpa [hi] using h⟩
theorem Byt.of {P : Program} {t : TypeId} {n : Nat} (h : (P.info? t).map (·.bytes) = some n) : Byt P t n := by
  cases hi : P.info? t with
  | none => simp [hi] at h
  | some i => exact ⟨i, hi, by simpa [hi] using h⟩
theorem Zer.of {P : Program} {t : TypeId} {z : List Value} (h : ((P.info? t).bind (·.zero)).map (·.cells) = some z.toArray) : Zer P t z := by
  cases hi : P.info? t with
  | none => simp [hi] at h
  | some i =>
    cases hz : i.zero with
    | none => simp [hi, hz] at h
    | some v => exact ⟨i, v, hi, hz, by simpa [hi, hz] using h⟩
def fldB (P : Program) (t : TypeId) (f k : Nat) : Bool := match P.underlying t with
  | some (.struct fs) => match fs[f]? with
    | some fl => Nat.beq fl.offset k && (match P.info? fl.type with | some i => !Nat.beq i.size 0 | none => false)
    | none => false
  | _ => false
theorem Fld.of {P : Program} {t : TypeId} {f k : Nat} (h : fldB P t f k = true) : Fld P t f k := by
  unfold fldB at h
  split at h
  · rename_i fs h1
    split at h
    · rename_i fl h2
      simp only [Bool.and_eq_true] at h
      obtain ⟨h3, h4⟩ := h
      split at h4
      · rename_i i h5
        refine ⟨fs, fl, i, h1, h2, Nat.eq_of_beq_eq_true h3, h5, fun e => ?_⟩
        rw [e] at h4; cases h4
      · cases h4
    · cases h
  · cases h
theorem FldV.of {P : Program} {t : TypeId} {f k ft : Nat} (h : (match P.underlying t with | some (.struct fs) => (fs[f]?).map (fun fl => (fl.offset, fl.type)) | _ => none) = some (k, ft)) : FldV P t f k ft := by
  split at h
  · rename_i fs h1
    cases h2 : fs[f]? with
    | none => simp [h2] at h
    | some fl => simp [h2] at h; exact ⟨fs, fl, h1, h2, h.1, h.2⟩
  · cases h
def fncB (P : Program) (f : FuncId) : Bool := match P.funcs[f]? with
  | some fn => !(fn.name == "runtime.NumGoroutine") && !fn.body.isNone
  | none => false
theorem FnC.of {P : Program} {f : FuncId} (h : fncB P f = true) : FnC P f := by
  unfold fncB at h
  split at h
  · rename_i fn h1
    simp only [Bool.and_eq_true, Bool.not_eq_true'] at h
    exact ⟨fn, h1, h.1, h.2⟩
  · cases h
end Go.Sl
/- The steps of a walk: things that are built; slices of the call's own, and append. -/
open Go Go.RowKit
namespace Go.Sl
section
variable {P : Program} {w0 : World} {e : Env} {l : HL} {ty t : TypeId} {x y : Operand}

/-! structs and arrays by value -/
def evp (e : Env) : List (Nat × Operand) → Option (List (Nat × Value))
  | [] => some []
  | (i, x) :: xs => match ev e x with
    | none => none
    | some v => match evp e xs with
      | none => none
      | some vs => some ((i, v) :: vs)
theorem evp_map {e : Env} {ρ : Operand → Value} (hρ : ∀ x v, ev e x = some v → ρ x = v) : ∀ (xs : List (Nat × Operand)) (vs : List (Nat × Value)), evp e xs = some vs →
    xs.map (fun p => (p.1, ρ p.2)) = vs
  | [], vs, h => by simp [evp] at h; simp [h]
  | (i, x) :: xs, vs, h => by
    simp only [evp] at h
    cases h1 : ev e x with
    | none => simp [h1] at h
    | some v =>
      cases h2 : evp e xs with
      | none => simp [h1, h2] at h
      | some us =>
        simp only [h1, h2, Option.some.injEq] at h; subst h
        simp [hρ x v h1, evp_map hρ xs us h2]
/-- the places of a struct's fields, or of an array's first elements -/
class Plc (P : Program) (t : TypeId) (i : Nat) (off sz : outParam Nat) : Prop where
  struct_or_array : (∃ fs fl inf, P.underlying t = some (.struct fs) ∧ fs[i]? = some fl ∧ fl.offset = off ∧ P.info? fl.type = some inf ∧ inf.size = sz) ∨
    (∃ n el inf, P.underlying t = some (.array n el) ∧ P.info? el = some inf ∧ inf.size = sz ∧ off = i * sz)
def layAll (z : List Value) : List (Nat × Nat × List Value) → List Value
  | [] => z
  | (off, _, vs) :: r => layAll (lay z off vs) r
theorem length_lay : ∀ (vs c : List Value) (i : Nat), (lay c i vs).length = c.length
  | [], c, i => rfl
  | v :: vs, c, i => by simp [lay, length_lay vs]
theorem foldl_lay (off : Nat) : ∀ (vs : List Value) (j : Nat) (c : List Value),
    (vs.zipIdx j).foldl (fun (cs : Array Value) (p : Value × Nat) => cs.setIfInBounds (off + p.2) p.1) c.toArray = (lay c (off + j) vs).toArray
  | [], j, c => by simp [lay]
  | v :: vs, j, c => by
    simp only [List.zipIdx_cons, List.foldl_cons, lay]
    rw [show (c.toArray.setIfInBounds (off + j) v) = (c.set (off + j) v).toArray by simp]
    rw [foldl_lay off vs (j + 1)]; rfl
theorem fill_step {place : Nat → Option (Nat × Nat)} {c : List Value} {i off sz : Nat} {v : Value} {vs : List Value} {rest : List (Nat × Value)}
    (hp : place i = some (off, sz)) (hv : v.cells = vs.toArray) (hs : vs.length = sz) (hl : off + vs.length ≤ c.length) :
    Instr.fill place c.toArray ((i, v) :: rest) = Instr.fill place (lay c off vs).toArray rest := by
  simp only [Instr.fill, hp, hv]
  rw [if_neg (by simp [hs]; omega)]
  congr 1
  have := foldl_lay off vs 0 c
  simp only [Nat.add_zero] at this
  rw [← this, ← Array.foldl_toList]
  congr 1
  simp
/-- the parts of a struct, one by one -/
class Parts (P : Program) (t : TypeId) (z : List Value) (ps : List (Nat × Value)) (r : outParam (List Value)) : Prop where
  h : ∀ place : Nat → Option (Nat × Nat), (∀ i off sz, Plc P t i off sz → place i = some (off, sz)) → Instr.fill place z.toArray ps = some r.toArray
instance {z : List Value} : Parts P t z [] z := ⟨fun _ _ => rfl⟩
class LenOk (n m : Nat) : Prop where
  h : n = m
instance {n : Nat} : LenOk n n := ⟨rfl⟩
class Fits (off : Nat) (vs c : List Value) : Prop where
  h : off + vs.length ≤ c.length
instance {c : List Value} : Fits 0 [] c := ⟨by simp⟩
instance {x v : Value} {c vs : List Value} [h : Fits 0 vs c] : Fits 0 (v :: vs) (x :: c) := ⟨by have := h.h; simp; omega⟩
instance {x : Value} {c vs : List Value} {n : Nat} [h : Fits n vs c] : Fits (n + 1) vs (x :: c) := ⟨by have := h.h; simp; omega⟩
class Long (vs : List Value) (n : outParam Nat) : Prop where
  h : vs.length = n
instance : Long [] 0 := ⟨rfl⟩
instance {v : Value} {vs : List Value} {n : Nat} [h : Long vs n] : Long (v :: vs) (n + 1) := ⟨by simp [h.h]⟩
class SameN (n m : Nat) : Prop where
  h : n = m
instance {n : Nat} : SameN n n := ⟨rfl⟩
instance {z z' r vs : List Value} {i off sz n : Nat} {v : Value} {ps : List (Nat × Value)} [hp : Plc P t i off sz] [hc : CellsR v vs] [hn : Long vs n] [he : SameN n sz] [hf : Fits off vs z] [hl : LayR z off vs z'] [hr : Parts P t z' ps r] :
    Parts P t z ((i, v) :: ps) r := ⟨fun place hpl => by
  rw [fill_step (hpl i off sz hp) hc.h (hn.h.trans he.h) hf.h, ← hl.h]; exact hr.h place hpl⟩
def BuildG (P : Program) (t : TypeId) (ps : List (Nat × Value)) (K : Value → Prop) : Prop := ∃ r, (∀ w, (Instr.build t ps.toArray).run P w = .ok r w) ∧ K r
instance Flt.build {xs : List (Nat × Operand)} : Flt P w0 (.build t xs.toArray) ty e l (fun K => Let (evp e xs) fun ps => BuildG P t ps K) :=
  ⟨fun K ⟨ps, hps, r, h1, h2⟩ => ⟨r, fun ρ w hρ hs => by
    have hm := evp_map hρ xs ps hps
    have : (xs.toArray.map fun (p : Nat × Operand) => (p.1, ρ p.2)) = ps.toArray := by simp [hm]
    simp only [execOp, Sem.run_bind]
    rw [show (Array.map (fun x => match x with | (i, x) => (i, ρ x)) xs.toArray) = ps.toArray from this, h1]; simp, h2⟩⟩
theorem run_mapM_places {P : Program} {w : World} : ∀ (fs : List Field), (∀ f ∈ fs, ∃ i, P.info? f.type = some i) →
    (fs.mapM (fun (f : Field) => do let s ← sizeOf f.type; pure (f.offset, s) : Field → Sem (Nat × Nat))).run P w = .ok (fs.map fun f => (f.offset, P.cellsOf f.type)) w
  | [], _ => by simp
  | f :: fs, h => by
    obtain ⟨i, hi⟩ := h f (by simp)
    simp only [List.mapM_cons, Sem.run_bind, run_sizeOf hi, Result.andThen_ok, Sem.run_pure, List.map_cons]
    rw [run_mapM_places fs (fun g hg => h g (by simp [hg]))]
    simp [Program.cellsOf, hi]

/-- a struct that can be built -/
class Bst (P : Program) (t : TypeId) (z : outParam (List Value)) : Prop where
  h : ∃ i v fs, P.info? t = some i ∧ i.zero = some v ∧ v.cells = z.toArray ∧ P.underlying t = some (.struct fs) ∧ ∀ f ∈ fs.toList, ∃ j, P.info? f.type = some j
instance {z r : List Value} {ps : List (Nat × Value)} {K : Value → Prop} [hb : Bst P t z] [hp : Parts P t z ps r] : Step (BuildG P t ps K) (K (.agg r.toArray)) :=
  ⟨fun hk => ⟨_, fun w => by
    obtain ⟨i, v, fs, h1, h2, h3, h4, h5⟩ := hb.h
    have hm : (fs.mapM (fun (f : Field) => do let s ← sizeOf f.type; pure (f.offset, s) : Field → Sem (Nat × Nat))).run P w = .ok (fs.toList.map fun f => (f.offset, P.cellsOf f.type)).toArray w := by
      rw [Array.mapM_eq_mapM_toList, Sem.run_map, run_mapM_places fs.toList h5]; rfl
    have hf : Instr.fill (fun x => (fs.toList.map fun f => (f.offset, P.cellsOf f.type)).toArray[x]?) z.toArray ps = some r.toArray := hp.h _ fun j off sz hj => by
      rcases hj.struct_or_array with ⟨fs', fl, inf, e1, e2, e3, e4, e5⟩ | ⟨n, el, inf, e1, _⟩
      · rw [h4] at e1; cases e1
        simp [Array.getElem?_toList, e2, e3, Program.cellsOf, e4, e5]
      · rw [h4] at e1; cases e1
    simp only [Instr.build, Sem.run_bind, run_zeroValue h1 h2, Result.andThen_ok, run_und h4, h3]
    rw [hm]; simp only [Result.andThen_ok, hf]; rfl, hk⟩⟩

/-! slices by their elements -/
class AppR (a b : List Value) (r : outParam (List Value)) : Prop where
  h : r = a ++ b
instance {b : List Value} : AppR [] b b := ⟨rfl⟩
instance {x : Value} {a b r : List Value} [h : AppR a b r] : AppR (x :: a) b (x :: r) := ⟨by rw [h.h]; rfl⟩
/-- parts in their order, whole -/
class SeqR (sz k : Nat) (ps : List (Nat × Value)) (n : outParam Nat) (r : outParam (List Value)) : Prop where
  h : r.length = n * sz ∧ ∀ c : List Value, c.length = (k + n) * sz → Instr.fill (fun i => some (i * sz, sz)) c.toArray ps = some (c.take (k * sz) ++ r).toArray
instance {sz k : Nat} : SeqR sz k [] 0 [] := ⟨by simp, fun c hc => by simp [Instr.fill]; rw [List.take_of_length_le (by rw [hc]; simp)]⟩
theorem lay_mid : ∀ (vs a m b : List Value), m.length = vs.length → lay (a ++ m ++ b) a.length vs = a ++ vs ++ b
  | [], a, m, b, h => by
    have : m = [] := List.eq_nil_of_length_eq_zero (by simpa using h)
    subst this; simp [lay]
  | v :: vs, a, m, b, h => by
    cases m with
    | nil => simp at h
    | cons x m =>
      have h' : m.length = vs.length := by simpa using h
      have := lay_mid vs (a ++ [v]) m b h'
      simp only [lay]
      rw [show (a ++ x :: m ++ b).set a.length v = (a ++ [v]) ++ m ++ b by simp]
      simpa using this
instance {sz k n m : Nat} {v : Value} {vs rs r : List Value} {ps : List (Nat × Value)} [hc : CellsR v vs] [hn : Long vs m] [he : SameN m sz] [hr : SeqR sz (k + 1) ps n rs] [ha : AppR vs rs r] :
    SeqR sz k ((k, v) :: ps) (n + 1) r := ⟨by
  have h1 := hn.h.trans he.h
  refine ⟨by rw [ha.h, List.length_append, hr.h.1, h1, Nat.add_mul]; omega, fun c hl => ?_⟩
  have e1 : (k + (n + 1)) * sz = k * sz + sz + n * sz := by rw [Nat.add_mul, Nat.add_mul]; omega
  have hfit : k * sz + vs.length ≤ c.length := by rw [hl, e1, h1]; omega
  rw [fill_step rfl hc.h h1 hfit]
  rw [hr.h.2 _ (by rw [length_lay, hl, Nat.add_right_comm, Nat.add_assoc])]
  have hsplit : c = c.take (k * sz) ++ (c.drop (k * sz)).take sz ++ c.drop (k * sz + sz) := by
    conv => lhs; rw [← List.take_append_drop (k * sz) c]
    rw [List.append_assoc, ← List.drop_drop]; rw [List.take_append_drop sz]
  have htl : (c.take (k * sz)).length = k * sz := by simp [hl, e1]; omega
  have hml : ((c.drop (k * sz)).take sz).length = vs.length := by simp [hl, e1, h1]; omega
  have hlay : lay c (k * sz) vs = c.take (k * sz) ++ vs ++ c.drop (k * sz + sz) := by
    conv => lhs; rw [hsplit]
    have := lay_mid vs (c.take (k * sz)) ((c.drop (k * sz)).take sz) (c.drop (k * sz + sz)) hml
    rw [htl] at this; exact this
  rw [hlay, ha.h]
  congr 2
  have : (k + 1) * sz = (c.take (k * sz) ++ vs).length := by rw [List.length_append, htl, h1, Nat.add_mul]; omega
  rw [this, List.take_left']
  · simp
  · rfl⟩
def BslG (P : Program) (w0 : World) (t : TypeId) (len : Nat) (ps : List (Nat × Value)) (l : HL) (K : Value → HL → Prop) : Prop :=
  ∀ w, Sat w0 w l → ∃ r w' l', (Instr.buildSlice t len ps.toArray).run P w = .ok r w' ∧ Sat w0 w' l' ∧ K r l'
instance Rule.buildSlice {len : Nat} {xs : List (Nat × Operand)} : Rule P w0 (.buildSlice t len xs.toArray) ty e l (fun K => Let (evp e xs) fun ps => BslG P w0 t len ps l K) :=
  ⟨fun K ⟨ps, hps, hk⟩ ρ w hρ hs => by
    have hm := evp_map hρ xs ps hps
    have hmm : (xs.toArray.map fun (p : Nat × Operand) => (p.1, ρ p.2)) = ps.toArray := by simp [hm]
    obtain ⟨r, w', l', h1, h2, h3⟩ := hk w hs
    refine .val (v := r) (w := w') ?_ h2 h3
    simp only [execOp, Sem.run_bind]
    rw [show (Array.map (fun x => match x with | (i, x) => (i, ρ x)) xs.toArray) = ps.toArray from hmm, h1]; simp⟩
theorem length_zrow (z : Array Value) (n : Nat) : ((Array.range n).map (fun i => z[i % z.size]!)).toList.length = n := by simp
instance {len n sz : Nat} {ps : List (Nat × Value)} {r z : List Value} {el : TypeId} {K : Value → HL → Prop} [hu : Und P t (.slice el)] [hz : Siz P el sz] [hzr : Zer P el z] [hq : SeqR sz 0 ps n r] [he : SameN n len] :
    Step (BslG P w0 t len ps l K) (Nat.ble (len * sz) 16777216 = true ∧ All fun b => K (.slice (some ⟨b, 0, none⟩) len len) (cells b r el :: l)) :=
  ⟨fun ⟨hb, hk⟩ w hs => by
    obtain ⟨i, h1, h2⟩ := hz.h
    obtain ⟨i', v, h3, h4, h5⟩ := hzr.h
    rw [h1] at h3; cases h3
    have hlen := he.h
    have hb' : len * sz ≤ 16777216 := by simpa using hb
    have key : ∀ zz : Array Value, Instr.fill (fun i => some (i * sz, sz)) (Array.map (fun x => zz[x % zz.size]!) (Array.range (len * sz))) ps = some r.toArray := fun zz => by
      have hq2 := hq.h.2 ((Array.range (len * sz)).map (fun i => zz[i % zz.size]!)).toList (by rw [length_zrow]; rw [hlen]; simp)
      have e : (Array.map (fun x => zz[x % zz.size]!) (Array.range (len * sz))) = (List.map (fun i => zz[i % zz.size]!) (List.range (len * sz))).toArray := by
        apply Array.ext' ; simp [Array.toList_range]
      rw [e]; simpa using hq2
    refine ⟨_, { w with heap := w.heap.push (.cells r.toArray el) }, _, ?_, hs.newCells r el, hk _⟩
    simp only [Instr.buildSlice, Sem.run_bind, run_und hu.h, Result.andThen_ok, run_sizeOf h1, h2]
    rw [if_neg (by omega)]
    by_cases h0 : len * sz = 0
    · simp only [h0, if_true, Sem.run_bind, Sem.run_pure, Result.andThen_ok]
      have := key #[]; rw [h0] at this
      simp only [this, newRow, Sem.run_bind, run_newObj, Result.andThen_ok, Sem.run_pure]
    · simp only [h0, if_false, Sem.run_bind, run_zeroValue h1 h4, Sem.run_pure, Result.andThen_ok]
      have := key v.cells
      simp only [this, newRow, Sem.run_bind, run_newObj, Result.andThen_ok, Sem.run_pure]⟩
end
end Go.Sl
namespace Go.Sl
class Mixed (P : Program) : Prop where
  h : P.follows .mixedOrders = true
def plcB (P : Program) (t : TypeId) (i off sz : Nat) : Bool := match P.underlying t with
  | some (.struct fs) => match fs[i]? with
    | some fl => Nat.beq fl.offset off && (match P.info? fl.type with | some inf => Nat.beq inf.size sz | none => false)
    | none => false
  | _ => false
theorem Plc.of {P : Program} {t : TypeId} {i off sz : Nat} (h : plcB P t i off sz = true) : Plc P t i off sz := by
  unfold plcB at h
  split at h
  · rename_i fs h1
    split at h
    · rename_i fl h2
      simp only [Bool.and_eq_true] at h
      obtain ⟨h3, h4⟩ := h
      split at h4
      · rename_i inf h5
        exact ⟨.inl ⟨fs, fl, inf, h1, h2, Nat.eq_of_beq_eq_true h3, h5, Nat.eq_of_beq_eq_true h4⟩⟩
      · cases h4
    · cases h
  · cases h
def bstB (P : Program) (t : TypeId) : Bool := match P.underlying t with
  | some (.struct fs) => fs.toList.all fun f => (P.info? f.type).isSome
  | _ => false
theorem Bst.of {P : Program} {t : TypeId} {z : List Value} (hz : Zer P t z) (h : bstB P t = true) : Bst P t z := by
  obtain ⟨i, v, h1, h2, h3⟩ := hz.h
  unfold bstB at h
  split at h
  · rename_i fs h4
    refine ⟨i, v, fs, h1, h2, h3, h4, fun f hf => ?_⟩
    have := List.all_eq_true.1 h f hf
    exact Option.isSome_iff_exists.1 this
  · cases h
end Go.Sl
/- The steps of a walk: make, and append to a slice of the call's own. -/
open Go Go.RowKit
namespace Go.Sl
section
variable {P : Program} {w0 : World} {e : Env} {l : HL} {ty t : TypeId} {x y : Operand}
def MkG (P : Program) (w0 : World) (t : TypeId) (v u : Value) (l : HL) (K : Value → HL → Prop) : Prop :=
  ∀ w, Sat w0 w l → ∃ r w' l', (Instr.makeSlice t v u).run P w = .ok r w' ∧ Sat w0 w' l' ∧ K r l'
instance Rule.makeSlice : Rule P w0 (.makeSlice t x y) ty e l (fun K => Let (ev e x) fun v => Let (ev e y) fun u => MkG P w0 t v u l K) :=
  ⟨fun K ⟨v, hv, u, hu, hk⟩ ρ w hρ hs => by
    obtain ⟨r, w', l', h1, h2, h3⟩ := hk w hs
    exact .val (v := r) (w := w') (by simp [execOp, hρ x v hv, hρ y u hu, h1]) h2 h3⟩
theorem wrap_nat {n : Int} (h : 0 ≤ n) (h' : n ≤ 9223372036854775807) : IntKind.i64.wrap n = n := wrap_in ⟨by omega, h'⟩
/-- made of one-cell elements -/
instance {n : Int} {v : Value} {el by_ : TypeId} {K : Value → HL → Prop} [hu : Und P t (.slice el)] [hz : Siz P el 1] [hb : Byt P el by_] [hv : Zer P el [v]] :
    Step (MkG P w0 t (.int .i64 n) (.int .i64 n) l K) ((0 ≤ n ∧ n ≤ 1073741824 ∧ (by_ : Int) ≤ 262144) ∧ All fun b => K (.slice (some ⟨b, 0, none⟩) n.toNat n.toNat) (cells b (List.replicate n.toNat v) el :: l)) :=
  ⟨fun ⟨⟨h1, h2, h3⟩, hk⟩ w hs => by
    obtain ⟨i, e1, e2⟩ := hz.h
    obtain ⟨i', e3, e4⟩ := hb.h
    obtain ⟨i'', z, e5, e6, e7⟩ := hv.h
    rw [e1] at e3 e5; cases e3; cases e5
    obtain ⟨m, rfl⟩ := Int.eq_ofNat_of_zero_le h1
    have hw : IntKind.i64.wrap (m : Int) = m := wrap_nat (by omega) (by omega)
    have hbig : ¬ ((by_ : Int) * m > 2 ^ 48) := by
      have hm : (by_ : Int) * m ≤ 262144 * 1073741824 := Int.mul_le_mul h3 h2 (by omega) (by omega)
      have : (262144 : Int) * 1073741824 = 2 ^ 48 := by decide
      omega
    refine ⟨_, { w with heap := w.heap.push (.cells (List.replicate m v).toArray el) }, _, ?_, hs.newCells (List.replicate m v) el, by simpa using hk w.heap.size⟩
    have hm0 : ¬ ((m : Int) < 0) := by omega
    simp only [Instr.makeSlice, Sem.run_bind, run_und hu.h, Result.andThen_ok, asInt, asIntOf, Sem.run_pure, run_inf e1, hw, e4]
    simp only [hm0, hbig, decide_false, Bool.or_false, Bool.false_or, Int.lt_irrefl, gt_iff_lt, Sem.run_ite, Bool.false_eq_true, if_false]
    simp only [Sem.run_bind, run_askRoom, Result.andThen_ok, run_sizeOf e1, e2, Int.toNat_natCast, Nat.mul_one, Sem.run_pure]
    by_cases h0 : m = 0
    · subst h0
      have hr0 : Array.range 0 = (#[] : Array Nat) := by simp
      simp [newRow, hr0]
    · simp only [h0, if_false, Sem.run_bind, run_zeroValue e1 e6, Result.andThen_ok, Sem.run_pure, e7, newRow, run_newObj]
      have : (Array.range m).map (fun x => (#[v] : Array Value)[x % 1]!) = (List.replicate m v).toArray := by
        apply Array.ext
        · simp
        · intro j h1 h2; simp [Nat.mod_one]
      simp only [List.size_toArray, List.length_cons, List.length_nil, Nat.zero_add] at this ⊢
      rw [this]⟩

/-! slices of the call's own -/
/-- a slice of n elements, of sz cells each; the block behind it is the call's own -/
def SlR (v : Value) (T : TypeId) (sz n : Nat) (c : List Value) : HP := fun h => c.length = n * sz ∧
  ((v = .slice none 0 0 ∧ n = 0) ∨ ∃ b pre junk cap, v = .slice (some ⟨b, pre.length, none⟩) n cap ∧ n ≤ cap ∧ cap * sz ≤ n * sz + junk.length ∧ cells b (pre ++ c ++ junk) T h)
theorem slr_nil (T : TypeId) (sz : Nat) (l : HL) : Ent l (SlR (.slice none 0 0) T sz 0 [] :: l) := fun h H =>
  ⟨fun _ => none, h, fun _ => .inl rfl, (join_none h).symm, ⟨by simp, .inl ⟨rfl, rfl⟩⟩, H⟩
theorem slr_mk {b : Nat} {c : List Value} {T : TypeId} {sz n cap : Nat} (pre junk : List Value) (hc : c.length = n * sz) (h1 : n ≤ cap) (h2 : cap * sz ≤ n * sz + junk.length) (l : HL) :
    Ent (cells b (pre ++ c ++ junk) T :: l) (SlR (.slice (some ⟨b, pre.length, none⟩) n cap) T sz n c :: l) :=
  Ent.head l fun h H => ⟨hc, .inr ⟨b, pre, junk, cap, rfl, h1, h2, H⟩⟩
theorem slr_all {b : Nat} {c : List Value} {T : TypeId} {sz n : Nat} (hc : c.length = n * sz) (l : HL) :
    Ent (cells b c T :: l) (SlR (.slice (some ⟨b, 0, none⟩) n n) T sz n c :: l) := by
  have := slr_mk (b := b) (c := c) (T := T) (sz := sz) (n := n) (cap := n) [] [] hc (Nat.le_refl _) (by simp) l
  simpa using this
/-- what such a slice is -/
theorem sat_slr {w : World} {v : Value} {T : TypeId} {sz n : Nat} {c : List Value} (H : Sat w0 w (SlR v T sz n c :: l)) : c.length = n * sz ∧
    ((v = .slice none 0 0 ∧ n = 0 ∧ Sat w0 w l) ∨ ∃ b pre junk cap, v = .slice (some ⟨b, pre.length, none⟩) n cap ∧ n ≤ cap ∧ cap * sz ≤ n * sz + junk.length ∧ Sat w0 w (cells b (pre ++ c ++ junk) T :: l)) := by
  obtain ⟨h, h1, x, y, d, e, ⟨hl, hx⟩, hy⟩ := H.own
  refine ⟨hl, ?_⟩
  rcases hx with ⟨rfl, rfl⟩ | ⟨b, pre, junk, cap, rfl, h2, h3, h4⟩
  · exact .inl ⟨rfl, rfl, H.ent (Ent.tail _ _)⟩
  · exact .inr ⟨b, pre, junk, cap, rfl, h2, h3, H.os, H.tape, H.output, H.drawn, H.size, H.block, h, h1, x, y, d, e, h4, hy⟩
theorem slr_len {w : World} {v : Value} {T : TypeId} {sz n : Nat} {c : List Value} (H : Sat w0 w (SlR v T sz n c :: l)) : c.length = n * sz ∧ ∃ a cap, v = .slice a n cap := by
  obtain ⟨h1, h2⟩ := sat_slr H
  refine ⟨h1, ?_⟩
  rcases h2 with ⟨rfl, rfl, _⟩ | ⟨b, pre, junk, cap, rfl, _⟩
  · exact ⟨none, 0, rfl⟩
  · exact ⟨_, cap, rfl⟩
theorem Run.slr {c : Cx} {todo : List Item} {e : Env} {v : Value} {T : TypeId} {sz n : Nat} {cs : List Value} {l : HL}
    (h0 : v = .slice none 0 0 → n = 0 → cs = [] → Run P c todo e l)
    (h1 : ∀ b pre junk cap, v = .slice (some ⟨b, pre.length, none⟩) n cap → n ≤ cap → cs.length = n * sz → Run P c todo e (cells b (pre ++ cs ++ junk) T :: l)) : Run P c todo e (SlR v T sz n cs :: l) := fun a w ha hs => by
  obtain ⟨hl, h2⟩ := sat_slr hs
  rcases h2 with ⟨rfl, rfl, h3⟩ | ⟨b, pre, junk, cap, rfl, h3, _, h5⟩
  · exact h0 rfl rfl (List.eq_nil_of_length_eq_zero (by simpa using hl)) a w ha h3
  · exact h1 b pre junk cap rfl h3 hl a w ha h5

theorem lay_at (a m b vs : List Value) (h : m.length = vs.length) : lay (a ++ m ++ b) a.length vs = a ++ vs ++ b := lay_mid vs a m b h
theorem growBy_le (n : Nat) : ∀ (r c : Nat), c < n + n + 1024 → Builtin.growBy n r c ≤ 2 * n + 2048 := by
  intro r
  induction r with
  | zero => intro c h; simp [Builtin.growBy]; omega
  | succ r ih =>
    intro c h
    simp only [Builtin.growBy]
    split
    · omega
    · exact ih _ (by omega)
theorem nextcap_le {n c : Nat} (h : c < n) : Builtin.nextslicecap n c ≤ 2 * n + 2048 := by
  unfold Builtin.nextslicecap
  split
  · omega
  · split
    · omega
    · exact growBy_le n 4 c (by omega)
theorem size_zero (z : Array Value) (n : Nat) : (Builtin.zeroCells z n).toList.length = n * z.size := by simp [Builtin.zeroCells]
/-- what can be appended: a slice, or a string -/
class SrcT (P : Program) (t : TypeId) : Prop where
  h : (∃ el, P.underlying t = some (.slice el)) ∨ P.underlying t = some .string
instance {P : Program} {t el : TypeId} [h : Und P t (.slice el)] : SrcT P t := ⟨.inl ⟨el, h.h⟩⟩
instance {P : Program} {t : TypeId} [h : Und P t .string] : SrcT P t := ⟨.inr h.h⟩
/-- append, with what is appended read ahead -/
theorem run_append {w : World} {t t' ty el : TypeId} {i : TypeInfo} {z u : Value} {sz n m : Nat} {c d : List Value} {v : Value} (ht : P.underlying t = some (.slice el))
    (ht0 : (∃ el', P.underlying t' = some (.slice el')) ∨ P.underlying t' = some .string)
    (hi : P.info? el = some i) (hz : i.zero = some z) (hsz : i.size = sz) (hzs : z.cells.size = sz) (hs : Sat w0 w (SlR v el sz n c :: l))
    (hm : (Builtin.lenOf u).run P w = .ok m w) (hsrc : ∀ w, Sat w0 w (SlR v el sz n c :: l) → (Builtin.firstCells sz m u).run P w = .ok d.toArray w) (hd : d.length = m * sz) (h1 : ∀ x ∈ d, x.oneCell' = true)
    (hb0 : i.bytes ≠ 0) (hb : (2 * (n + m) + 2048) * i.bytes ≤ 2 ^ 48) :
    ∃ v' w', (Builtin.append_ #[t, t'] ty #[v, u]).run P w = .ok v' w' ∧ Sat w0 w' (SlR v' el sz (n + m) (c ++ d) :: l) := by
  rcases ht0 with ⟨el', ht'⟩ | ht'
  all_goals
     obtain ⟨hc, hv⟩ := sat_slr hs
     have hcd : (c ++ d).length = (n + m) * sz := by rw [List.length_append, hc, hd, Nat.add_mul]
     -- it grows
     have grow : ∀ (base : Option Addr) (cap : Nat), ¬ n + m ≤ cap → (∀ w, Sat w0 w (SlR v el sz n c :: l) → (Builtin.firstCells sz n (.slice base n cap)).run P w = .ok c.toArray w) →
         ∃ v' w', (Builtin.append_ #[t, t'] ty #[.slice base n cap, u]).run P w = .ok v' w' ∧ Sat w0 w' (SlR v' el sz (n + m) (c ++ d) :: l) := by
       intro base cap h hold
       have h2 : ¬ (Builtin.nextslicecap (n + m) cap * i.bytes > 2 ^ 48) := by
         have h1 := nextcap_le (n := n + m) (c := cap) (by omega)
         have := Nat.mul_le_mul_right i.bytes h1
         omega
       have h3 : ¬ (((n + m : Nat) : Int) > IntKind.i64.max ∧ (False ∨ i.bytes = 0)) := by
         rintro ⟨_, hx | hx⟩
         · exact hx
         · exact hb0 hx
       have hq : (Question.appendCap (n + m) cap el).forced = false := rfl
       generalize hN : (Question.appendCap (n + m) cap el).cut (w.tape w.drawn (Question.appendCap (n + m) cap el)) = N
       have hNge : n + m ≤ N := by rw [← hN]; simp [Question.cut]
       let w1 : World := { w with drawn := w.drawn + 1 }
       have hold1 : (Builtin.firstCells sz n (.slice base n cap)).run P w1 = .ok c.toArray w1 := hold w1 (hs.drew _)
       have hsrc1 : (Builtin.firstCells sz m u).run P w1 = .ok d.toArray w1 := hsrc w1 (hs.drew _)
       have hsat : Sat w0 { w1 with heap := w1.heap.push (.cells ((c ++ d) ++ (Builtin.zeroCells z.cells (N - (n + m))).toList).toArray el) } (SlR (.slice (some ⟨w.heap.size, 0, none⟩) (n + m) N) el sz (n + m) (c ++ d) :: l) := by
         have hl : Sat w0 w1 l := (hs.drew _).ent (Ent.tail _ _)
         have := (hl.newCells ((c ++ d) ++ (Builtin.zeroCells z.cells (N - (n + m))).toList) el).ent (slr_mk (b := w1.heap.size) (c := c ++ d) (T := el) (sz := sz) (n := n + m) (cap := N) [] (Builtin.zeroCells z.cells (N - (n + m))).toList hcd hNge (by
           rw [size_zero, hzs, ← Nat.add_mul]
           exact Nat.mul_le_mul_right sz (by omega)) l)
         simpa using this
       refine ⟨_, _, ?_, hsat⟩
       simp only [Builtin.append_, List.getElem?_toArray, List.getElem?_cons_zero, List.getElem?_cons_succ]
       simp only [Sem.run_bind, run_und ht, Result.andThen_ok, run_sizeOf hi, hsz, run_und ht', Sem.run_pure, Bool.false_eq_true, if_false, hm, Bool.not_false, if_true, if_neg h, run_inf hi, Sem.run_ite, if_neg h3, if_neg h2, run_choose, hq, hN, run_askRoom]
       rw [hold1]; simp only [Result.andThen_ok]
       rw [hsrc1]; simp only [Result.andThen_ok, run_zeroValue hi hz, newRow, Sem.run_bind, run_newObj, Sem.run_pure]
       simp only [w1]
       have earr : c.toArray ++ d.toArray ++ Builtin.zeroCells z.cells (N - (n + m)) = (c ++ d ++ (Builtin.zeroCells z.cells (N - (n + m))).toList).toArray := by
         apply Array.ext'; simp
       rw [earr]
     rcases hv with ⟨rfl, rfl, hs'⟩ | ⟨b, pre, junk, cap, rfl, hn, hcap, hs'⟩
     · have hc0 : c = [] := List.eq_nil_of_length_eq_zero (by simpa using hc)
       subst hc0
       by_cases h0 : m = 0
       · subst h0
         have hd0 : d = [] := List.eq_nil_of_length_eq_zero (by simpa using hd)
         subst hd0
         refine ⟨.slice none 0 0, w, ?_, by simpa using hs⟩
         simp only [Builtin.append_, List.getElem?_toArray, List.getElem?_cons_zero, List.getElem?_cons_succ]
         simp only [Sem.run_bind, run_und ht, Result.andThen_ok, run_sizeOf hi, hsz, run_und ht', Sem.run_pure, Bool.false_eq_true, if_false, hm, Bool.not_false, if_true, Nat.add_zero, Nat.le_refl, hsrc w hs]
       · exact grow none 0 (by omega) (fun w _ => by simp [Builtin.firstCells])
     · have hb := hs'.cells.2
       by_cases h : n + m ≤ cap
       · -- in its place
         have hlen : m * sz ≤ junk.length := by
           have : (n + m) * sz ≤ cap * sz := Nat.mul_le_mul_right sz h
           rw [Nat.add_mul] at this; omega
         obtain ⟨w', r1, r2⟩ := run_storeCells (P := P) (pre.length + n * sz) d 0 (pre ++ c ++ junk) w hs' (by simp [hc, hd]; omega) h1
         have hlay : lay (pre ++ c ++ junk) (pre.length + n * sz + 0) d = pre ++ (c ++ d) ++ junk.drop (m * sz) := by
           have := lay_at (pre ++ c) (junk.take (m * sz)) (junk.drop (m * sz)) d (by simp [hd]; omega)
           rw [List.append_assoc (pre ++ c), List.take_append_drop, List.length_append, hc] at this
           simp only [Nat.add_zero]
           rw [this]; simp
         rw [hlay] at r2
         refine ⟨.slice (some ⟨b, pre.length, none⟩) (n + m) cap, w', ?_, r2.ent (slr_mk pre (junk.drop (m * sz)) hcd h (by rw [List.length_drop, Nat.add_mul]; omega) l)⟩
         simp only [Builtin.append_, List.getElem?_toArray, List.getElem?_cons_zero, List.getElem?_cons_succ]
         simp only [Sem.run_bind, run_und ht, Result.andThen_ok, run_sizeOf hi, hsz, run_und ht', Sem.run_pure, Bool.false_eq_true, if_false, hm, Bool.not_false, if_true, h, hsrc w hs, addr_add, r1]
       · refine grow _ cap h ?_
         intro w2 hs2
         rcases (sat_slr hs2).2 with ⟨e, _⟩ | ⟨b', pre', junk', cap', e, _, _, hs3⟩
         · cases e
         have e1 := e
         simp only [Value.slice.injEq, Option.some.injEq, Addr.mk.injEq] at e1
         obtain ⟨⟨rfl, e2, _⟩, _, _⟩ := e1
         have hcut : cut (pre' ++ c ++ junk') pre.length (n * sz) = c := by
           unfold cut
           rw [e2, List.append_assoc, List.drop_left', List.take_left']
           · exact hc
           · rfl
         simp only [Builtin.firstCells]
         rw [run_loadCells hs3.cells.2 pre.length (n * sz) (by simp [hc, e2]), hcut]
/-- what is appended, read wherever the list stands -/
class Src (P : Program) (w0 : World) (l : HL) (u : Value) (sz : Nat) (m : outParam Nat) (d : outParam (List Value)) : Prop where
  read : ∀ w, Sat w0 w l → (Builtin.lenOf u).run P w = .ok m w ∧ (Builtin.firstCells sz m u).run P w = .ok d.toArray w ∧ d.length = m * sz
theorem cut_mid (pre c junk : List Value) : cut (pre ++ c ++ junk) pre.length c.length = c := by
  unfold cut
  rw [List.append_assoc, List.drop_left', List.take_left']
  · rfl
  · rfl
/-- a slice of the call's own, in the list -/
class HasSl (l : HL) (v : Value) (T : outParam TypeId) (sz n : outParam Nat) (c : outParam (List Value)) (m : outParam HL) : Prop where
  h : Rem l (SlR v T sz n c) m
instance HasSl.head {l : HL} {v : Value} {T : TypeId} {sz n : Nat} {c : List Value} : HasSl (SlR v T sz n c :: l) v T sz n c l := ⟨.here⟩
instance (priority := low) HasSl.tail {l m : HL} {A : HP} {v : Value} {T : TypeId} {sz n : Nat} {c : List Value} [h : HasSl l v T sz n c m] : HasSl (A :: l) v T sz n c (A :: m) := ⟨.there h.h⟩
instance Src.cells {b m k k' cap sz : Nat} {d : List Value} {T : TypeId} {l' : HL} [h : Has l b d T l'] [h1 : Long d k] [h2 : MulR m sz k'] [h3 : SameN k k'] :
    Src P w0 l (.slice (some ⟨b, 0, none⟩) m cap) sz m d :=
  ⟨fun w hs => by
    have hl : d.length = m * sz := by rw [h1.h, h3.h, h2.h]
    have hb := (hs.ent h.h.ent).cells.2
    refine ⟨by simp [Builtin.lenOf], ?_, hl⟩
    simp only [Builtin.firstCells]
    rw [run_loadCells hb 0 (m * sz) (by omega), ← hl]
    have := cut_mid [] d []
    simp at this; rw [this]⟩
instance (priority := low) Src.slr {v : Value} {T : TypeId} {n sz : Nat} {c : List Value} {l' : HL} [h : HasSl l v T sz n c l'] : Src P w0 l v sz n c :=
  ⟨fun w hs => by
    obtain ⟨hl, h2⟩ := sat_slr (hs.ent h.h.ent)
    rcases h2 with ⟨rfl, rfl, _⟩ | ⟨b, pre, junk, cap, rfl, _, _, h5⟩
    · have : c = [] := List.eq_nil_of_length_eq_zero (by simpa using hl)
      subst this; simp [Builtin.lenOf, Builtin.firstCells]
    · refine ⟨by simp [Builtin.lenOf], ?_, hl⟩
      simp only [Builtin.firstCells]
      rw [run_loadCells h5.cells.2 pre.length (n * sz) (by simp [hl]), ← hl, cut_mid]⟩
instance Src.nil {sz : Nat} : Src P w0 l (.slice none 0 0) sz 0 [] := ⟨fun w _ => by simp [Builtin.lenOf, Builtin.firstCells]⟩
/-- a string's bytes, as cells -/
def bc (s : List UInt8) : List Value := s.map fun b => .int .u8 b.toNat
theorem bc_length (s : List UInt8) : (bc s).length = s.length := by simp [bc]
theorem bc_append (s t : List UInt8) : bc (s ++ t) = bc s ++ bc t := by simp [bc]
theorem bc_one (s : List UInt8) : (bc s).all Value.oneCell' = true := by simp [bc, Value.oneCell']
instance Src.str {s : List UInt8} : Src P w0 l (str s) 1 s.length (bc s) := ⟨fun w _ => by
  refine ⟨by simp [Builtin.lenOf, str, ByteArray.size], ?_, by simp [bc]⟩
  simp only [Builtin.firstCells, str, Sem.run_pure]
  congr 1
  apply Array.ext'
  simp [bc, ByteArray.extract, ByteArray.copySlice, ByteArray.size]⟩
theorem appendG {F : HL} {v u : Value} {t t' el by_ : TypeId} {sz n m zn : Nat} {c d z : List Value} {K : Value → HL → Prop} [hp : HasSl l v el sz n c F]
    [h1 : Und P t (.slice el)] [h2 : SrcT P t'] [h3 : Siz P el sz] [h4 : Zer P el z] [h5 : Byt P el by_] [hz : Long z zn] [hz' : SameN zn sz] [hsrc : Src P w0 F u sz m d] (ho : d.all Value.oneCell' = true)
    (hb0 : by_ ≠ 0) (hb : (2 * (n + m) + 2048) * by_ ≤ 281474976710656) (h : ∀ a cap, K (.slice a (n + m) cap) (SlR (.slice a (n + m) cap) el sz (n + m) (c ++ d) :: F)) : BltG P w0 .append #[t, t'] ty [v, u] l K := by
  intro consts w hs
  obtain ⟨i, e1, e2⟩ := h3.h
  obtain ⟨i', zv, e3, e4, e5⟩ := h4.h
  obtain ⟨i'', e6, e7⟩ := h5.h
  rw [e1] at e3 e6; cases e3; cases e6
  have hs' := hs.ent hp.h.ent
  have hF := hs'.ent (Ent.tail _ _)
  obtain ⟨v', w', r1, r2⟩ := run_append (P := P) (ty := ty) h1.h h2.h e1 e4 e2 (by rw [e5]; simpa using hz.h.trans hz'.h) hs' (hsrc.read w hF).1 (fun w hw => (hsrc.read w (hw.ent (Ent.tail _ _))).2.1) (hsrc.read w hF).2.2
    (by simpa using ho) (by rw [e7]; exact hb0) (by rw [e7]; exact hb)
  obtain ⟨_, a, cap, rfl⟩ := slr_len r2
  exact .val (v := .slice a (n + m) cap) (w := w') (by simp [Go.builtin, r1]) r2 (h a cap)
/-- such a slice, laid open -/
theorem openSl {c : Cx} {todo : List Item} {e : Env} (v : Value) {T : TypeId} {sz n : Nat} {cs : List Value} {l m : HL} [hp : HasSl l v T sz n cs m]
    (h0 : v = .slice none 0 0 → n = 0 → cs = [] → Run P c todo e m)
    (h1 : ∀ b pre junk cap, v = .slice (some ⟨b, pre.length, none⟩) n cap → n ≤ cap → cap * sz ≤ n * sz + junk.length → cs.length = n * sz → Run P c todo e (cells b (pre ++ cs ++ junk) T :: m)) : Run P c todo e l := fun a w ha hs => by
  obtain ⟨hl, h2⟩ := sat_slr (hs.ent hp.h.ent)
  rcases h2 with ⟨rfl, rfl, h3⟩ | ⟨b, pre, junk, cap, rfl, h3, h4, h5⟩
  · exact h0 rfl rfl (List.eq_nil_of_length_eq_zero (by simpa using hl)) a w ha h3
  · exact h1 b pre junk cap rfl h3 h4 hl a w ha h5
/-- and shut again -/
theorem foldSl (b : Nat) (pre junk : List Value) {c : List Value} {T : TypeId} {sz n cap : Nat} {m : HL} [h : Has l b (pre ++ c ++ junk) T m] (hc : c.length = n * sz) (h1 : n ≤ cap) (h2 : cap * sz ≤ n * sz + junk.length) :
    Ent l (SlR (.slice (some ⟨b, pre.length, none⟩) n cap) T sz n c :: m) := h.h.ent.trans (slr_mk pre junk hc h1 h2 m)
end
end Go.Sl
/- Regions whose order is drawn, walked. -/
open Go Go.RowKit
namespace Go.Sl
/-- some pieces of a list, and the others -/
class Sel (l R : HL) (m : outParam HL) : Prop where
  h : Ent l (R ++ m)
class Pull (l : HL) (A : HP) (m : outParam HL) : Prop where
  h : Rem l A m
instance {l : HL} {A : HP} : Pull (A :: l) A l := ⟨.here⟩
instance (priority := low) {l m : HL} {A B : HP} [h : Pull l A m] : Pull (B :: l) A (B :: m) := ⟨.there h.h⟩
instance {l : HL} : Sel l [] l := ⟨Ent.refl l⟩
instance {l R m m' : HL} {A : HP} [h : Pull l A m'] [k : Sel m' R m] : Sel l (A :: R) m := ⟨h.h.ent.trans (Ent.cons A k.h)⟩
/-- pieces by their places (rising) -/
def selR : HL → List Nat → Nat → Option HL
  | [], _, _ => none
  | _ :: _, [], _ => some []
  | A :: l, i :: is, n => match Nat.beq i n with
    | true => match is with
      | [] => some [A]
      | j :: js => match selR l (j :: js) (n + 1) with
        | some R => some (A :: R)
        | none => none
    | false => selR l (i :: is) (n + 1)
/-- one list of pieces out of another: some are dropped -/
class Fin (l l' : HL) : Prop where
  h : Ent l l'
instance (priority := high) {l : HL} : Fin l l := ⟨Ent.refl l⟩
instance {l l' m : HL} {A : HP} [h : Pull l A m] [k : Fin m l'] : Fin l (A :: l') := ⟨h.h.ent.trans (Ent.cons A k.h)⟩
instance (priority := low) {l F : HL} {A : HP} [k : Fin l F] : Fin (A :: l) F := ⟨(Ent.tail A l).trans k.h⟩
theorem fin {l l' : HL} [h : Fin l l'] : Ent l l' := h.h
section
variable {P : Program} {c : Cx} {k : List Item} {e : Env} {l R m : HL} {ops : List Oper} {A : List Nat} {n : Nat} {dn : List Nat} {id : Nat}
theorem Run.drawI [hm : Mixed P] (ix : List Nat) (_hR : selR l ix 0 = some R) (h : RunD P c ops (ancsOf ops) R k ops.length [] e l) :
    Run P c (.code (.region id ops.toArray true) :: k) e l := Run.draw hm.h R h
theorem Run.drawAI [hm : Mixed P] (ix : List Nat) (A : List Nat) (hA : A = ancsOf ops) (_hR : selR l ix 0 = some R) (h : RunD P c ops A R k ops.length [] e l) :
    Run P c (.code (.region id ops.toArray true) :: k) e l := Run.drawA hm.h R hA h
theorem Run.draw0 [hm : Mixed P] (h : RunD P c ops (ancsOf ops) [] k ops.length [] e l) : Run P c (.code (.region id ops.toArray true) :: k) e l := Run.draw hm.h [] h
/-- the Bools of a float's turn -/
def chk (ops : List Oper) (A : List Nat) (dn : List Nat) (i : Nat) (o : Oper) : Bool :=
  Region.noSelect ops.toArray && (freeL ops A dn i o ops 0 && (readyL ops 0 dn).contains i)
theorem chk_all {i : Nat} {o : Oper} (h : chk ops A dn i o = true) : Region.noSelect ops.toArray = true ∧ freeL ops A dn i o ops 0 = true ∧ (readyL ops 0 dn).contains i = true := by
  simp only [chk, Bool.and_eq_true] at h; exact ⟨h.1, h.2.1, h.2.2⟩
theorem tk (i : Nat) {op : Op} {ty : TypeId} {d : Tmp} {pos : String} {after : Array Edge} {G : (Value → Prop) → Prop} (hi : ops[i]? = some ⟨some d, op, ty, pos, after, none⟩)
    (hc : chk ops A dn i ⟨some d, op, ty, pos, after, none⟩ = true) [hs : Sel l R m] [h : Flt P c.w0 op ty e R G]
    (hg : Nat.blt d c.N = true ∧ G fun v => RunD P c ops A R k n (i :: dn) ((d, v) :: e) l) : RunD P c ops A R k (n + 1) dn e l :=
  let ⟨h1, h2, h3⟩ := chk_all hc; RunD.take i hi h1 h2 h3 hg.1 hs.h hg.2
/-- guarded -/
def GuardD (v : Value) (want : Bool) (yes no : Prop) : Prop := ∃ b : Bool, v = .bool b ∧ ((b == want) = true → yes) ∧ ((b == want) = false → no)
theorem tg (i : Nat) {op : Op} {ty : TypeId} {d j t : Tmp} {want : Bool} {pos : String} {after : Array Edge} {G : (Value → Prop) → Prop} (hi : ops[i]? = some ⟨some d, op, ty, pos, after, some (j, want)⟩)
    (hc : chk ops A dn i ⟨some d, op, ty, pos, after, some (j, want)⟩ = true) (hj : (ops[j]?).bind (·.dst) = some t) [hs : Sel l R m] [h : Flt P c.w0 op ty e R G]
    (hg : Nat.blt d c.N = true ∧ Let (lk e t) fun v => GuardD v want (G fun v => RunD P c ops A R k n (i :: dn) ((d, v) :: e) l) (RunD P c ops A R k n (i :: dn) ((d, undef) :: e) l)) :
    RunD P c ops A R k (n + 1) dn e l := by
  obtain ⟨h1, h2, h3⟩ := chk_all hc
  obtain ⟨h4, v, h5, b, h6, h7, h8⟩ := hg
  subst h6
  cases hb : (b == want) with
  | true => simp at hb; subst hb; exact RunD.takeW i hi hj h5 h1 h2 h3 h4 hs.h (h7 (by simp))
  | false => exact RunD.takeN i hi hj h5 hb h1 h2 h3 h4 hs.h (h8 hb)
section
variable {yes no : Prop}
instance : Step (GuardD (.bool true) true yes no) yes := ⟨fun h => ⟨true, rfl, fun _ => h, fun h => by simp at h⟩⟩
instance : Step (GuardD (.bool false) false yes no) yes := ⟨fun h => ⟨false, rfl, fun _ => h, fun h => by simp at h⟩⟩
instance : Step (GuardD (.bool true) false yes no) no := ⟨fun h => ⟨true, rfl, fun h => by simp at h, fun _ => h⟩⟩
instance : Step (GuardD (.bool false) true yes no) no := ⟨fun h => ⟨false, rfl, fun h => by simp at h, fun _ => h⟩⟩
instance (priority := low) {p : Prop} [Decidable p] : Step (GuardD (.bool (decide p)) true yes no) ((p → yes) ∧ (¬ p → no)) :=
  ⟨fun h => ⟨decide p, rfl, fun hp => h.1 (by simpa using hp), fun hp => h.2 (by simpa using hp)⟩⟩
instance (priority := low) {p : Prop} [Decidable p] : Step (GuardD (.bool (decide p)) false yes no) ((¬ p → yes) ∧ (p → no)) :=
  ⟨fun h => ⟨decide p, rfl, fun hp => h.1 (by simpa using hp), fun hp => h.2 (by simpa using hp)⟩⟩
end
theorem keepS {i : Nat} (h : syncL ops A i = true) : Keeps ops A R i l := .inl h
theorem keepR {i : Nat} [h : Sel l R m] : Keeps ops A R i l := .inr ⟨m, h.h⟩
/-- an effect that is alone at its turn -/
theorem ef (i : Nat) (hr : readyL ops 0 dn = [i]) {op : Op} {ty : TypeId} {d : Tmp} {pos : String} {after : Array Edge} {G : (Value → HL → Prop) → Prop} (hi : ops[i]? = some ⟨some d, op, ty, pos, after, none⟩)
    [r : Rule P c.w0 op ty e l G] (hg : Nat.blt d c.N = true ∧ G fun v l' => Keeps ops A R i l' ∧ RunD P c ops A R k n (i :: dn) ((d, v) :: e) l') : RunD P c ops A R k (n + 1) dn e l :=
  RunD.eff1 hr (RunE.op (o := ⟨some d, op, ty, pos, after, none⟩) hi rfl hg.1 hg.2)
theorem ef' (i : Nat) (hr : readyL ops 0 dn = [i]) {op : Op} {ty : TypeId} {pos : String} {after : Array Edge} {G : (Value → HL → Prop) → Prop} (hi : ops[i]? = some ⟨none, op, ty, pos, after, none⟩)
    [r : Rule P c.w0 op ty e l G] (hg : G fun _ l' => Keeps ops A R i l' ∧ RunD P c ops A R k n (i :: dn) e l') : RunD P c ops A R k (n + 1) dn e l :=
  RunD.eff1 hr (RunE.op (o := ⟨none, op, ty, pos, after, none⟩) hi rfl rfl hg)
/-- two that may come, in either order -/
theorem ef2 (i j : Nat) (hr : readyL ops 0 dn = [i, j]) (h : RunE P c ops A R k n dn i e l) (h' : RunE P c ops A R k n dn j e l) : RunD P c ops A R k (n + 1) dn e l := RunD.eff2 hr h h'
theorem eo {i : Nat} {op : Op} {ty : TypeId} {d : Tmp} {pos : String} {after : Array Edge} {G : (Value → HL → Prop) → Prop} (hi : ops[i]? = some ⟨some d, op, ty, pos, after, none⟩)
    [r : Rule P c.w0 op ty e l G] (hg : Nat.blt d c.N = true ∧ G fun v l' => Keeps ops A R i l' ∧ RunD P c ops A R k n (i :: dn) ((d, v) :: e) l') : RunE P c ops A R k n dn i e l :=
  RunE.op (o := ⟨some d, op, ty, pos, after, none⟩) hi rfl hg.1 hg.2
end
/-! rows of a slice -/
theorem length_rows {α : Type} {f : α → List Value} {sz : Nat} (hf : ∀ x, (f x).length = sz) : ∀ xs : List α, (xs.flatMap f).length = xs.length * sz
  | [] => by simp
  | x :: xs => by simp [hf, length_rows hf xs, Nat.add_mul]; omega
theorem cut_rows {α : Type} {f : α → List Value} {sz : Nat} (hf : ∀ x, (f x).length = sz) {xs : List α} {i : Nat} {x : α} (hx : xs[i]? = some x) :
    cut (xs.flatMap f) (i * sz) sz = f x := by
  have hlt : i < xs.length := (List.getElem?_eq_some_iff.1 hx).1
  have hxe : xs[i] = x := (List.getElem?_eq_some_iff.1 hx).2
  have h1 : xs = xs.take i ++ x :: xs.drop (i + 1) := by
    rw [← hxe, ← List.drop_eq_getElem_cons hlt, List.take_append_drop]
  have h2 : ((xs.take i).flatMap f).length = i * sz := by rw [length_rows hf, List.length_take, Nat.min_eq_left (by omega)]
  unfold cut
  conv => lhs; rw [h1]
  rw [List.flatMap_append, List.flatMap_cons, List.drop_left' h2, List.take_left' (hf x)]
theorem cut_in (pre c junk : List Value) (j n : Nat) (h : j + n ≤ c.length) : cut (pre ++ c ++ junk) (pre.length + j) n = cut c j n := by
  unfold cut
  rw [List.append_assoc, ← List.drop_drop, List.drop_left' rfl, List.drop_append_of_le_length (by omega), List.take_append_of_le_length (by simp; omega)]
theorem cut_row {α : Type} {f : α → List Value} {sz : Nat} (hf : ∀ x, (f x).length = sz) (pre junk : List Value) {xs : List α} {i : Nat} {x : α} (hx : xs[i]? = some x) :
    cut (pre ++ xs.flatMap f ++ junk) (pre.length + i * sz) sz = f x := by
  have hlt : i < xs.length := (List.getElem?_eq_some_iff.1 hx).1
  rw [cut_in _ _ _ _ _ (by rw [length_rows hf]; have : (i + 1) * sz ≤ xs.length * sz := Nat.mul_le_mul_right sz hlt; rw [Nat.add_mul] at this; omega), cut_rows hf hx]
/-- what stands at a place of a list (laid by hand, as an instance) -/
class RowAt {α : Type} (xs : List α) (i : Nat) (x : outParam α) : Prop where
  h : xs[i]? = some x
class RowLen {α : Type} (f : α → List Value) (sz : outParam Nat) : Prop where
  h : ∀ x, (f x).length = sz
section
variable {P : Program} {w0 : World} {l : HL} {t T : TypeId} {K : Value → Prop} {α : Type} {b i sz : Nat} {xs : List α} {x : α} {pre junk : List Value}
instance (priority := high) LoadG.row {f : α → List Value} [hr : Reads w0 l b (pre ++ xs.flatMap f ++ junk) T] [hx : RowAt xs i x] [hf : RowLen f sz] [ha : Agg P t sz] :
    Step (LoadG P t (.pointer (some ⟨b, pre.length + i * sz, none⟩)) l w0 K) (K (.agg (f x).toArray)) :=
  ⟨fun hk => ⟨_, fun w hw => by
    obtain ⟨fz, hb⟩ := hr.h w hw
    have hlt : i < xs.length := (List.getElem?_eq_some_iff.1 hx.h).1
    have hfit : pre.length + i * sz + sz ≤ (pre ++ xs.flatMap f ++ junk).length := by
      simp only [List.length_append, length_rows hf.h]
      have : (i + 1) * sz ≤ xs.length * sz := Nat.mul_le_mul_right sz hlt
      rw [Nat.add_mul] at this; omega
    simp only [Instr.loadAt, Instr.sureAddr, loadVar, Sem.run_bind, Sem.run_pure, Result.andThen_ok, run_isAgg_yes ha, run_size_agg ha, if_true, run_loadCells hb _ sz hfit, cut_row hf.h pre junk hx.h], hk⟩⟩
instance (priority := high) LoadG.one {f : α → Value} [hr : Reads w0 l b (xs.map f) T] [hx : RowAt xs i x] [hs : Sca P t] :
    Step (LoadG P t (.pointer (some ⟨b, i, none⟩)) l w0 K) (K (f x)) :=
  ⟨fun hk => ⟨_, fun w hw => by
    obtain ⟨fz, hb⟩ := hr.h w hw
    have : (xs.map f)[i]? = some (f x) := by rw [List.getElem?_map, hx.h]; rfl
    simp [Instr.loadAt, Instr.sureAddr, loadVar, run_isAgg_no hs, -run_load, run_load_of hb this], hk⟩⟩
instance (priority := high) LoadG.oneIn {f : α → Value} [hr : Reads w0 l b (pre ++ xs.map f ++ junk) T] [hx : RowAt xs i x] [hs : Sca P t] :
    Step (LoadG P t (.pointer (some ⟨b, pre.length + i, none⟩)) l w0 K) (K (f x)) :=
  ⟨fun hk => ⟨_, fun w hw => by
    obtain ⟨fz, hb⟩ := hr.h w hw
    have hlt : i < (xs.map f).length := by simpa using (List.getElem?_eq_some_iff.1 hx.h).1
    have : (pre ++ xs.map f ++ junk)[pre.length + i]? = some (f x) := by
      rw [List.append_assoc, List.getElem?_append_right (by omega), Nat.add_sub_cancel_left, List.getElem?_append_left hlt, List.getElem?_map, hx.h]; rfl
    simp [Instr.loadAt, Instr.sureAddr, loadVar, run_isAgg_no hs, -run_load, run_load_of hb this], hk⟩⟩
end
/-! function values that are made -/
section
variable {P : Program} {w0 : World} {e : Env} {l : HL} {ty : TypeId}
instance Flt.makeFunc {fn : Fn} {xs ys : List Operand} : Flt P w0 (.makeFunc fn xs.toArray ys.toArray) ty e l (fun K => Let (evs e xs) fun vs => Let (evs e ys) fun us => K (.func fn vs.toArray us.toArray)) :=
  ⟨fun K ⟨vs, h1, us, h2, hk⟩ => ⟨_, fun ρ w hρ hs => by
    simp [execOp, Instr.makeFunc, evs_map hρ xs vs h1, evs_map hρ ys us h2], hk⟩⟩
end
end Go.Sl
