/- Pieces of memory, held apart: what a world bears beside an older one. -/
import Derived.WalkKit
set_option linter.unusedSimpArgs false
set_option linter.unusedVariables false
set_option linter.unusedSectionVars false
open Go Go.RowKit
namespace Go.Sl

abbrev Hlet := Nat → Option Obj
def HP := Hlet → Prop
abbrev HL := List HP

def disj (a b : Hlet) : Prop := ∀ k, a k = none ∨ b k = none
def join (a b : Hlet) : Hlet := fun k => (a k).or (b k)
def HP.star (A B : HP) : HP := fun h => ∃ x y, disj x y ∧ h = join x y ∧ A x ∧ B y
def sep : HL → HP
  | [] => fun _ => True
  | A :: l => HP.star A (sep l)

def single (b : Nat) (o : Obj) : Hlet := fun k => if k = b then some o else none
def obj (b : Nat) (o : Obj) : HP := fun h => h = single b o
def cells (b : Nat) (c : List Value) (T : TypeId) : HP := fun h => h = single b (.cells c.toArray T (0, 0))
def pur (p : Prop) : HP := fun _ => p
def ex {α : Type} (f : α → HP) : HP := fun h => ∃ x, f x h
def all (l : HL) : HP := sep l

structure Sat (w0 w : World) (l : HL) : Prop where
  os : w.os = w0.os
  tape : w.tape = w0.tape
  output : w.output = w0.output
  drawn : w0.drawn ≤ w.drawn
  size : w0.heap.size ≤ w.heap.size
  block : ∀ k, k < w0.heap.size → w.heap[k]? = w0.heap[k]?
  own : ∃ h : Hlet, (∀ b o, h b = some o → w0.heap.size ≤ b ∧ w.heap[b]? = some o) ∧ sep l h

theorem Sat.below {w0 w : World} {l : HL} (h : Sat w0 w l) : Below w0.heap.size w0 w := ⟨h.os, h.tape, h.output, h.size, h.block⟩
theorem Sat.of_below {w0 w : World} (h : Below w0.heap.size w0 w) (hd : w0.drawn ≤ w.drawn) : Sat w0 w [] := ⟨h.os, h.tape, h.output, hd, h.size, h.block, fun _ => none, by simp, trivial⟩

theorem join_comm {a b : Hlet} (h : disj a b) : join a b = join b a := by
  funext k; unfold join; rcases h k with e | e <;> simp [e]
theorem join_assoc (a b c : Hlet) : join (join a b) c = join a (join b c) := by
  funext k; unfold join; cases a k <;> simp
theorem disj_symm {a b : Hlet} (h : disj a b) : disj b a := fun k => (h k).symm
theorem disj_join {a b c : Hlet} : disj (join a b) c ↔ disj a c ∧ disj b c := by
  constructor
  · intro h; constructor <;> intro k <;> have := h k <;> unfold join at this <;> cases ha : a k <;> simp_all
  · rintro ⟨h1, h2⟩ k; have := h1 k; have := h2 k; unfold join; cases ha : a k <;> simp_all
theorem disj_join' {a b c : Hlet} : disj c (join a b) ↔ disj c a ∧ disj c b :=
  ⟨fun h => let ⟨x, y⟩ := disj_join.1 (disj_symm h); ⟨disj_symm x, disj_symm y⟩, fun ⟨x, y⟩ => disj_symm (disj_join.2 ⟨disj_symm x, disj_symm y⟩)⟩
theorem join_none (a : Hlet) : join (fun _ => none) a = a := by funext k; simp [join]

theorem star_swap {A B C : HP} {h : Hlet} (H : A.star (B.star C) h) : B.star (A.star C) h := by
  obtain ⟨x, y, d, rfl, hA, x', y', d', rfl, hB, hC⟩ := H
  obtain ⟨d1, d2⟩ := disj_join'.1 d
  refine ⟨x', join x y', disj_join'.2 ⟨disj_symm d1, d'⟩, ?_, hB, x, y', d2, rfl, hA, hC⟩
  rw [← join_assoc, join_comm d1, join_assoc]
theorem star_mono {A B B' : HP} {h : Hlet} (H : A.star B h) (f : ∀ x, B x → B' x) : A.star B' h := by
  obtain ⟨x, y, d, e, hA, hB⟩ := H; exact ⟨x, y, d, e, hA, f _ hB⟩
theorem star_mono_left {A A' B : HP} {h : Hlet} (H : A.star B h) (f : ∀ x, A x → A' x) : A'.star B h := by
  obtain ⟨x, y, d, e, hA, hB⟩ := H; exact ⟨x, y, d, e, f _ hA, hB⟩

theorem sep_perm {l l' : HL} (p : l.Perm l') : ∀ h, sep l h → sep l' h := by
  induction p with
  | nil => intro h H; exact H
  | cons A _ ih => intro h H; exact star_mono H ih
  | swap A B l => intro h H; exact star_swap H
  | trans _ _ ih1 ih2 => intro h H; exact ih2 _ (ih1 _ H)
theorem sep_up {l : HL} : ∀ {x y : Hlet}, disj x y → sep l x → sep l (join x y) := by
  induction l with
  | nil => intro x y _ _; trivial
  | cons A l ih =>
    rintro x y d ⟨u, v, d', rfl, hA, hl⟩
    obtain ⟨d1, d2⟩ := disj_join.1 d
    exact ⟨u, join v y, disj_join'.2 ⟨d', d1⟩, join_assoc _ _ _, hA, ih d2 hl⟩
theorem sep_tail {A : HP} {l : HL} {h : Hlet} (H : sep (A :: l) h) : sep l h := by
  obtain ⟨x, y, d, rfl, _, hl⟩ := H
  rw [join_comm d]; exact sep_up (disj_symm d) hl
theorem sep_append {l m : HL} : ∀ {h}, sep (l ++ m) h ↔ HP.star (sep l) (sep m) h := by
  induction l with
  | nil =>
    intro h; constructor
    · intro H; exact ⟨fun _ => none, h, fun _ => .inl rfl, (join_none h).symm, trivial, H⟩
    · rintro ⟨x, y, d, rfl, _, H⟩; rw [join_comm d]; exact sep_up (disj_symm d) H
  | cons A l ih =>
    intro h; constructor
    · rintro ⟨x, y, d, rfl, hA, H⟩
      obtain ⟨u, v, d', rfl, h1, h2⟩ := ih.1 H
      obtain ⟨d1, d2⟩ := disj_join'.1 d
      exact ⟨join x u, v, disj_join.2 ⟨d2, d'⟩, (join_assoc _ _ _).symm, ⟨x, u, d1, rfl, hA, h1⟩, h2⟩
    · rintro ⟨x, y, d, rfl, ⟨u, v, d', rfl, hA, h1⟩, h2⟩
      obtain ⟨d1, d2⟩ := disj_join.1 d
      exact ⟨u, join v y, disj_join'.2 ⟨d', d1⟩, join_assoc _ _ _, hA, ih.2 ⟨v, y, d2, rfl, h1, h2⟩⟩

/-! ### entailment -/
def Ent (l l' : HL) : Prop := ∀ h, sep l h → sep l' h
theorem Sat.ent {w0 w : World} {l l' : HL} (H : Sat w0 w l) (e : Ent l l') : Sat w0 w l' :=
  ⟨H.os, H.tape, H.output, H.drawn, H.size, H.block, let ⟨h, h1, h2⟩ := H.own; ⟨h, h1, e h h2⟩⟩
theorem Ent.refl (l : HL) : Ent l l := fun _ h => h
theorem Ent.trans {a b c : HL} (h : Ent a b) (k : Ent b c) : Ent a c := fun x hx => k x (h x hx)
theorem Ent.cons {a b : HL} (A : HP) (h : Ent a b) : Ent (A :: a) (A :: b) := fun _ H => star_mono H h
theorem Ent.head {A B : HP} (l : HL) (h : ∀ x, A x → B x) : Ent (A :: l) (B :: l) := fun _ H => star_mono_left H h
theorem Ent.tail (A : HP) (l : HL) : Ent (A :: l) l := fun _ H => sep_tail H
theorem Ent.perm {l l' : HL} (p : l.Perm l') : Ent l l' := sep_perm p
theorem ent_all (m l : HL) : Ent (all m :: l) (m ++ l) := fun _ H => sep_append.2 H
theorem ent_all' (m l : HL) : Ent (m ++ l) (all m :: l) := fun _ H => sep_append.1 H
theorem ent_ex {α : Type} (f : α → HP) (x : α) (l : HL) : Ent (f x :: l) (ex f :: l) := Ent.head l fun _ h => ⟨x, h⟩
theorem ent_pur {p : Prop} (hp : p) (l : HL) : Ent l (pur p :: l) := fun h H => ⟨fun _ => none, h, fun _ => .inl rfl, (join_none h).symm, hp, H⟩
theorem Sat.ex {w0 w : World} {α : Type} {f : α → HP} {l : HL} (H : Sat w0 w (ex f :: l)) : ∃ x, Sat w0 w (f x :: l) := by
  obtain ⟨h, h1, x, y, d, e, ⟨u, hu⟩, hl⟩ := H.own
  exact ⟨u, H.os, H.tape, H.output, H.drawn, H.size, H.block, h, h1, x, y, d, e, hu, hl⟩
theorem Sat.pur {w0 w : World} {p : Prop} {l : HL} (H : Sat w0 w (pur p :: l)) : p ∧ Sat w0 w l := by
  obtain ⟨h, h1, x, y, d, e, hp, hl⟩ := H.own
  exact ⟨hp, H.ent (Ent.tail _ _)⟩

/-! ### taking an atom out of a list -/
inductive Rem : HL → HP → HL → Prop
  | here {A : HP} {l : HL} : Rem (A :: l) A l
  | there {A B : HP} {l l' : HL} : Rem l A l' → Rem (B :: l) A (B :: l')
theorem Rem.perm {l l' : HL} {A : HP} (h : Rem l A l') : l.Perm (A :: l') := by
  induction h with
  | here => exact .refl _
  | there _ ih => exact (List.Perm.cons _ ih).trans (.swap _ _ _)
theorem Rem.ent {l l' : HL} {A : HP} (h : Rem l A l') : Ent l (A :: l') := Ent.perm h.perm
theorem Rem.ent' {l l' : HL} {A : HP} (h : Rem l A l') : Ent (A :: l') l := Ent.perm h.perm.symm
inductive Rems : HL → HL → HL → Prop
  | nil {l : HL} : Rems l [] l
  | cons {l l' l'' m : HL} {A : HP} : Rem l A l' → Rems l' m l'' → Rems l (A :: m) l''
theorem Rems.ent {l m l' : HL} (h : Rems l m l') : Ent l (m ++ l') := by
  induction h with
  | nil => exact .refl _
  | cons h1 _ ih => exact h1.ent.trans (Ent.cons _ ih)
theorem Rems.ent' {l m l' : HL} (h : Rems l m l') : Ent (m ++ l') l := by
  induction h with
  | nil => exact .refl _
  | cons h1 _ ih => exact (Ent.cons _ ih).trans h1.ent'

/-! ### memory -/
theorem single_get {b : Nat} {o : Obj} : single b o b = some o := by simp [single]
theorem Sat.obj {w0 w : World} {b : Nat} {o : Obj} {l : HL} (H : Sat w0 w (obj b o :: l)) : w0.heap.size ≤ b ∧ w.heap[b]? = some o := by
  obtain ⟨h, h1, x, y, d, rfl, rfl, hl⟩ := H.own
  exact h1 b o (by simp [join, single])
theorem cells_obj (b : Nat) (c : List Value) (T : TypeId) : cells b c T = Sl.obj b (.cells c.toArray T (0, 0)) := rfl
theorem Sat.cells {w0 w : World} {b : Nat} {c : List Value} {T : TypeId} {l : HL} (H : Sat w0 w (cells b c T :: l)) :
    w0.heap.size ≤ b ∧ w.heap[b]? = some (.cells c.toArray T (0, 0)) := Sat.obj H
theorem Sat.lt {w0 w : World} {b : Nat} {o : Obj} {l : HL} (H : Sat w0 w (Sl.obj b o :: l)) : b < w.heap.size := by
  have := H.obj.2
  exact (Array.getElem?_eq_some_iff.1 this).1

theorem join_single_same {b : Nat} {o o' : Obj} {y : Hlet} {k : Nat} {u : Obj} (d : disj (single b o) y) (h : join (single b o') y k = some u) :
    (k = b ∧ u = o') ∨ (k ≠ b ∧ join (single b o) y k = some u) := by
  by_cases e : k = b
  · subst e; left; simp [join, single] at h; exact ⟨rfl, h.symm⟩
  · right; simp only [join, single, e, if_false, Option.none_or] at h ⊢; exact ⟨e, h⟩

theorem disj_single {b : Nat} {o o' : Obj} {y : Hlet} (d : disj (single b o) y) : disj (single b o') y := by
  intro k; rcases d k with e | e
  · left; simp only [single] at e ⊢; split at e <;> simp_all
  · exact .inr e

/-- one block of the call's own is turned -/
theorem Sat.turn {w0 w w' : World} {b : Nat} {o o' : Obj} {l : HL} (H : Sat w0 w (Sl.obj b o :: l)) (ho : w'.os = w.os) (ht : w'.tape = w.tape)
    (hu : w'.output = w.output) (hd : w'.drawn = w.drawn) (hs : w'.heap.size = w.heap.size) (hb : w'.heap[b]? = some o') (hn : ∀ k, k ≠ b → w'.heap[k]? = w.heap[k]?) :
    Sat w0 w' (Sl.obj b o' :: l) := by
  have hge := H.obj.1
  refine ⟨ho.trans H.os, ht.trans H.tape, hu.trans H.output, hd ▸ H.drawn, by rw [hs]; exact H.size, fun k hk => (hn k (by omega)).trans (H.block k hk), ?_⟩
  obtain ⟨h, h1, x, y, d, rfl, rfl, hl⟩ := H.own
  refine ⟨join (single b o') y, ?_, single b o', y, disj_single d, rfl, rfl, hl⟩
  intro k u hk
  rcases join_single_same d hk with ⟨rfl, rfl⟩ | ⟨hne, h2⟩
  · exact ⟨hge, hb⟩
  · obtain ⟨a, b'⟩ := h1 k u h2; exact ⟨a, (hn k hne).trans b'⟩

theorem Sat.setCell {w0 w : World} {b i : Nat} {c : List Value} {T : TypeId} {l : HL} (H : Sat w0 w (Sl.cells b c T :: l)) (v : Value) :
    Sat w0 (w.setCell ⟨b, i, none⟩ v) (Sl.cells b (c.set i v) T :: l) := by
  have hb := H.cells.2
  refine Sat.turn (o := .cells c.toArray T (0, 0)) H rfl rfl rfl rfl (by simp [World.setCell]) ?_ ?_
  · simp [World.setCell, Array.getElem?_modify, hb]
  · intro k hk; simp only [World.setCell, Array.getElem?_modify]; rw [if_neg (by omega)]

theorem Sat.setObj {w0 w : World} {b : Nat} {o o' : Obj} {l : HL} (H : Sat w0 w (Sl.obj b o :: l)) :
    Sat w0 { w with heap := w.heap.setIfInBounds b o' } (Sl.obj b o' :: l) := by
  have hb := H.lt
  refine Sat.turn H rfl rfl rfl rfl (by simp) (by simp [hb]) ?_
  intro k hk; simp [Ne.symm hk]

theorem Sat.new {w0 w : World} {l : HL} (H : Sat w0 w l) (o : Obj) : Sat w0 { w with heap := w.heap.push o } (Sl.obj w.heap.size o :: l) := by
  refine ⟨H.os, H.tape, H.output, H.drawn, by simp; have := H.size; omega, fun k hk => ?_, ?_⟩
  · have := H.size; rw [← H.block k hk]; simp only [Array.getElem?_push]; rw [if_neg (by omega)]
  · obtain ⟨h, h1, hl⟩ := H.own
    have hlt : ∀ b o, h b = some o → b < w.heap.size := fun b o e => (Array.getElem?_eq_some_iff.1 (h1 b o e).2).1
    refine ⟨join (single w.heap.size o) h, ?_, single w.heap.size o, h, ?_, rfl, rfl, hl⟩
    · intro k u hk
      by_cases e : k = w.heap.size
      · subst e; simp [join, single] at hk; subst hk; exact ⟨H.size, by simp⟩
      · simp only [join, single, e, if_false, Option.none_or] at hk
        obtain ⟨a, b⟩ := h1 k u hk
        refine ⟨a, ?_⟩
        simp only [Array.getElem?_push]; rw [if_neg e]; exact b
    · intro k
      by_cases e : k = w.heap.size
      · right; cases hh : h k with
        | none => rfl
        | some u => have := hlt k u hh; omega
      · left; simp [single, e]
theorem Sat.drew {w0 w : World} {l : HL} (H : Sat w0 w l) (n : Nat) (hn : w.drawn ≤ n := by first | omega | (simp only []; omega) | simp) : Sat w0 { w with drawn := n } l := ⟨H.os, H.tape, H.output, Nat.le_trans H.drawn hn, H.size, H.block, H.own⟩

theorem Sat.ne {w0 w : World} {b b' : Nat} {o o' : Obj} {l : HL} (H : Sat w0 w (Sl.obj b o :: Sl.obj b' o' :: l)) : b ≠ b' := by
  obtain ⟨h, h1, x, y, d, rfl, rfl, x', y', d', rfl, rfl, hl⟩ := H.own
  intro e; subst e
  have := d b
  simp [single, join] at this

end Go.Sl
/- A walk through code by what slots and memory hold. -/
open Go Go.RowKit
namespace Go.Sl

/-! ### the slots that are known -/
abbrev Env := List (Nat × Value)
def lk : Env → Nat → Option Value
  | [], _ => none
  | (s, v) :: e, t => match Nat.beq s t with
    | true => some v
    | false => lk e t
def ev (e : Env) : Operand → Option Value
  | .tmp t => lk e t
  | .const v => some v
  | .global g => some (.pointer (some ⟨g, 0, none⟩))
  | .func f => some (.func (.func f) #[] #[])
structure EnvOK (N : Nat) (a : Act) (e : Env) : Prop where
  size : a.tmps.size = N
  defers : a.defers = []
  has : ∀ t v, lk e t = some v → a.tmps[t]? = some v
theorem EnvOK.eval {N : Nat} {a : Act} {e : Env} (h : EnvOK N a e) : ∀ x v, ev e x = some v → a.eval x = v := by
  intro x v hv
  cases x <;> simp only [ev, Option.some.injEq] at hv
  · rename_i t; have := h.has t v hv; simp [Act.eval, Array.getD_eq_getD_getElem?, this]
  all_goals subst hv; rfl
def dstOk (N : Nat) : Option Tmp → Bool
  | none => true
  | some d => Nat.blt d N
def upd (e : Env) : Option Tmp → Value → Env
  | none, _ => e
  | some d, v => (d, v) :: e
theorem EnvOK.put {N : Nat} {a : Act} {e : Env} (h : EnvOK N a e) {d : Option Tmp} (hd : dstOk N d = true) (v : Value) : EnvOK N (a.put d v) (upd e d v) := by
  cases d with
  | none => exact h
  | some d =>
    have hlt : d < N := by simpa [dstOk] using hd
    refine ⟨by simp [Act.put, h.size], by simp [Act.put, h.defers], ?_⟩
    intro t u hu
    simp only [upd, lk] at hu
    split at hu
    · rename_i hb; have hb := Nat.eq_of_beq_eq_true hb; subst hb; cases hu
      simp [Act.put, h.size, hlt]
    · rename_i hb; have hb := Nat.ne_of_beq_eq_false hb
      simp only [Act.put, Array.getElem?_setIfInBounds, hb, if_false]; exact h.has t u hu
/-- fewer slots are known -/
def Sub (e e' : Env) : Prop := ∀ t v, lk e' t = some v → lk e t = some v
theorem EnvOK.sub {N : Nat} {a : Act} {e e' : Env} (h : EnvOK N a e) (hs : Sub e e') : EnvOK N a e' := ⟨h.size, h.defers, fun t v hv => h.has t v (hs t v hv)⟩
theorem Sub.nil (e : Env) : Sub e [] := fun t v h => by simp [lk] at h
theorem Sub.cons {e e' : Env} {t : Nat} {v : Value} (h : lk e t = some v) (k : Sub e e') : Sub e ((t, v) :: e') := by
  intro s u hu
  simp only [lk] at hu
  split at hu
  · rename_i hb; have hb := Nat.eq_of_beq_eq_true hb; subst hb; cases hu; exact h
  · exact k s u hu

/-! ### calls -/
def CallG (P : Program) (w0 : World) (f : FuncId) (args : Array Value) (l : HL) (K : Value → HL → Prop) : Prop :=
  ∀ w, Sat w0 w l → Calls P f args w fun e w' => ∃ v l', e = .returned v ∧ Sat w0 w' l' ∧ K v l'
theorem CallG.mono {P : Program} {w0 : World} {f : FuncId} {args : Array Value} {l : HL} {K K' : Value → HL → Prop} (h : CallG P w0 f args l K)
    (hk : ∀ v l', K v l' → K' v l') : CallG P w0 f args l K' :=
  fun w hs => (h w hs).mono fun _ _ ⟨v, l', h1, h2, h3⟩ => ⟨v, l', h1, h2, hk _ _ h3⟩
theorem CallG.ent {P : Program} {w0 : World} {f : FuncId} {args : Array Value} {l l' : HL} {K : Value → HL → Prop} (e : Ent l l') (h : CallG P w0 f args l' K) :
    CallG P w0 f args l K := fun w hs => h w (hs.ent e)

/-! ### running -/
structure Cx where
  w0 : World
  b : Frame
  cs : List Frame
  R : Ending → World → Prop
  N : Nat

def RunM (P : Program) (c : Cx) (todo : List Item) (a : Act) (w : World) : Prop :=
  ∃ e w' fr, c.R e w' ∧ Comes P (lone (c.b.at a todo) c.cs w) (lone fr c.cs w') e ∧ fr.fn = c.b.fn ∧ fr.leaving P w' e
def Run (P : Program) (c : Cx) (todo : List Item) (e : Env) (l : HL) : Prop := ∀ a w, EnvOK c.N a e → Sat c.w0 w l → RunM P c todo a w

section
variable {P : Program} {c : Cx} {k : List Item} {e : Env} {l : HL}
theorem RunM.steps {a a' : Act} {w w' : World} {todo todo' : List Item} (h : Steps P (lone (c.b.at a todo) c.cs w) (lone (c.b.at a' todo') c.cs w'))
    (r : RunM P c todo' a' w') : RunM P c todo a w := by
  obtain ⟨x, w1, fr, h1, h2, h3⟩ := r
  exact ⟨x, w1, fr, h1, Comes.of_steps h h2, h3⟩
theorem Run.ent {todo : List Item} {l' : HL} (hl : Ent l l') (h : Run P c todo e l') : Run P c todo e l := fun a w ha hs => h a w ha (hs.ent hl)
theorem Run.sub {todo : List Item} {e' : Env} (he : Sub e e') (h : Run P c todo e' l) : Run P c todo e l := fun a w ha hs => h a w (ha.sub he) hs
theorem Run.ex {todo : List Item} {α : Type} {f : α → HP} (h : ∀ x, Run P c todo e (f x :: l)) : Run P c todo e (ex f :: l) :=
  fun a w ha hs => let ⟨x, hx⟩ := hs.ex; h x a w ha hx
theorem Run.pur {todo : List Item} {p : Prop} (h : p → Run P c todo e l) : Run P c todo e (pur p :: l) :=
  fun a w ha hs => let ⟨x, hx⟩ := hs.pur; h x a w ha hx
theorem Run.all {todo : List Item} {m : HL} (h : Run P c todo e (m ++ l)) : Run P c todo e (all m :: l) := Run.ent (ent_all _ _) h
/-- what follows from memory -/
theorem Run.know {todo : List Item} {p : Prop} (hp : ∀ w, Sat c.w0 w l → p) (h : p → Run P c todo e l) : Run P c todo e l :=
  fun a w ha hs => h (hp w hs) a w ha hs

theorem Run.seq {x y : Code} (h : Run P c (.code x :: .code y :: k) e l) : Run P c (.code (.seq x y) :: k) e l :=
  fun a w ha hs => .steps (.one step_seq) (h a w ha hs)
theorem Run.skip (h : Run P c k e l) : Run P c (.code .skip :: k) e l := fun a w ha hs => .steps (.one step_skip) (h a w ha hs)
theorem Run.block {id : Nat} {x : Code} (h : Run P c (.code x :: .inBlock id :: k) e l) : Run P c (.code (.block id x) :: k) e l :=
  fun a w ha hs => .steps (.one step_block) (h a w ha hs)
theorem Run.inBlock {id : Nat} (h : Run P c k e l) : Run P c (.inBlock id :: k) e l := fun a w ha hs => .steps (.one step_inBlock) (h a w ha hs)
theorem Run.exit {id : Nat} {k' : List Item} (hk : exitTo id k = some k') (h : Run P c k' e l) : Run P c (.code (.exit id) :: k) e l :=
  fun a w ha hs => .steps (.one (step_exit hk)) (h a w ha hs)
theorem Run.loop1 {x : Code} (h : Run P c (.code x :: .inLoop x :: k) e l) : Run P c (.code (.loop x) :: k) e l :=
  fun a w ha hs => .steps (.one step_loop) (h a w ha hs)
theorem Run.inLoop {x : Code} (h : Run P c (.code x :: .inLoop x :: k) e l) : Run P c (.inLoop x :: k) e l :=
  fun a w ha hs => .steps (.one step_inLoop) (h a w ha hs)
theorem Run.cond {o : Operand} {x y : Code} {t : Bool} (ho : ev e o = some (.bool t)) (h1 : t = true → Run P c (.code x :: k) e l)
    (h2 : t = false → Run P c (.code y :: k) e l) : Run P c (.code (.cond o x y) :: k) e l := fun a w ha hs => by
  refine .steps (.one (step_cond (ha.eval _ _ ho))) ?_
  cases t
  · exact h2 rfl a w ha hs
  · exact h1 rfl a w ha hs
/-- a loop: what holds at each head, by a family; the measure goes down -/
theorem Run.loop {x : Code} {α : Type} (E : α → Env) (L : α → HL) (ok : α → Prop) (μ : α → Nat) (s : α) (h0 : ok s) (he : Sub e (E s)) (hl : Ent l (L s))
    (body : ∀ s, ok s → (∀ s', ok s' → μ s' < μ s → Run P c (.inLoop x :: k) (E s') (L s')) → Run P c (.code x :: .inLoop x :: k) (E s) (L s)) :
    Run P c (.code (.loop x) :: k) e l := by
  have key : ∀ n s, μ s = n → ok s → Run P c (.code x :: .inLoop x :: k) (E s) (L s) := by
    intro n
    induction n using Nat.strongRecOn with
    | _ n ih =>
      intro s hn hs
      exact body s hs fun s' h' hlt => Run.inLoop (ih _ (hn ▸ hlt) s' rfl h')
  exact Run.loop1 (Run.sub he (Run.ent hl (key _ s rfl h0)))

/-! ### regions -/
def QK (P : Program) (c : Cx) (k : List Item) : Exit → Act → World → Prop
  | .normal, a, w => RunM P c k a w
  | _, _, _ => False
def RunL (P : Program) (c : Cx) (ops : Array Oper) (rest : List Oper) (k : List Item) (e : Env) (l : HL) : Prop :=
  ∀ a w, EnvOK c.N a e → Sat c.w0 w l → wpList P ops (QK P c k) rest a w
theorem Run.region {id : Nat} {ops : List Oper} (h : RunL P c ops.toArray ops k e l) : Run P c (.code (.region id ops.toArray false) :: k) e l := fun a w ha hs => by
  obtain ⟨x, a', w', hq, harr⟩ := (wp_region_lit (id := id) (h a w ha hs)) c.b k c.cs
  cases x <;> simp only [QK] at hq
  exact .steps harr hq
theorem RunL.nil {ops : Array Oper} (h : Run P c k e l) : RunL P c ops [] k e l := fun a w ha hs => wpList_nil (h a w ha hs)
theorem RunL.ent {ops : Array Oper} {rest : List Oper} {l' : HL} (hl : Ent l l') (h : RunL P c ops rest k e l') : RunL P c ops rest k e l := fun a w ha hs => h a w ha (hs.ent hl)
theorem RunL.ex {ops : Array Oper} {rest : List Oper} {α : Type} {f : α → HP} (h : ∀ x, RunL P c ops rest k e (f x :: l)) : RunL P c ops rest k e (ex f :: l) :=
  fun a w ha hs => let ⟨x, hx⟩ := hs.ex; h x a w ha hx
theorem RunL.pur {ops : Array Oper} {rest : List Oper} {p : Prop} (h : p → RunL P c ops rest k e l) : RunL P c ops rest k e (pur p :: l) :=
  fun a w ha hs => let ⟨x, hx⟩ := hs.pur; h x a w ha hx
theorem RunL.all {ops : Array Oper} {rest : List Oper} {m : HL} (h : RunL P c ops rest k e (m ++ l)) : RunL P c ops rest k e (all m :: l) := RunL.ent (ent_all _ _) h

/-- what an operation comes to -/
def Res (P : Program) (w0 : World) (K : Value → HL → Prop) : Result Next → Prop
  | .ok (.value v) w => ∃ l, Sat w0 w l ∧ K v l
  | .ok .skip w => ∃ l, Sat w0 w l ∧ K undef l
  | .ok (.enter f args) w => ∃ l, Sat w0 w l ∧ CallG P w0 f args l K
  | _ => False
def OpG (P : Program) (w0 : World) (op : Op) (ty : TypeId) (e : Env) (l : HL) (K : Value → HL → Prop) : Prop :=
  ∀ ρ w, (∀ x v, ev e x = some v → ρ x = v) → Sat w0 w l → Res P w0 K ((execOp ρ ⟨none, op, ty, "", #[], none⟩).run P w)
theorem execOp_only (ρ : Operand → Value) (o : Oper) : execOp ρ o = execOp ρ ⟨none, o.op, o.type, "", #[], none⟩ := by
  unfold execOp; rfl
theorem OpG.wp {o : Oper} {a : Act} {w : World} {K : Value → HL → Prop} {next : Act → World → Prop} {Q : Exit → Act → World → Prop} (ha : EnvOK c.N a e)
    (hs : Sat c.w0 w l) (hd : dstOk c.N o.dst = true) (h : OpG P c.w0 o.op o.type e l K)
    (hn : ∀ v l' a' w', K v l' → EnvOK c.N a' (upd e o.dst v) → Sat c.w0 w' l' → next a' w') : o.wp P a w next Q := by
  unfold Oper.wp
  rw [execOp_only]
  have hr := h a.eval w ha.eval hs
  generalize (execOp a.eval ⟨none, o.op, o.type, "", #[], none⟩).run P w = r at hr
  cases r with
  | halt x w' => exact hr.elim
  | ok n w' =>
    cases n <;> simp only [Res] at hr <;> simp only [Oper.upon]
    · obtain ⟨l', h1, h2⟩ := hr; exact hn _ _ _ _ h2 (ha.put hd _) h1
    · obtain ⟨l', h1, h2⟩ := hr; exact hn _ _ _ _ h2 (ha.put hd _) h1
    · obtain ⟨l', h1, h2⟩ := hr
      refine (h2 w' h1).mono ?_
      rintro x w'' ⟨v, l'', rfl, h3, h4⟩
      exact hn _ _ _ _ h4 (ha.put hd _) h3

/-- the rule of an operation: what is left to be shown -/
class Rule (P : Program) (w0 : World) (op : Op) (ty : TypeId) (e : Env) (l : HL) (G : outParam ((Value → HL → Prop) → Prop)) : Prop where
  sound : ∀ K, G K → OpG P w0 op ty e l K

theorem RunL.op {ops : Array Oper} {rest : List Oper} {op : Op} {ty : TypeId} {d : Tmp} {pos : String} {after : Array Edge} {G : (Value → HL → Prop) → Prop}
    [r : Rule P c.w0 op ty e l G] (hd : Nat.blt d c.N = true) (h : G fun v l' => RunL P c ops rest k ((d, v) :: e) l') :
    RunL P c ops (⟨some d, op, ty, pos, after, none⟩ :: rest) k e l := fun a w ha hs => by
  refine wpList_plain rfl ?_
  intro K hK
  exact OpG.wp (o := ⟨some d, op, ty, pos, after, none⟩) ha hs hd (r.sound _ h) fun v l' a' w' h1 h2 h3 => hK _ _ (h1 a' w' h2 h3)
theorem RunL.op' {ops : Array Oper} {rest : List Oper} {op : Op} {ty : TypeId} {pos : String} {after : Array Edge} {G : (Value → HL → Prop) → Prop}
    [r : Rule P c.w0 op ty e l G] (h : G fun _ l' => RunL P c ops rest k e l') :
    RunL P c ops (⟨none, op, ty, pos, after, none⟩ :: rest) k e l := fun a w ha hs => by
  refine wpList_plain rfl ?_
  intro K hK
  exact OpG.wp (o := ⟨none, op, ty, pos, after, none⟩) ha hs rfl (r.sound _ h) fun v l' a' w' h1 h2 h3 => hK _ _ (h1 a' w' h2 h3)
theorem yielded_of {N : Nat} {a : Act} {ops : Array Oper} {j t : Nat} {b : Bool} (ha : EnvOK N a e) (hj : (ops[j]?).bind (·.dst) = some t) (ht : lk e t = some (.bool b)) :
    yielded ops a.tmps j = some b := by simp [yielded, hj, ha.has t _ ht]
/-- guarded, and wanted -/
theorem RunL.opW {ops : Array Oper} {rest : List Oper} {op : Op} {ty : TypeId} {d j t : Nat} {want : Bool} {pos : String} {after : Array Edge} {G : (Value → HL → Prop) → Prop}
    (hj : (ops[j]?).bind (·.dst) = some t) (ht : lk e t = some (.bool want))
    [r : Rule P c.w0 op ty e l G] (hd : Nat.blt d c.N = true) (h : G fun v l' => RunL P c ops rest k ((d, v) :: e) l') :
    RunL P c ops (⟨some d, op, ty, pos, after, some (j, want)⟩ :: rest) k e l := fun a w ha hs => by
  refine wpList_step ?_
  intro K hK
  rw [if_pos (by simp [Region.wanted, yielded_of ha hj ht])]
  exact OpG.wp (o := ⟨some d, op, ty, pos, after, some (j, want)⟩) ha hs hd (r.sound _ h) fun v l' a' w' h1 h2 h3 => hK _ _ (h1 a' w' h2 h3)
/-- guarded, and passed over -/
theorem RunL.opN {ops : Array Oper} {rest : List Oper} {op : Op} {ty : TypeId} {d j t : Nat} {want b : Bool} {pos : String} {after : Array Edge}
    (hj : (ops[j]?).bind (·.dst) = some t) (ht : lk e t = some (.bool b)) (hb : (b == want) = false)
    (hd : Nat.blt d c.N = true) (h : RunL P c ops rest k ((d, undef) :: e) l) :
    RunL P c ops (⟨some d, op, ty, pos, after, some (j, want)⟩ :: rest) k e l := fun a w ha hs => by
  refine wpList_skip ?_ (h _ w (EnvOK.put ha (d := some d) hd undef) hs)
  simp [Region.wanted, yielded_of ha hj ht]; simpa using hb

/-! ### the end of a call -/
/-- the results -/
def ResG (P : Program) (w0 : World) (fn : Func) (e : Env) (l : HL) (v : Value) : Prop :=
  ∀ a w N, EnvOK N a e → Sat w0 w l → (Go.results fn a.tmps).run P w = .ok v w
theorem ResG.one {w0 : World} {fn : Func} {t : Tmp} {v : Value} (h : fn.results = #[.tmp t]) (ht : lk e t = some v) : ResG P w0 fn e l v := fun a w N ha hs => by
  rw [results_tmp h]; simp [Array.getD_eq_getD_getElem?, ha.has t v ht]
theorem ResG.two {w0 : World} {fn : Func} {t u : Tmp} {x y : Value} (h : fn.results = #[.tmp t, .tmp u]) (ht : lk e t = some x) (hu : lk e u = some y) :
    ResG P w0 fn e l (.tuple #[x, y]) := fun a w N ha hs => by
  rw [results_tmp2 h]; simp [Array.getD_eq_getD_getElem?, ha.has t x ht, ha.has u y hu]
theorem ResG.none {w0 : World} {fn : Func} (h : fn.results = #[]) : ResG P w0 fn e l (.tuple #[]) := fun a w N ha hs => by
  rw [results_none h]

/-- a call's own frame: what it is to come to -/
@[reducible] def Cx.of (w0 : World) (f : FuncId) (cs : List Frame) (N : Nat) (K : Value → HL → Prop) : Cx :=
  { w0, b := { (default : Frame) with fn := f, kind := .normal }, cs, R := fun x w' => ∃ v l', x = .returned v ∧ Sat w0 w' l' ∧ K v l', N }
theorem Run.ret {w0 : World} {f : FuncId} {cs : List Frame} {N : Nat} {K : Value → HL → Prop} {fn : Func} {v : Value} (hf : P.funcs[f]? = some fn)
    (hr : ResG P w0 fn e l v) (h : K v l) : Run P (Cx.of w0 f cs N K) (.code .ret :: k) e l := fun a w ha hs =>
  ⟨.returned v, w, _, ⟨v, l, rfl, hs, h⟩, Comes.of_steps (.one step_ret) (Steps.refl _ _), rfl, rfl, ha.defers, rfl, fn, hf, hr a w N ha hs⟩
theorem Run.fin {w0 : World} {f : FuncId} {cs : List Frame} {N : Nat} {K : Value → HL → Prop} {fn : Func} {v : Value} (hf : P.funcs[f]? = some fn)
    (hr : ResG P w0 fn e l v) (h : K v l) : Run P (Cx.of w0 f cs N K) [] e l := fun a w ha hs =>
  ⟨.returned v, w, _, ⟨v, l, rfl, hs, h⟩, Comes.of_steps (.one step_end) (Steps.refl _ _), rfl, rfl, ha.defers, rfl, fn, hf, hr a w N ha hs⟩

/-- the arguments, in slots from one on -/
def argEnv : Nat → List Value → Env
  | _, [] => []
  | n, v :: vs => (n, v) :: argEnv (n + 1) vs
theorem lk_argEnv : ∀ (vs : List Value) (n t : Nat) (v : Value), lk (argEnv n vs) t = some v → n ≤ t ∧ vs[t - n]? = some v
  | [], _, _, _, h => by simp [argEnv, lk] at h
  | x :: xs, n, t, v, h => by
    simp only [argEnv, lk] at h
    split at h
    · rename_i hb; have hb := Nat.eq_of_beq_eq_true hb; subst hb; cases h; simp
    · rename_i hb; have hb := Nat.ne_of_beq_eq_false hb
      obtain ⟨h1, h2⟩ := lk_argEnv xs (n + 1) t v h
      refine ⟨by omega, ?_⟩
      have : t - n = (t - (n + 1)) + 1 := by omega
      rw [this]; simpa using h2
theorem CallG.enter {w0 : World} {f : FuncId} {fn : Func} {code : Code} {args : List Value} {K : Value → HL → Prop} (hf : P.funcs[f]? = some fn) (hb : fn.body = some code)
    (hn : Nat.ble args.length fn.ntmps = true) (h : ∀ cs, Run P (Cx.of w0 f cs fn.ntmps K) [.code code] (argEnv 0 args) l) : CallG P w0 f args.toArray l K := by
  intro w hs cs
  have hn : args.length ≤ fn.ntmps := by simpa using hn
  have henter : Frame.enter P f args.toArray .normal =
      (Cx.of w0 f cs fn.ntmps K).b.at { tmps := args.toArray ++ Array.replicate (fn.ntmps - args.toArray.size) undef, defers := [] } [.code code] := by
    simp [Frame.enter, Frame.at, hf, hb, Cx.of]
  rw [henter]
  obtain ⟨x, w', fr, h1, h2, h3, h4⟩ := h cs { tmps := args.toArray ++ Array.replicate (fn.ntmps - args.toArray.size) undef, defers := [] } w
    ⟨by simp [Cx.of]; omega, rfl, by
      intro t v hv
      obtain ⟨h1, h2⟩ := lk_argEnv args 0 t v hv
      simp only [Nat.sub_zero] at h2
      have hlt : t < args.length := (List.getElem?_eq_some_iff.1 h2).1
      rw [Array.getElem?_append_left (by simpa using hlt)]
      simpa using h2⟩ hs
  exact ⟨x, w', fr, h1, h2, h3, h4⟩
end
end Go.Sl
/- What the tables say; reading and writing cells. -/
open Go Go.RowKit
namespace Go.Sl

/-! ### what the program's tables say -/
class Und (P : Program) (t : TypeId) (d : outParam TypeDesc) : Prop where
  h : P.underlying t = some d
/-- one cell -/
class Sca (P : Program) (t : TypeId) : Prop where
  h : ∃ d i, P.underlying t = some d ∧ (match d with | .struct _ | .array _ _ => true | _ => false) = false ∧ P.info? t = some i ∧ i.size = 1
/-- a struct, or an array, of so many cells -/
class Agg (P : Program) (t : TypeId) (n : outParam Nat) : Prop where
  h : ∃ d i, P.underlying t = some d ∧ (match d with | .struct _ | .array _ _ => true | _ => false) = true ∧ P.info? t = some i ∧ i.size = n
class Siz (P : Program) (t : TypeId) (n : outParam Nat) : Prop where
  h : ∃ i, P.info? t = some i ∧ i.size = n
class Byt (P : Program) (t : TypeId) (n : outParam Nat) : Prop where
  h : ∃ i, P.info? t = some i ∧ i.bytes = n
class Zer (P : Program) (t : TypeId) (z : outParam (List Value)) : Prop where
  h : ∃ i v, P.info? t = some i ∧ i.zero = some v ∧ v.cells = z.toArray
class Fld (P : Program) (t : TypeId) (f : Nat) (k : outParam Nat) : Prop where
  h : ∃ fs fl i, P.underlying t = some (.struct fs) ∧ fs[f]? = some fl ∧ fl.offset = k ∧ P.info? fl.type = some i ∧ i.size ≠ 0
class FnC (P : Program) (f : FuncId) : Prop where
  h : ∃ fn, P.funcs[f]? = some fn ∧ (fn.name == "runtime.NumGoroutine") = false ∧ fn.body.isNone = false

/-! ### small ways to say what is left -/
def nth : List Value → Nat → Option Value
  | [], _ => none
  | x :: _, 0 => some x
  | _ :: l, n + 1 => nth l n
theorem nth_eq : ∀ (l : List Value) (n : Nat), nth l n = l[n]?
  | [], _ => by simp [nth]
  | _ :: _, 0 => rfl
  | _ :: l, n + 1 => by simp [nth, nth_eq l n]
class SetR (c : List Value) (i : Nat) (v : Value) (c' : outParam (List Value)) : Prop where
  h : c' = c.set i v
instance (priority := low) SetR.any {c : List Value} {i : Nat} {v : Value} : SetR c i v (c.set i v) := ⟨rfl⟩
instance SetR.head {c : List Value} {x v : Value} : SetR (x :: c) 0 v (v :: c) := ⟨rfl⟩
instance SetR.tail {c c' : List Value} {n : Nat} {x v : Value} [h : SetR c n v c'] : SetR (x :: c) (n + 1) v (x :: c') := ⟨by rw [h.h]; rfl⟩
/-- a block of the call's own, in the list -/
class Has (l : HL) (b : Nat) (c : outParam (List Value)) (T : outParam TypeId) (l' : outParam HL) : Prop where
  h : Rem l (cells b c T) l'
instance Has.head {l : HL} {b : Nat} {c : List Value} {T : TypeId} : Has (cells b c T :: l) b c T l := ⟨.here⟩
instance (priority := low) Has.tail {l l' : HL} {A : HP} {b : Nat} {c : List Value} {T : TypeId} [h : Has l b c T l'] : Has (A :: l) b c T (A :: l') := ⟨.there h.h⟩
/-- a block that was there before -/
class Base (w0 : World) (b : Nat) (c : outParam (List Value)) (T : outParam TypeId) : Prop where
  h : ∃ fz, w0.heap[b]? = some (.cells c.toArray T fz)
/-- a cell that can be read -/
class Reads (w0 : World) (l : HL) (b : Nat) (c : outParam (List Value)) (T : outParam TypeId) : Prop where
  h : ∀ w, Sat w0 w l → ∃ fz, w.heap[b]? = some (.cells c.toArray T fz)
instance Reads.has {w0 : World} {l l' : HL} {b : Nat} {c : List Value} {T : TypeId} [h : Has l b c T l'] : Reads w0 l b c T :=
  ⟨fun _ hs => ⟨_, (hs.ent h.h.ent).cells.2⟩⟩
instance (priority := low) Reads.base {w0 : World} {l : HL} {b : Nat} {c : List Value} {T : TypeId} [h : Base w0 b c T] : Reads w0 l b c T :=
  ⟨fun w hs => let ⟨fz, e⟩ := h.h; ⟨fz, by rw [hs.block b (Array.getElem?_eq_some_iff.1 e).1]; exact e⟩⟩


section
variable {P : Program} {w w' : World}
theorem run_und {t : TypeId} {d : TypeDesc} (h : P.underlying t = some d) : (underlying t).run P w = .ok d w := by simp [underlying, h]
theorem run_inf {t : TypeId} {i : TypeInfo} (h : P.info? t = some i) : (typeInfo t).run P w = .ok i w := by simp [typeInfo, h]
theorem run_sizeOf {t : TypeId} {i : TypeInfo} (h : P.info? t = some i) : (sizeOf t).run P w = .ok i.size w := by simp [sizeOf, run_inf h]
theorem run_zeroValue {t : TypeId} {i : TypeInfo} {v : Value} (h : P.info? t = some i) (hz : i.zero = some v) : (zeroValue t).run P w = .ok v w := by
  simp [zeroValue, run_inf h, hz]
theorem run_isAgg_no {t : TypeId} (h : Sca P t) : (isAgg t).run P w = .ok false w := by
  obtain ⟨d, i, h1, h2, h3, h4⟩ := h.h
  simp only [isAgg, Sem.run_bind, run_und h1, Result.andThen_ok]
  cases d <;> simp_all
theorem run_isAgg_yes {t : TypeId} {n : Nat} (h : Agg P t n) : (isAgg t).run P w = .ok true w := by
  obtain ⟨d, i, h1, h2, h3, h4⟩ := h.h
  simp only [isAgg, Sem.run_bind, run_und h1, Result.andThen_ok]
  cases d <;> simp_all
theorem run_size_agg {t : TypeId} {n : Nat} (h : Agg P t n) : (sizeOf t).run P w = .ok n w := by
  obtain ⟨d, i, h1, h2, h3, h4⟩ := h.h
  rw [run_sizeOf h3, h4]

theorem cell?_of {b : Nat} {c : List Value} {T : TypeId} {fz : Nat × Nat} (h : w.heap[b]? = some (.cells c.toArray T fz)) (i : Nat) : w.cell? ⟨b, i, none⟩ = c[i]? := by
  simp [World.cell?, h]
theorem run_load_of {b : Nat} {c : List Value} {T : TypeId} {fz : Nat × Nat} (h : w.heap[b]? = some (.cells c.toArray T fz)) {i : Nat} {v : Value} (hv : c[i]? = some v) (m : Mode) :
    (load ⟨b, i, none⟩ m).run P w = .ok v w := by
  rw [run_load, cell?_of h, hv]
theorem addr_add (b i n : Nat) : Addr.add ⟨b, i, none⟩ n = ⟨b, i + n, none⟩ := by
  unfold Addr.add; split <;> simp_all
/-- some cells of a list -/
def cut (c : List Value) (i n : Nat) : List Value := (c.drop i).take n
theorem run_loadCellsFrom {b : Nat} {c : List Value} {T : TypeId} {fz : Nat × Nat} (h : w.heap[b]? = some (.cells c.toArray T fz)) (off : Nat) :
    ∀ (n i : Nat) (acc : Array Value), off + i + n ≤ c.length → (loadCellsFrom ⟨b, off, none⟩ i n acc).run P w = .ok (acc ++ (cut c (off + i) n).toArray) w
  | 0, i, acc, _ => by simp [loadCellsFrom, cut]
  | n + 1, i, acc, hl => by
    have hlt : off + i < c.length := by omega
    have hv : c[off + i]? = some c[off + i] := List.getElem?_eq_getElem hlt
    simp only [loadCellsFrom, Sem.run_bind, addr_add, run_load_of h hv, Result.andThen_ok]
    rw [run_loadCellsFrom h off n (i + 1) _ (by omega)]
    have : cut c (off + i) (n + 1) = c[off + i] :: cut c (off + (i + 1)) n := by
      unfold cut; rw [List.drop_eq_getElem_cons hlt, List.take_succ_cons]; rfl
    rw [this]; simp
theorem run_loadCells {b : Nat} {c : List Value} {T : TypeId} {fz : Nat × Nat} (h : w.heap[b]? = some (.cells c.toArray T fz)) (off n : Nat) (hl : off + n ≤ c.length) :
    (loadCells ⟨b, off, none⟩ n).run P w = .ok (cut c off n).toArray w := by
  unfold loadCells; rw [run_loadCellsFrom h off n 0 #[] (by omega)]; simp

/-- put some cells -/
def lay (c : List Value) (i : Nat) : List Value → List Value
  | [] => c
  | v :: vs => lay (c.set i v) (i + 1) vs
theorem run_storeCells {w0 : World} {b : Nat} {T : TypeId} {l : HL} (off : Nat) :
    ∀ (vs : List Value) (i : Nat) (c : List Value) (w : World), Sat w0 w (cells b c T :: l) → off + i + vs.length ≤ c.length → (∀ v ∈ vs, v.oneCell' = true) →
      ∃ w', (storeCells ⟨b, off, none⟩ vs i).run P w = .ok () w' ∧ Sat w0 w' (cells b (lay c (off + i) vs) T :: l)
  | [], i, c, w, hs, _, _ => ⟨w, by simp [storeCells], hs⟩
  | v :: vs, i, c, w, hs, hl, h1 => by
    have hlt : off + i < c.length := by simp at hl; omega
    have hb := hs.cells.2
    have hc : w.cell? ⟨b, off + i, none⟩ = some c[off + i] := by rw [cell?_of hb]; exact List.getElem?_eq_getElem hlt
    have hf : w.frozen? ⟨b, off + i, none⟩ = false := by simp [World.frozen?, hb]
    obtain ⟨w', e, h'⟩ := run_storeCells off vs (i + 1) (c.set (off + i) v) (w.setCell ⟨b, off + i, none⟩ v) (hs.setCell v) (by simp at hl ⊢; omega) (fun u hu => h1 u (by simp [hu]))
    refine ⟨w', ?_, h'⟩
    simp only [storeCells, Sem.run_bind, addr_add, run_store P w _ v .plain (h1 v (by simp)), hc, hf]
    simpa using e
end
end Go.Sl
/- The steps of a walk: control, copies, loads, stores. -/
open Go Go.RowKit
namespace Go.Sl


/-- one step of a proof: what is left of a goal -/
class Step (Q : Prop) (G : outParam Prop) : Prop where
  imp : G → Q
theorem step {Q G : Prop} [h : Step Q G] : G → Q := h.imp
/-- the value of an operand, then the rest -/
def Let {α : Type} (o : Option α) (k : α → Prop) : Prop := ∃ v, o = some v ∧ k v
/-- whatever block it is -/
def All (f : Nat → Prop) : Prop := ∀ b, f b
theorem anyB {f : Nat → Prop} (h : ∀ b, f b) : All f := h
theorem got {α : Type} {o : Option α} {k : α → Prop} {v : α} (h : o = some v) (hk : k v) : Let o k := ⟨v, h, hk⟩

section
variable {P : Program} {c : Cx} {k : List Item} {e : Env} {l : HL} {ops : Array Oper} {rest : List Oper} {op : Op} {G : (Value → HL → Prop) → Prop} {pos : String} {after : Array Edge} {yes no : Prop} {want : Bool}
  {x y : Code} {n j : Nat} {ty : TypeId} {o : Operand}
instance : Step (Run P c (.code (.seq x y) :: k) e l) (Run P c (.code x :: .code y :: k) e l) := ⟨Run.seq⟩
instance : Step (Run P c (.code .skip :: k) e l) (Run P c k e l) := ⟨Run.skip⟩
instance : Step (Run P c (.code (.block n x) :: k) e l) (Run P c (.code x :: .inBlock n :: k) e l) := ⟨Run.block⟩
instance : Step (Run P c (.inBlock n :: k) e l) (Run P c k e l) := ⟨Run.inBlock⟩
instance : Step (Run P c (.code (.exit n) :: k) e l) (Let (exitTo n k) fun k' => Run P c k' e l) := ⟨fun ⟨_, h1, h2⟩ => Run.exit h1 h2⟩
instance {ops : List Oper} : Step (Run P c (.code (.region n ops.toArray false) :: k) e l) (RunL P c ops.toArray ops k e l) := ⟨Run.region⟩
instance : Step (RunL P c ops [] k e l) (Run P c k e l) := ⟨RunL.nil⟩
instance {d : Nat} [r : Rule P c.w0 op ty e l G] : Step (RunL P c ops (⟨some d, op, ty, pos, after, none⟩ :: rest) k e l)
    (Nat.blt d c.N = true ∧ G fun v l' => RunL P c ops rest k ((d, v) :: e) l') := ⟨fun ⟨h1, h2⟩ => RunL.op h1 h2⟩
instance [r : Rule P c.w0 op ty e l G] : Step (RunL P c ops (⟨none, op, ty, pos, after, none⟩ :: rest) k e l) (G fun _ l' => RunL P c ops rest k e l') := ⟨RunL.op'⟩
/-- a guarded operation: what the guard's slot holds -/
def GuardG (P : Program) (c : Cx) (v : Value) (want : Bool) (yes no : Prop) : Prop := ∃ b : Bool, v = .bool b ∧ ((b == want) = true → yes) ∧ ((b == want) = false → no)
instance {d : Nat} [r : Rule P c.w0 op ty e l G] : Step (RunL P c ops (⟨some d, op, ty, pos, after, some (j, want)⟩ :: rest) k e l)
    (Let ((ops[j]?).bind (·.dst)) fun t => Let (lk e t) fun v => Nat.blt d c.N = true ∧ GuardG P c v want (G fun v l' => RunL P c ops rest k ((d, v) :: e) l') (RunL P c ops rest k ((d, undef) :: e) l)) :=
  ⟨fun ⟨t, h1, v, h2, h3, b, h4, h5, h6⟩ => by
    subst h4
    cases hb : (b == want) with
    | true => simp at hb; subst hb; exact RunL.opW h1 h2 h3 (h5 (by simp))
    | false => exact RunL.opN h1 h2 hb h3 (h6 hb)⟩
instance : Step (GuardG P c (.bool true) true yes no) yes := ⟨fun h => ⟨true, rfl, fun _ => h, fun h => by simp at h⟩⟩
instance : Step (GuardG P c (.bool false) false yes no) yes := ⟨fun h => ⟨false, rfl, fun _ => h, fun h => by simp at h⟩⟩
instance : Step (GuardG P c (.bool true) false yes no) no := ⟨fun h => ⟨true, rfl, fun h => by simp at h, fun _ => h⟩⟩
instance : Step (GuardG P c (.bool false) true yes no) no := ⟨fun h => ⟨false, rfl, fun h => by simp at h, fun _ => h⟩⟩
instance (priority := low) {p : Prop} [Decidable p] : Step (GuardG P c (.bool (decide p)) true yes no) ((p → yes) ∧ (¬ p → no)) :=
  ⟨fun h => ⟨decide p, rfl, fun hp => h.1 (by simpa using hp), fun hp => h.2 (by simpa using hp)⟩⟩
instance (priority := low) {p : Prop} [Decidable p] : Step (GuardG P c (.bool (decide p)) false yes no) ((¬ p → yes) ∧ (p → no)) :=
  ⟨fun h => ⟨decide p, rfl, fun hp => h.1 (by simpa using hp), fun hp => h.2 (by simpa using hp)⟩⟩
/-- a test -/
def CondG (v : Value) (yes no : Prop) : Prop := ∃ b : Bool, v = .bool b ∧ (b = true → yes) ∧ (b = false → no)
instance : Step (Run P c (.code (.cond o x y) :: k) e l) (Let (ev e o) fun v => CondG v (Run P c (.code x :: k) e l) (Run P c (.code y :: k) e l)) :=
  ⟨fun ⟨_, h1, b, h2, h3, h4⟩ => by subst h2; exact Run.cond h1 h3 h4⟩
instance : Step (CondG (.bool true) yes no) yes := ⟨fun h => ⟨true, rfl, fun _ => h, fun h => by simp at h⟩⟩
instance : Step (CondG (.bool false) yes no) no := ⟨fun h => ⟨false, rfl, fun h => by simp at h, fun _ => h⟩⟩
instance (priority := low) {p : Prop} [Decidable p] : Step (CondG (.bool (decide p)) yes no) ((p → yes) ∧ (¬ p → no)) :=
  ⟨fun h => ⟨decide p, rfl, fun hp => h.1 (by simpa using hp), fun hp => h.2 (by simpa using hp)⟩⟩
instance (priority := 10) {b : Bool} : Step (CondG (.bool b) yes no) ((b = true → yes) ∧ (b = false → no)) := ⟨fun h => ⟨b, rfl, h.1, h.2⟩⟩
end

section
variable {P : Program} {w0 : World} {e : Env} {l : HL} {ty : TypeId}
theorem Res.val {K : Value → HL → Prop} {r : Result Next} {v : Value} {w : World} {l' : HL} (h : r = .ok (.value v) w) (hs : Sat w0 w l') (hk : K v l') : Res P w0 K r := by
  subst h; exact ⟨l', hs, hk⟩
theorem Res.unit {K : Value → HL → Prop} {r : Result Next} {w : World} {l' : HL} (h : r = .ok .skip w) (hs : Sat w0 w l') (hk : K undef l') : Res P w0 K r := by
  subst h; exact ⟨l', hs, hk⟩

/-- an operation that gives a value and leaves the world as it is -/
class Flt (P : Program) (w0 : World) (op : Op) (ty : TypeId) (e : Env) (l : HL) (G : outParam ((Value → Prop) → Prop)) : Prop where
  sound : ∀ K, G K → ∃ v, (∀ ρ w, (∀ x v, ev e x = some v → ρ x = v) → Sat w0 w l → (execOp ρ ⟨none, op, ty, "", #[], none⟩).run P w = .ok (.value v) w) ∧ K v
instance (priority := high) Rule.ofFlt {op : Op} {G : (Value → Prop) → Prop} [h : Flt P w0 op ty e l G] : Rule P w0 op ty e l (fun K => G fun v => K v l) :=
  ⟨fun K hk ρ w hρ hs => let ⟨_, h1, h2⟩ := h.sound _ hk; .val (h1 ρ w hρ hs) hs h2⟩
instance Flt.move {x : Operand} : Flt P w0 (.move x) ty e l (fun K => Let (ev e x) K) :=
  ⟨fun K ⟨v, hv, hk⟩ => ⟨v, fun ρ w hρ hs => by simp [execOp, hρ x v hv], hk⟩⟩
instance Flt.assign {x : Operand} : Flt P w0 (.assign x) ty e l (fun K => Let (ev e x) K) :=
  ⟨fun K ⟨v, hv, hk⟩ => ⟨v, fun ρ w hρ hs => by simp [execOp, hρ x v hv], hk⟩⟩
instance Flt.pick {c a b : Operand} : Flt P w0 (.pick c a b) ty e l (fun K => Let (ev e c) fun v => CondG v (Let (ev e a) K) (Let (ev e b) K)) :=
  ⟨fun K ⟨v, hv, t, ht, h1, h2⟩ => by
    subst ht
    cases t
    · obtain ⟨x, hx, hk⟩ := h2 rfl
      exact ⟨x, fun ρ w hρ hs => by simp [execOp, hρ c _ hv, asBool, hρ b x hx], hk⟩
    · obtain ⟨x, hx, hk⟩ := h1 rfl
      exact ⟨x, fun ρ w hρ hs => by simp [execOp, hρ c _ hv, asBool, hρ a x hx], hk⟩⟩

theorem Sat.newCells {w : World} (H : Sat w0 w l) (c : List Value) (T : TypeId) : Sat w0 { w with heap := w.heap.push (.cells c.toArray T) } (Sl.cells w.heap.size c T :: l) := H.new _

/-! a value's cells -/
section
variable {vs : List Value} {k : IntKind} {n : Int} {i m : Nat} {b : Bool} {s : ByteArray} {a : Option Addr} {r : Option Nat} {fn : Fn} {x y : Array Value} {t : TypeId} {v : Value}
class CellsR (v : Value) (vs : outParam (List Value)) : Prop where
  h : v.cells = vs.toArray
instance : CellsR (.agg vs.toArray) vs := ⟨rfl⟩
instance : CellsR (.int k n) [.int k n] := ⟨rfl⟩
instance : CellsR (.bool b) [.bool b] := ⟨rfl⟩
instance : CellsR (.string s) [.string s] := ⟨rfl⟩
instance : CellsR (.pointer a) [.pointer a] := ⟨rfl⟩
instance : CellsR (.slice a i m) [.slice a i m] := ⟨rfl⟩
instance : CellsR (.map r) [.map r] := ⟨rfl⟩
instance : CellsR (.func fn x y) [.func fn x y] := ⟨rfl⟩
instance : CellsR .nilFunc [.nilFunc] := ⟨rfl⟩
instance : CellsR (.iface t v) [.iface t v] := ⟨rfl⟩
instance : CellsR .nilIface [.nilIface] := ⟨rfl⟩
def CellsG (v : Value) (K : List Value → Prop) : Prop := ∃ vs, v.cells = vs.toArray ∧ K vs
instance {K : List Value → Prop} [h : CellsR v vs] : Step (CellsG v K) (K vs) := ⟨fun hk => ⟨vs, h.h, hk⟩⟩
end

instance Rule.alloc {t : TypeId} {z : List Value} [hz : Zer P t z] : Rule P w0 (.alloc t) ty e l (fun K => All fun b => K (.pointer (some ⟨b, 0, none⟩)) (cells b z t :: l)) :=
  ⟨fun K hk ρ w hρ hs => by
    obtain ⟨i, v, h1, h2, h3⟩ := hz.h
    refine .val (v := .pointer (some ⟨w.heap.size, 0, none⟩)) (w := { w with heap := w.heap.push (.cells z.toArray t) }) ?_ (hs.newCells z t) (hk _)
    simp [execOp, Instr.alloc, run_zeroValue h1 h2, newVar, newRow, h3]⟩
instance Rule.box {t : TypeId} {x : Operand} : Rule P w0 (.box t x) ty e l (fun K => Let (ev e x) fun v => CellsG v fun vs => All fun b => K (.pointer (some ⟨b, 0, none⟩)) (cells b vs t :: l)) :=
  ⟨fun K ⟨v, hv, vs, hvs, hk⟩ ρ w hρ hs => by
    refine .val (v := .pointer (some ⟨w.heap.size, 0, none⟩)) (w := { w with heap := w.heap.push (.cells vs.toArray t) }) ?_ (hs.newCells vs t) (hk _)
    simp [execOp, Instr.box, newVar, newRow, hρ x v hv, hvs]⟩

/-! loads -/
section
variable {c r vs : List Value} {i n : Nat} {x v : Value}
class CutR (c : List Value) (i n : Nat) (r : outParam (List Value)) : Prop where
  h : r = cut c i n
instance (priority := low) : CutR c i n (cut c i n) := ⟨rfl⟩
instance (priority := high) : CutR c i 0 [] := ⟨by simp [cut]⟩
instance [h : CutR c 0 n r] : CutR (x :: c) 0 (n + 1) (x :: r) := ⟨by rw [h.h]; simp [cut]⟩
instance [h : CutR c i n r] : CutR (x :: c) (i + 1) n r := ⟨by rw [h.h]; simp [cut]⟩
end
def LoadG (P : Program) (t : TypeId) (v : Value) (l : HL) (w0 : World) (K : Value → Prop) : Prop := ∃ u, (∀ w, Sat w0 w l → (Instr.loadAt t v).run P w = .ok u w) ∧ K u
instance LoadG.sca {t : TypeId} {b off : Nat} {c : List Value} {T : TypeId} {K : Value → Prop} [hs : Sca P t] [hr : Reads w0 l b c T] :
    Step (LoadG P t (.pointer (some ⟨b, off, none⟩)) l w0 K) (Let (nth c off) K) :=
  ⟨fun ⟨u, hu, hk⟩ => ⟨u, fun w hw => by
    obtain ⟨fz, hb⟩ := hr.h w hw
    simp [Instr.loadAt, Instr.sureAddr, loadVar, run_isAgg_no hs, -run_load, run_load_of hb (by rw [← nth_eq]; exact hu)], hk⟩⟩
instance LoadG.agg {t n : TypeId} {b off : Nat} {c r : List Value} {T : TypeId} {K : Value → Prop} [ha : Agg P t n] [hr : Reads w0 l b c T] [hc : CutR c off n r] :
    Step (LoadG P t (.pointer (some ⟨b, off, none⟩)) l w0 K) (Nat.ble (off + n) c.length = true ∧ K (.agg r.toArray)) :=
  ⟨fun ⟨hl, hk⟩ => ⟨_, fun w hw => by
    obtain ⟨fz, hb⟩ := hr.h w hw
    simp [Instr.loadAt, Instr.sureAddr, loadVar, run_isAgg_yes ha, run_size_agg ha, run_loadCells hb off n (by simpa using hl), hc.h], hk⟩⟩
instance Flt.load {t : TypeId} {x : Operand} : Flt P w0 (.load t x) ty e l (fun K => Let (ev e x) fun v => LoadG P t v l w0 K) :=
  ⟨fun K ⟨v, hv, u, h1, h2⟩ => ⟨u, fun ρ w hρ hs => by simp [execOp, hρ x v hv, h1 w hs], h2⟩⟩

/-! stores -/
section
variable {c r vs : List Value} {i n : Nat} {x v : Value}
class LayR (c : List Value) (i : Nat) (vs : List Value) (r : outParam (List Value)) : Prop where
  h : r = lay c i vs
theorem lay_succ : ∀ (vs c : List Value) (x : Value) (i : Nat), lay (x :: c) (i + 1) vs = x :: lay c i vs
  | [], _, _, _ => rfl
  | v :: vs, c, x, i => by simp [lay, lay_succ vs]
instance (priority := low) : LayR c i vs (lay c i vs) := ⟨rfl⟩
instance (priority := high) : LayR c i [] c := ⟨rfl⟩
instance [h : LayR c 0 vs r] : LayR (x :: c) 0 (v :: vs) (v :: r) := ⟨by rw [h.h]; simp [lay, lay_succ]⟩
instance [h : LayR c i vs r] : LayR (x :: c) (i + 1) vs (x :: r) := ⟨by rw [h.h, lay_succ]⟩
end
/-- a block of the call's own in its place -/
class HasP (l : HL) (b : Nat) (c : outParam (List Value)) (T : outParam TypeId) (mk : outParam (List Value → HL)) : Prop where
  h : ∃ l', Rem l (cells b c T) l' ∧ ∀ c', Rem (mk c') (cells b c' T) l'
instance HasP.head {l : HL} {b : Nat} {c : List Value} {T : TypeId} : HasP (cells b c T :: l) b c T (fun c' => cells b c' T :: l) := ⟨l, .here, fun _ => .here⟩
instance (priority := low) HasP.tail {l : HL} {A : HP} {b : Nat} {c : List Value} {T : TypeId} {mk : List Value → HL} [h : HasP l b c T mk] : HasP (A :: l) b c T (fun c' => A :: mk c') :=
  ⟨let ⟨l', h1, h2⟩ := h.h; ⟨A :: l', .there h1, fun c' => .there (h2 c')⟩⟩
def StoreG (P : Program) (t : TypeId) (a v : Value) (l : HL) (w0 : World) (K : HL → Prop) : Prop :=
  ∀ w, Sat w0 w l → ∃ w' l', (Instr.storeAt t a v).run P w = .ok () w' ∧ Sat w0 w' l' ∧ K l'
theorem cells_one {v : Value} (h : v.oneCell' = true) : v.cells = #[v] := by cases v <;> simp_all [Value.oneCell', Value.cells]
instance StoreG.sca {t : TypeId} {b off : Nat} {c c' : List Value} {T : TypeId} {v : Value} {mk : List Value → HL} {K : HL → Prop} [hs : Sca P t] [hr : HasP l b c T mk] [hc : SetR c off v c'] :
    Step (StoreG P t (.pointer (some ⟨b, off, none⟩)) v l w0 K) (Nat.blt off c.length = true ∧ v.oneCell' = true ∧ K (mk c')) :=
  ⟨fun ⟨hl, h1, hk⟩ w hw => by
    obtain ⟨d, i, e1, e2, e3, e4⟩ := hs.h
    obtain ⟨l', hr1, hr2⟩ := hr.h
    have hb := (hw.ent hr1.ent)
    have hlt : off < c.length := by simpa using hl
    obtain ⟨w', r1, r2⟩ := run_storeCells (P := P) off [v] 0 c w hb (by simp; omega) (by simpa using h1)
    refine ⟨w', mk c', ?_, (by have := r2.ent (hr2 _).ent'; simpa [lay, hc.h] using this), hk⟩
    simp [Instr.storeAt, Instr.sureAddr, storeVar, run_sizeOf e3, e4, cells_one h1, r1]⟩
instance StoreG.agg {t n : TypeId} {b off : Nat} {c c' vs : List Value} {T : TypeId} {mk : List Value → HL} {K : HL → Prop} [ha : Agg P t n] [hr : HasP l b c T mk] [hc : LayR c off vs c'] :
    Step (StoreG P t (.pointer (some ⟨b, off, none⟩)) (.agg vs.toArray) l w0 K) (Nat.beq vs.length n = true ∧ Nat.ble (off + vs.length) c.length = true ∧ vs.all Value.oneCell' = true ∧ K (mk c')) :=
  ⟨fun ⟨hn, hl, h1, hk⟩ w hw => by
    obtain ⟨d, i, e1, e2, e3, e4⟩ := ha.h
    obtain ⟨l', hr1, hr2⟩ := hr.h
    have hb := (hw.ent hr1.ent)
    have hn : vs.length = n := by simpa using hn
    obtain ⟨w', r1, r2⟩ := run_storeCells (P := P) off vs 0 c w hb (by simpa using hl) (by simpa using h1)
    refine ⟨w', mk c', ?_, (by have := r2.ent (hr2 _).ent'; simpa [hc.h] using this), hk⟩
    simp [Instr.storeAt, Instr.sureAddr, storeVar, run_sizeOf e3, e4, Value.cells, hn, r1]⟩
instance Rule.store {t : TypeId} {x y : Operand} : Rule P w0 (.store t x y) ty e l (fun K => Let (ev e x) fun a => Let (ev e y) fun v => StoreG P t a v l w0 fun l' => K undef l') :=
  ⟨fun K ⟨a, ha, v, hv, hk⟩ ρ w hρ hs => by
    obtain ⟨w', l', h1, h2, h3⟩ := hk w hs
    exact .unit (w := w') (by simp [execOp, hρ x a ha, hρ y v hv, h1]) h2 h3⟩
end
end Go.Sl
/- The steps of a walk: arithmetic, strings, addresses. -/
open Go Go.RowKit
namespace Go.Sl

def InI (n : Int) : Prop := -9223372036854775808 ≤ n ∧ n ≤ 9223372036854775807
theorem wrap_in {n : Int} (h : InI n) : IntKind.i64.wrap n = n := by
  obtain ⟨h1, h2⟩ := h
  simp only [IntKind.wrap, IntKind.bits, IntKind.signed]
  simp
  split <;> omega

theorem beq_dec (a b : Int) : (a == b) = decide (a = b) := by rw [Bool.eq_iff_iff]; simp

section
variable {P : Program} {w0 : World} {e : Env} {l : HL} {ty t : TypeId} {x y : Operand}
/-- an operation on two values -/
def BinG (P : Program) (w0 : World) (op : BinOp) (t : TypeId) (x y : Operand) (v u : Value) (l : HL) (K : Value → Prop) : Prop :=
  ∃ r, (∀ w, Sat w0 w l → ((do eqGuard op t x y v u; binOp op t v u) : Sem Value).run P w = .ok r w) ∧ K r
instance Flt.bin {op : BinOp} {yt : TypeId} : Flt P w0 (.binOp op t x y yt) ty e l (fun K => Let (ev e x) fun v => Let (ev e y) fun u => BinG P w0 op t x y v u l K) :=
  ⟨fun K ⟨v, hv, u, hu, r, h1, h2⟩ => ⟨r, fun ρ w hρ hs => by
    have h1' := h1 w hs
    simp only [execOp, hρ x v hv, hρ y u hu, Sem.run_bind] at h1' ⊢
    rw [h1']; simp, h2⟩⟩
theorem BinG.mk {op : BinOp} {v u r : Value} {K : Value → Prop} (hg : ∀ w, (eqGuard op t x y v u).run P w = .ok () w) (h : ∀ w, (binOp op t v u).run P w = .ok r w) (hk : K r) :
    BinG P w0 op t x y v u l K := ⟨r, fun w _ => by simp only [Sem.run_bind, hg w, Result.andThen_ok, h w], hk⟩
section
variable {a b : Int} {K : Value → Prop} {k : IntKind}
instance : Step (BinG P w0 .add t x y (.int .i64 a) (.int .i64 b) l K) ((-9223372036854775808 ≤ a + b ∧ a + b ≤ 9223372036854775807) ∧ K (.int .i64 (a + b))) :=
  ⟨fun ⟨h, hk⟩ => .mk (fun w => by simp [eqGuard]) (fun w => by simp [binOp, Op.intArith, wrap_in h]) hk⟩
instance : Step (BinG P w0 .sub t x y (.int .i64 a) (.int .i64 b) l K) ((-9223372036854775808 ≤ a - b ∧ a - b ≤ 9223372036854775807) ∧ K (.int .i64 (a - b))) :=
  ⟨fun ⟨h, hk⟩ => .mk (fun w => by simp [eqGuard]) (fun w => by simp [binOp, Op.intArith, wrap_in h]) hk⟩
instance : Step (BinG P w0 .mul t x y (.int .i64 a) (.int .i64 b) l K) ((-9223372036854775808 ≤ a * b ∧ a * b ≤ 9223372036854775807) ∧ K (.int .i64 (a * b))) :=
  ⟨fun ⟨h, hk⟩ => .mk (fun w => by simp [eqGuard]) (fun w => by simp [binOp, Op.intArith, wrap_in h]) hk⟩
instance (priority := low) : Step (BinG P w0 .add t x y (.int k a) (.int k b) l K) (K (.int k (k.wrap (a + b)))) :=
  ⟨fun hk => .mk (fun w => by simp [eqGuard]) (fun w => by simp [binOp, Op.intArith]) hk⟩
instance (priority := low) : Step (BinG P w0 .sub t x y (.int k a) (.int k b) l K) (K (.int k (k.wrap (a - b)))) :=
  ⟨fun hk => .mk (fun w => by simp [eqGuard]) (fun w => by simp [binOp, Op.intArith]) hk⟩
instance (priority := low) : Step (BinG P w0 .mul t x y (.int k a) (.int k b) l K) (K (.int k (k.wrap (a * b)))) :=
  ⟨fun hk => .mk (fun w => by simp [eqGuard]) (fun w => by simp [binOp, Op.intArith]) hk⟩
theorem wrap_div {a b : Int} (ha : 0 ≤ a) (hb : 0 < b) (h : InI a) : IntKind.i64.wrap (a.tdiv b) = a / b := by
  rw [Int.tdiv_eq_ediv_of_nonneg ha]
  have h1 : a / b ≤ a := Int.ediv_le_self _ ha
  have h2 : 0 ≤ a / b := Int.ediv_nonneg ha (by omega)
  exact wrap_in ⟨by omega, by have := h.2; omega⟩
instance : Step (BinG P w0 .quo t x y (.int .i64 a) (.int .i64 b) l K) ((0 ≤ a ∧ 0 < b ∧ -9223372036854775808 ≤ a ∧ a ≤ 9223372036854775807) ∧ K (.int .i64 (a / b))) :=
  ⟨fun ⟨⟨h1, h2, h3, h4⟩, hk⟩ => .mk (fun w => by simp [eqGuard]) (fun w => by simp [binOp, Op.intDiv, show b ≠ 0 by omega, wrap_div h1 h2 ⟨h3, h4⟩]) hk⟩
instance : Step (BinG P w0 .rem t x y (.int .i64 a) (.int .i64 b) l K) ((0 ≤ a ∧ 0 < b) ∧ K (.int .i64 (a % b))) :=
  ⟨fun ⟨⟨h1, h2⟩, hk⟩ => .mk (fun w => by simp [eqGuard]) (fun w => by simp [binOp, Op.intDiv, show b ≠ 0 by omega, Int.tmod_eq_emod_of_nonneg h1]) hk⟩
instance : Step (BinG P w0 .lss t x y (.int k a) (.int k b) l K) (K (.bool (decide (a < b)))) :=
  ⟨fun hk => .mk (fun w => by simp [eqGuard]) (fun w => by simp [binOp, Op.intCmp]) hk⟩
instance : Step (BinG P w0 .leq t x y (.int k a) (.int k b) l K) (K (.bool (decide (a ≤ b)))) :=
  ⟨fun hk => .mk (fun w => by simp [eqGuard]) (fun w => by simp [binOp, Op.intCmp]) hk⟩
instance : Step (BinG P w0 .gtr t x y (.int k a) (.int k b) l K) (K (.bool (decide (b < a)))) :=
  ⟨fun hk => .mk (fun w => by simp [eqGuard]) (fun w => by simp [binOp, Op.intCmp]) hk⟩
instance : Step (BinG P w0 .geq t x y (.int k a) (.int k b) l K) (K (.bool (decide (b ≤ a)))) :=
  ⟨fun hk => .mk (fun w => by simp [eqGuard]) (fun w => by simp [binOp, Op.intCmp]) hk⟩
instance : Step (BinG P w0 .eql t x y (.int k a) (.int k b) l K) (K (.bool (decide (a = b)))) :=
  ⟨fun hk => .mk (fun w => by simp [eqGuard]) (fun w => by simp [binOp, Op.intCmp, beq_dec]) hk⟩
instance : Step (BinG P w0 .neq t x y (.int k a) (.int k b) l K) (K (.bool (decide (a ≠ b)))) :=
  ⟨fun hk => .mk (fun w => by simp [eqGuard]) (fun w => by simp [binOp, Op.intCmp, bne, beq_dec]) hk⟩
instance : Step (BinG P w0 .shl t x y (.int k a) (.int .i64 b) l K) ((0 ≤ b ∧ b ≤ 63 ∧ b ≤ k.bits) ∧ K (.int k (k.wrap (a * 2 ^ b.toNat)))) :=
  ⟨fun ⟨⟨h1, h2, h3⟩, hk⟩ => .mk (fun w => by simp [eqGuard]) (fun w => by simp [binOp, Op.shift, show ¬ b < 0 by omega, show b.toNat ≤ k.bits by omega, Nat.min_eq_left]) hk⟩
instance : Step (BinG P w0 .shr t x y (.int k a) (.int .i64 b) l K) ((0 ≤ b ∧ b ≤ 63 ∧ b ≤ k.bits) ∧ K (.int k (a.fdiv (2 ^ b.toNat)))) :=
  ⟨fun ⟨⟨h1, h2, h3⟩, hk⟩ => .mk (fun w => by simp [eqGuard]) (fun w => by simp [binOp, Op.shift, show ¬ b < 0 by omega, show b.toNat ≤ k.bits by omega, Nat.min_eq_left]) hk⟩
end
section
variable {K : Value → Prop} {a b : List UInt8} {i j : Int} {s : List UInt8}
@[reducible] def str (l : List UInt8) : Value := .string ⟨l.toArray⟩
instance : Step (BinG P w0 .add t x y (.string ⟨a.toArray⟩) (.string ⟨b.toArray⟩) l K) ((a.length + b.length ≤ 9223372036854775807) ∧ K (str (a ++ b))) :=
  ⟨fun ⟨h, hk⟩ => .mk (fun w => by simp [eqGuard]) (fun w => by
    rw [binOp_string_add, run_string_add_sum w _ _ (by simpa [ByteArray.size_mk'] using h), ByteArray.mk_append_mk]) hk⟩
theorem list_beq (a b : List UInt8) : (a == b) = decide (a = b) := by rw [Bool.eq_iff_iff]; simp
instance : Step (BinG P w0 .eql t x y (.string ⟨a.toArray⟩) (.string ⟨b.toArray⟩) l K) (K (.bool (decide (a = b)))) :=
  ⟨fun hk => .mk (fun w => by simp [eqGuard]) (fun w => by rw [binOp_string_eql]; simp [list_beq]) hk⟩
instance : Step (BinG P w0 .neq t x y (.string ⟨a.toArray⟩) (.string ⟨b.toArray⟩) l K) (K (.bool (decide (a ≠ b)))) :=
  ⟨fun hk => .mk (fun w => by simp [eqGuard]) (fun w => by rw [binOp_string_neq]; simp [list_beq]) hk⟩
end
section
variable {K : Value → Prop} {a : Addr} {p q : Option Addr}
/-- pointers against nil -/
theorem equalIn_ptr {u : TypeId} {w : World} (d : Nat) (h : P.underlying t = some (.pointer u)) (p q : Option Addr) (hn : p = none ∨ q = none) :
    (Op.equalIn (d + 1) t (.pointer p) (.pointer q)).run P w = .ok (p.isNone && q.isNone) w := by
  simp only [Op.equalIn, Sem.run_bind, run_und h, Result.andThen_ok]
  rcases hn with rfl | rfl
  · cases q <;> simp
  · cases p <;> simp
theorem run_eql_ptr {u : TypeId} {w : World} (h : P.underlying t = some (.pointer u)) (p q : Option Addr) (hn : p = none ∨ q = none) :
    (binOp .eql t (.pointer p) (.pointer q)).run P w = .ok (.bool (p.isNone && q.isNone)) w := by
  simp only [binOp, Op.equal, Op.maxDepth, Sem.run_bind, equalIn_ptr 9999 h p q hn, Result.andThen_ok]; rfl
theorem run_neq_ptr {u : TypeId} {w : World} (h : P.underlying t = some (.pointer u)) (p q : Option Addr) (hn : p = none ∨ q = none) :
    (binOp .neq t (.pointer p) (.pointer q)).run P w = .ok (.bool (!(p.isNone && q.isNone))) w := by
  simp only [binOp, Op.equal, Op.maxDepth, Sem.run_bind, equalIn_ptr 9999 h p q hn, Result.andThen_ok]; rfl
instance {u : TypeId} [h : Und P t (.pointer u)] : Step (BinG P w0 .eql t x y (.pointer (some a)) (.pointer none) l K) (K (.bool false)) :=
  ⟨fun hk => .mk (fun w => by simp [eqGuard]) (fun w => run_eql_ptr h.h _ _ (.inr rfl)) hk⟩
instance {u : TypeId} [h : Und P t (.pointer u)] : Step (BinG P w0 .neq t x y (.pointer (some a)) (.pointer none) l K) (K (.bool true)) :=
  ⟨fun hk => .mk (fun w => by simp [eqGuard]) (fun w => run_neq_ptr h.h _ _ (.inr rfl)) hk⟩
instance {u : TypeId} [h : Und P t (.pointer u)] : Step (BinG P w0 .eql t x y (.pointer none) (.pointer none) l K) (K (.bool true)) :=
  ⟨fun hk => .mk (fun w => by simp [eqGuard]) (fun w => run_eql_ptr h.h _ _ (.inr rfl)) hk⟩
instance {u : TypeId} [h : Und P t (.pointer u)] : Step (BinG P w0 .neq t x y (.pointer none) (.pointer none) l K) (K (.bool false)) :=
  ⟨fun hk => .mk (fun w => by simp [eqGuard]) (fun w => run_neq_ptr h.h _ _ (.inr rfl)) hk⟩
end
end

section
variable {P : Program} {w0 : World} {e : Env} {l : HL} {ty t : TypeId} {x y : Operand}
def UnG (P : Program) (op : UnOp) (v : Value) (K : Value → Prop) : Prop := ∃ r, (∀ w, (Op.unary op v).run P w = .ok r w) ∧ K r
instance Flt.un {op : UnOp} : Flt P w0 (.unOp op t x) ty e l (fun K => Let (ev e x) fun v => UnG P op v K) :=
  ⟨fun K ⟨v, hv, r, h1, h2⟩ => ⟨r, fun ρ w hρ hs => by simp [execOp, hρ x v hv, h1], h2⟩⟩
section
variable {K : Value → Prop} {b : Bool} {n : Int}
instance : Step (UnG P .not (.bool true) K) (K (.bool false)) := ⟨fun h => ⟨_, fun w => by simp [Op.unary], h⟩⟩
instance : Step (UnG P .not (.bool false) K) (K (.bool true)) := ⟨fun h => ⟨_, fun w => by simp [Op.unary], h⟩⟩
instance (priority := low) {p : Prop} [Decidable p] : Step (UnG P .not (.bool (decide p)) K) (K (.bool (decide (¬ p)))) := ⟨fun h => ⟨_, fun w => by simp [Op.unary], h⟩⟩
instance (priority := 10) : Step (UnG P .not (.bool b) K) (K (.bool (!b))) := ⟨fun h => ⟨_, fun w => by simp [Op.unary], h⟩⟩
instance : Step (UnG P .neg (.int .i64 n) K) ((-9223372036854775808 ≤ -n ∧ -n ≤ 9223372036854775807) ∧ K (.int .i64 (-n))) := ⟨fun ⟨h, hk⟩ => ⟨_, fun w => by simp [Op.unary, Op.intArith, wrap_in h], hk⟩⟩
end

/-! addresses -/
class AddR (a b : Nat) (r : outParam Nat) : Prop where
  h : r = a + b
section
variable {a b : Nat}
instance (priority := low) : AddR a b (a + b) := ⟨rfl⟩
instance : AddR 0 b b := ⟨by simp⟩
instance : AddR a 0 a := ⟨by simp⟩
end
def FieldG (P : Program) (t : TypeId) (f : Nat) (v : Value) (K : Value → Prop) : Prop := ∃ r, (∀ w, (Instr.fieldAt t v f).run P w = .ok r w) ∧ K r
instance Flt.fieldAddr {f : Nat} : Flt P w0 (.fieldAddr t x f) ty e l (fun K => Let (ev e x) fun v => FieldG P t f v K) :=
  ⟨fun K ⟨v, hv, r, h1, h2⟩ => ⟨r, fun ρ w hρ hs => by simp [execOp, hρ x v hv, h1], h2⟩⟩
instance {f b off k r : Nat} {K : Value → Prop} [h : Fld P t f k] [h' : AddR off k r] : Step (FieldG P t f (.pointer (some ⟨b, off, none⟩)) K) (K (.pointer (some ⟨b, r, none⟩))) :=
  ⟨fun hk => ⟨_, fun w => by
    obtain ⟨fs, fl, i, h1, h2, h3, h4, h5⟩ := h.h
    simp [Instr.fieldAt, run_und h1, h2, Instr.sureAddr, fieldPlace, run_sizeOf h4, h5, addr_add, h3, h'.h], hk⟩⟩
def NilG (v : Value) (K : Value → Prop) : Prop := (match v with | .pointer (some _) => True | .func (.func _) _ _ => True | _ => False) ∧ K v
instance Flt.nilCheck : Flt P w0 (.nilCheck x) ty e l (fun K => Let (ev e x) fun v => NilG v K) :=
  ⟨fun K ⟨v, hv, h1, h2⟩ => ⟨v, fun ρ w hρ hs => by
    simp only [execOp, hρ x v hv]
    split at h1
    · simp
    · simp
    · exact h1.elim, h2⟩⟩
instance {a : Addr} {K : Value → Prop} : Step (NilG (.pointer (some a)) K) (K (.pointer (some a))) := ⟨fun h => ⟨trivial, h⟩⟩
instance {f : FuncId} {a b : Array Value} {K : Value → Prop} : Step (NilG (.func (.func f) a b) K) (K (.func (.func f) a b)) := ⟨fun h => ⟨trivial, h⟩⟩
end
end Go.Sl
/- The steps of a walk: calls, builtins that look, elements. -/
open Go Go.RowKit
namespace Go.Sl

/-! calls -/
def evs (e : Env) : List Operand → Option (List Value)
  | [] => some []
  | x :: xs => match ev e x with
    | none => none
    | some v => match evs e xs with
      | none => none
      | some vs => some (v :: vs)
theorem evs_map {e : Env} {ρ : Operand → Value} (hρ : ∀ x v, ev e x = some v → ρ x = v) : ∀ (xs : List Operand) (vs : List Value), evs e xs = some vs → xs.map ρ = vs
  | [], vs, h => by simp [evs] at h; simp [h]
  | x :: xs, vs, h => by
    simp only [evs] at h
    cases h1 : ev e x with
    | none => simp [h1] at h
    | some v =>
      cases h2 : evs e xs with
      | none => simp [h1, h2] at h
      | some us =>
        simp only [h1, h2, Option.some.injEq] at h; subst h
        simp [hρ x v h1, evs_map hρ xs us h2]
section
variable {P : Program} {w0 : World} {e : Env} {l : HL} {ty t : TypeId} {x y : Operand}
theorem run_callFunc {f : FuncId} (h : FnC P f) (args : Array Value) (w : World) : (callFunc f args).run P w = .ok (.enter f args) w := by
  obtain ⟨fn, h1, h2, h3⟩ := h.h
  cases hb : fn.body with
  | none => simp [hb] at h3
  | some c => simp [callFunc, h1, hb, show fn.name ≠ "runtime.NumGoroutine" by simpa using h2]
/-- a function value that is called -/
def FunG (P : Program) (w0 : World) (v : Value) (vs : List Value) (l : HL) (K : Value → HL → Prop) : Prop :=
  ∃ f first captured, v = .func (.func f) first captured ∧ FnC P f ∧ CallG P w0 f (first ++ vs.toArray ++ captured) l K
instance Rule.call {x : Operand} {xs : List Operand} {ts : Array TypeId} : Rule P w0 (.call ⟨.value x, xs.toArray, ts⟩) ty e l
    (fun K => Let (ev e x) fun v => Let (evs e xs) fun vs => FunG P w0 v vs l K) :=
  ⟨fun K ⟨v, hv, vs, hvs, f, first, captured, hf, hc, hk⟩ ρ w hρ hs => by
    subst hf
    have hm := evs_map hρ xs vs hvs
    have : (execOp ρ ⟨none, .call ⟨.value x, xs.toArray, ts⟩, ty, "", #[], none⟩).run P w = .ok (.enter f (first ++ vs.toArray ++ captured)) w := by
      simp [execOp, resolve, hρ x _ hv, Deferred.ofValue, invoke, hm, run_callFunc hc]
    rw [this]; exact ⟨l, hs, hk⟩⟩
instance FunG.static {f : FuncId} {vs : List Value} {K : Value → HL → Prop} [h : FnC P f] : Step (FunG P w0 (.func (.func f) #[] #[]) vs l K) (CallG P w0 f vs.toArray l K) :=
  ⟨fun hk => ⟨f, #[], #[], rfl, h, by simpa using hk⟩⟩
instance (priority := low) FunG.closure {f : FuncId} {vs cs : List Value} {K : Value → HL → Prop} [h : FnC P f] : Step (FunG P w0 (.func (.func f) #[] cs.toArray) vs l K) (CallG P w0 f (vs ++ cs).toArray l K) :=
  ⟨fun hk => ⟨f, #[], cs.toArray, rfl, h, by simpa using hk⟩⟩

/-! builtins that only look -/
def BltG (P : Program) (w0 : World) (b : Builtin) (ts : Array TypeId) (ty : TypeId) (vs : List Value) (l : HL) (K : Value → HL → Prop) : Prop :=
  ∀ consts w, Sat w0 w l → Res P w0 K ((builtin b ts ty consts vs.toArray).run P w)
instance Rule.builtin {b : Builtin} {xs : List Operand} {ts : Array TypeId} : Rule P w0 (.call ⟨.builtin b, xs.toArray, ts⟩) ty e l
    (fun K => Let (evs e xs) fun vs => BltG P w0 b ts ty vs l K) :=
  ⟨fun K ⟨vs, hvs, hk⟩ ρ w hρ hs => by
    have hm := evs_map hρ xs vs hvs
    obtain ⟨cs, he⟩ : ∃ cs, (execOp ρ ⟨none, Op.call ⟨Callee.builtin b, xs.toArray, ts⟩, ty, "", #[], none⟩).run P w = (Go.builtin b ts ty cs (xs.toArray.map ρ)).run P w := ⟨_, rfl⟩
    rw [he, show xs.toArray.map ρ = vs.toArray by simp [hm]]; exact hk _ w hs⟩
/-- builtins that only look -/
def looks : Builtin → Bool
  | .len | .max | .min => true
  | _ => false
class Looks (b : Builtin) : Prop where
  h : looks b = true
instance : Looks .len := ⟨rfl⟩
instance : Looks .max := ⟨rfl⟩
instance : Looks .min := ⟨rfl⟩
def BlkG (P : Program) (w0 : World) (b : Builtin) (ts : Array TypeId) (ty : TypeId) (vs : List Value) (l : HL) (K : Value → Prop) : Prop :=
  ∃ v, (∀ consts w, Sat w0 w l → (Go.builtin b ts ty consts vs.toArray).run P w = .ok (.value v) w) ∧ K v
instance Flt.builtin {b : Builtin} {xs : List Operand} {ts : Array TypeId} [Looks b] : Flt P w0 (.call ⟨.builtin b, xs.toArray, ts⟩) ty e l
    (fun K => Let (evs e xs) fun vs => BlkG P w0 b ts ty vs l K) :=
  ⟨fun K ⟨vs, hvs, v, h1, h2⟩ => ⟨v, fun ρ w hρ hs => by
    have hm := evs_map hρ xs vs hvs
    obtain ⟨cs, he⟩ : ∃ cs, (execOp ρ ⟨none, Op.call ⟨Callee.builtin b, xs.toArray, ts⟩, ty, "", #[], none⟩).run P w = (Go.builtin b ts ty cs (xs.toArray.map ρ)).run P w := ⟨_, rfl⟩
    rw [he, show xs.toArray.map ρ = vs.toArray by simp [hm]]; exact h1 _ w hs, h2⟩⟩
section
variable {K : Value → Prop} {a b : Int} {s : List UInt8} {p : Option Addr} {n m : Nat}
instance [h : Und P t .string] : Step (BlkG P w0 .len #[t] ty [.string ⟨s.toArray⟩] l K) (K (.int .i64 s.length)) :=
  ⟨fun hk => ⟨_, fun _ w hs => by simp [Go.builtin, Builtin.len_, run_und h.h, goInt, ByteArray.size_mk'], hk⟩⟩
instance {el : TypeId} [h : Und P t (.slice el)] : Step (BlkG P w0 .len #[t] ty [.slice p n m] l K) (K (.int .i64 n)) :=
  ⟨fun hk => ⟨_, fun _ w hs => by simp [Go.builtin, Builtin.len_, run_und h.h, goInt], hk⟩⟩
instance {el : TypeId} [h : Und P t (.array n el)] {v : Value} : Step (BlkG P w0 .len #[t] ty [v] l K) (K (.int .i64 n)) :=
  ⟨fun hk => ⟨_, fun _ w hs => by simp [Go.builtin, Builtin.len_, run_und h.h, goInt], hk⟩⟩
instance {ts : Array TypeId} {k k' : IntKind} : Step (BlkG P w0 .max ts ty [.int k a, .int k' b] l K) (K (.int k (max a b))) :=
  ⟨fun hk => ⟨.int k (max a b), fun _ w hs => by
    simp [Go.builtin, Builtin.max_, Builtin.max2]
    split <;> rename_i h <;> congr 1 <;> omega, hk⟩⟩
instance {ts : Array TypeId} {k k' : IntKind} : Step (BlkG P w0 .min ts ty [.int k a, .int k' b] l K) (K (.int k (min a b))) :=
  ⟨fun hk => ⟨.int k (min a b), fun _ w hs => by
    simp [Go.builtin, Builtin.min_, Builtin.min2]
    split <;> rename_i h <;> congr 1 <;> omega, hk⟩⟩
end

/-! parts of tuples -/
def ExtG (v : Value) (i : Nat) (K : Value → Prop) : Prop := ∃ vs u, v = .tuple vs ∧ vs[i]? = some u ∧ K u
instance Flt.extract {i : Nat} : Flt P w0 (.extract x i) ty e l (fun K => Let (ev e x) fun v => ExtG v i K) :=
  ⟨fun K ⟨v, hv, vs, u, h1, h2, hk⟩ => ⟨u, fun ρ w hρ hs => by simp [execOp, hρ x v hv, h1, Instr.extract, h2], hk⟩⟩
instance {vs : List Value} {i : Nat} {K : Value → Prop} : Step (ExtG (.tuple vs.toArray) i K) (Let (nth vs i) K) :=
  ⟨fun ⟨u, h1, h2⟩ => ⟨vs.toArray, u, rfl, by simpa [← nth_eq] using h1, h2⟩⟩

/-! elements -/
def IdxG (P : Program) (t : TypeId) (v i : Value) (K : Value → Prop) : Prop := ∃ r, (∀ w, (Instr.indexAt t v i).run P w = .ok r w) ∧ K r
instance Flt.indexAddr {t : TypeId} {y : Operand} : Flt P w0 (.indexAddr t x y) ty e l (fun K => Let (ev e x) fun v => Let (ev e y) fun i => IdxG P t v i K) :=
  ⟨fun K ⟨v, hv, i, hi, r, h1, h2⟩ => ⟨r, fun ρ w hρ hs => by simp [execOp, hρ x v hv, hρ y i hi, h1], h2⟩⟩
class MulR (a b : Nat) (r : outParam Nat) : Prop where
  h : r = a * b
section
variable {a b : Nat}
instance (priority := low) : MulR a b (a * b) := ⟨rfl⟩
instance (priority := high) : MulR a 1 a := ⟨by simp⟩
instance : MulR 0 b 0 := ⟨by simp⟩
end
class NatR (i : Int) (n : outParam Nat) : Prop where
  h : i.toNat = n
instance (priority := low) {i : Int} : NatR i i.toNat := ⟨rfl⟩
instance {n : Nat} : NatR (n : Int) n := ⟨by simp⟩
instance NatR.zero : NatR 0 0 := ⟨rfl⟩
instance NatR.one : NatR 1 1 := ⟨rfl⟩
instance : NatR 2 2 := ⟨rfl⟩
instance : NatR 3 3 := ⟨rfl⟩
instance : NatR 4 4 := ⟨rfl⟩
instance : NatR 5 5 := ⟨rfl⟩
instance : NatR 6 6 := ⟨rfl⟩
instance : NatR 7 7 := ⟨rfl⟩
instance : NatR 8 8 := ⟨rfl⟩
instance : NatR 9 9 := ⟨rfl⟩
instance : NatR 10 10 := ⟨rfl⟩
instance : NatR 11 11 := ⟨rfl⟩
instance : NatR 12 12 := ⟨rfl⟩
instance : NatR 13 13 := ⟨rfl⟩
instance : NatR 14 14 := ⟨rfl⟩
instance : NatR 15 15 := ⟨rfl⟩
instance : NatR 16 16 := ⟨rfl⟩
instance : NatR 17 17 := ⟨rfl⟩
instance : NatR 18 18 := ⟨rfl⟩
instance : NatR 19 19 := ⟨rfl⟩
instance : NatR 20 20 := ⟨rfl⟩
instance : NatR 21 21 := ⟨rfl⟩
instance : NatR 22 22 := ⟨rfl⟩
instance : NatR 23 23 := ⟨rfl⟩
instance : NatR 24 24 := ⟨rfl⟩
instance : NatR 25 25 := ⟨rfl⟩
instance : NatR 26 26 := ⟨rfl⟩
instance : NatR 27 27 := ⟨rfl⟩
instance : NatR 28 28 := ⟨rfl⟩
instance : NatR 29 29 := ⟨rfl⟩
instance : NatR 30 30 := ⟨rfl⟩
instance : NatR 31 31 := ⟨rfl⟩
instance : NatR 32 32 := ⟨rfl⟩
instance : NatR 63 63 := ⟨rfl⟩
instance : NatR 64 64 := ⟨rfl⟩
instance : NatR 127 127 := ⟨rfl⟩
instance : NatR 128 128 := ⟨rfl⟩
section
variable {b off len cap sz n r m : Nat} {i : Int} {k : IntKind} {K : Value → Prop} {el : TypeId}
instance [h : Und P t (.slice el)] [hz : Siz P el sz] [hn : NatR i n] [hm : MulR n sz m] [ha : AddR off m r] :
    Step (IdxG P t (.slice (some ⟨b, off, none⟩) len cap) (.int k i) K) ((0 ≤ i ∧ i < len) ∧ K (.pointer (some ⟨b, r, none⟩))) :=
  ⟨fun ⟨hi, hk⟩ => ⟨_, fun w => by
    obtain ⟨inf, h1, h2⟩ := hz.h
    simp [Instr.indexAt, asIntOf, run_und h.h, hi, run_sizeOf h1, h2, addr_add, ha.h, hm.h, hn.h], hk⟩⟩
instance {N : Nat} [h : Und P t (.array N el)] [hz : Siz P el sz] [hn : NatR i n] [hm : MulR n sz m] [ha : AddR off m r] :
    Step (IdxG P t (.pointer (some ⟨b, off, none⟩)) (.int k i) K) ((0 ≤ i ∧ i < N) ∧ K (.pointer (some ⟨b, r, none⟩))) :=
  ⟨fun ⟨hi, hk⟩ => ⟨_, fun w => by
    obtain ⟨inf, h1, h2⟩ := hz.h
    simp [Instr.indexAt, Instr.sureAddr, asIntOf, run_und h.h, hi, run_sizeOf h1, h2, addr_add, ha.h, hm.h, hn.h], hk⟩⟩
end
end
end Go.Sl
