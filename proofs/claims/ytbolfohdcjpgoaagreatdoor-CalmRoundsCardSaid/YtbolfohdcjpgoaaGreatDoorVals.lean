/- Values (package api) in memory, and their bytes. -/
import Derived.Test.YtbolfohdcjpgoaaGreatDoorFacts
import Derived.Test.YtbolfohdcjpgoaaGreatDoorBld
import Derived.Test.YtbolfohdcjpgoaaGreatDoorStrs
set_option linter.unusedSimpArgs false
set_option linter.unusedVariables false
set_option linter.unusedSectionVars false
open Go Go.RowKit
namespace Go.Sl
open Go.Proofs
/-- numbers, texts, and lists of any -/
inductive V where
  | int (n : Int)
  | txt (s : List UInt8)
  | lst (l : List V)
mutual
/-- the bytes of a value -/
def enc : V → List UInt8
  | .int n => [105] ++ itoa n ++ [101]
  | .txt s => itoa s.length ++ [58] ++ s
  | .lst l => [108] ++ encL l ++ [101]
def encL : List V → List UInt8
  | [] => []
  | v :: l => enc v ++ encL l
end
mutual
/-- how many lists lie in one another -/
def deep : V → Nat
  | .lst l => deepL l + 1
  | _ => 0
def deepL : List V → Nat
  | [] => 0
  | v :: l => max (deep v) (deepL l)
end
mutual
def count : V → Nat
  | .lst l => countL l + 1
  | _ => 1
def countL : List V → Nat
  | [] => 0
  | v :: l => count v + countL l
end
abbrev VRow := Int × Int × List UInt8 × Option Addr × Nat × Nat
abbrev vcells (r : VRow) : List Value := [.int .i64 r.1, .int .i64 r.2.1, str r.2.2.1, .slice r.2.2.2.1 r.2.2.2.2.1 r.2.2.2.2.2]
theorem vcells_one (r : VRow) : (vcells r).all Value.oneCell' = true := rfl
instance : RowLen vcells 4 := ⟨fun _ => rfl⟩
mutual
/-- a value in memory: its cells, and the rows of its lists -/
def vrep : V → VRow → HP
  | .int n, r => pur (r = (1, n, [], none, 0, 0) ∧ -9223372036854775808 ≤ n ∧ n ≤ 9223372036854775807)
  | .txt s, r => pur (r = (2, 0, s, none, 0, 0))
  | .lst l, r => ex fun x : Option Addr × Nat × List VRow => all [pur (r = (3, 0, [], x.1, l.length, x.2.1) ∧ x.2.2.length = l.length),
      SlR (.slice x.1 l.length x.2.1) 174 4 l.length (x.2.2.flatMap vcells), all (vreps l x.2.2)]
def vreps : List V → List VRow → HL
  | [], _ => []
  | _ :: _, [] => [pur False]
  | v :: l, r :: rs => vrep v r :: vreps l rs
end
theorem encL_append : ∀ (a b : List V), encL (a ++ b) = encL a ++ encL b
  | [], b => rfl
  | v :: a, b => by simp only [List.cons_append, encL, encL_append a b, List.append_assoc]
theorem encL_take : ∀ (l : List V) (k : Nat), (encL (l.take k)).length ≤ (encL l).length
  | _, 0 => by simp [encL]
  | [], _ + 1 => by simp [encL]
  | v :: l, k + 1 => by have := encL_take l k; simp only [List.take_succ_cons, encL, List.length_append]; omega
theorem enc_pos : ∀ v : V, 1 ≤ (enc v).length
  | .int _ => by simp [enc]
  | .txt _ => by simp [enc]; omega
  | .lst _ => by simp [enc]
theorem length_encL : ∀ l : List V, l.length ≤ (encL l).length
  | [] => by simp
  | v :: l => by have := length_encL l; have := enc_pos v; simp only [encL, List.length_cons, List.length_append]; omega
theorem vreps_split : ∀ (l : List V) (rs : List VRow) (k : Nat) (v : V) (r : VRow), l[k]? = some v → rs[k]? = some r → vreps l rs = vreps (l.take k) (rs.take k) ++ vrep v r :: vreps (l.drop (k + 1)) (rs.drop (k + 1))
  | [], _, _, _, _, h, _ => by simp at h
  | _ :: _, [], _, _, _, _, h => by simp at h
  | v :: l, r :: rs, 0, v', r', h, h' => by simp at h h'; subst h h'; simp [vreps]
  | v :: l, r :: rs, k + 1, v', r', h, h' => by
    simp at h h'
    simp [vreps, vreps_split l rs k v' r' h h']
theorem vreps_append : ∀ (a : List V) (ra : List VRow) (b : List V) (rb : List VRow), a.length = ra.length → vreps (a ++ b) (ra ++ rb) = vreps a ra ++ vreps b rb
  | [], [], _, _, _ => by simp [vreps]
  | [], _ :: _, _, _, h => by simp at h
  | _ :: _, [], _, _, h => by simp at h
  | v :: a, r :: ra, b, rb, h => by simp only [List.cons_append, vreps, vreps_append a ra b rb (by simpa using h)]
/-- all but one of a list's values -/
def others (l : List V) (rs : List VRow) (k : Nat) : HP := all (vreps (l.take k) (rs.take k) ++ vreps (l.drop (k + 1)) (rs.drop (k + 1)))
theorem vreps_out {l : List V} {rs : List VRow} {k : Nat} {v : V} {r : VRow} (h : l[k]? = some v) (h' : rs[k]? = some r) (F : HL) : Ent (all (vreps l rs) :: F) (vrep v r :: others l rs k :: F) := by
  refine (ent_all _ _).trans ?_
  rw [vreps_split l rs k v r h h', List.append_assoc, List.cons_append]
  refine Ent.trans (Ent.perm List.perm_middle) (Ent.cons _ ?_)
  rw [← List.append_assoc]
  exact ent_all' _ _
theorem vreps_in {l : List V} {rs : List VRow} {k : Nat} {v : V} {r : VRow} (h : l[k]? = some v) (h' : rs[k]? = some r) (F : HL) : Ent (vrep v r :: others l rs k :: F) (all (vreps l rs) :: F) := by
  refine Ent.trans (Ent.cons _ (ent_all _ _)) ?_
  refine Ent.trans ?_ (ent_all' _ _)
  rw [vreps_split l rs k v r h h', List.append_assoc, List.append_assoc, List.cons_append]
  exact Ent.perm List.perm_middle.symm
theorem count_mem : ∀ {l : List V} {k : Nat} {v : V}, l[k]? = some v → count v ≤ countL l
  | [], _, _, h => by simp at h
  | x :: l, 0, v, h => by simp at h; subst h; simp [countL]
  | x :: l, k + 1, v, h => by have := count_mem (l := l) (k := k) (v := v) (by simpa using h); simp only [countL]; omega
theorem count_pos : ∀ v : V, 1 ≤ count v
  | .int _ => by simp [count]
  | .txt _ => by simp [count]
  | .lst _ => by simp [count]
theorem length_count : ∀ l : List V, l.length ≤ countL l
  | [] => by simp [countL]
  | v :: l => by have := length_count l; have := count_pos v; simp only [countL, List.length_cons]; omega
theorem deep_mem : ∀ {l : List V} {k : Nat} {v : V}, l[k]? = some v → deep v ≤ deepL l
  | [], _, _, h => by simp at h
  | x :: l, 0, v, h => by simp at h; subst h; simp only [deepL]; omega
  | x :: l, k + 1, v, h => by have := deep_mem (l := l) (k := k) (v := v) (by simpa using h); simp only [deepL]; omega
section
variable {w0 : World} {l F : HL} {K : Value → HL → Prop}
theorem lst_open {f : FuncId} {args : Array Value} {vs : List V} {r : VRow} (hp : Rem l (vrep (.lst vs) r) F)
    (h : ∀ a cap rs, r = (3, 0, [], a, vs.length, cap) → rs.length = vs.length → CallG Tryz.prog w0 f args (SlR (.slice a vs.length cap) 174 4 vs.length (rs.flatMap vcells) :: all (vreps vs rs) :: F) K) : CallG Tryz.prog w0 f args l K := by
  intro w hs
  have hs1 := hs.ent hp.ent
  simp only [vrep] at hs1
  obtain ⟨⟨a, cap, rs⟩, hs⟩ := hs1.ex
  have hs := hs.ent (ent_all _ _)
  obtain ⟨hok, hs⟩ := Sat.pur hs
  exact h a cap rs hok.1 hok.2 w hs
theorem lst_close {vs : List V} {r : VRow} (a : Option Addr) (cap : Nat) (rs : List VRow) (h1 : r = (3, 0, [], a, vs.length, cap)) (h2 : rs.length = vs.length) :
    Ent (SlR (.slice a vs.length cap) 174 4 vs.length (rs.flatMap vcells) :: all (vreps vs rs) :: F) (vrep (.lst vs) r :: F) := by
  simp only [vrep]
  refine Ent.trans ?_ (ent_ex _ (a, cap, rs) F)
  exact (ent_pur ⟨h1, h2⟩ _).trans (ent_all' [pur (r = (3, 0, [], a, vs.length, cap) ∧ rs.length = vs.length), SlR (.slice a vs.length cap) 174 4 vs.length (rs.flatMap vcells), all (vreps vs rs)] F)
end
end Go.Sl
