/- What the library has shown of slices.SortFunc, as a contract of our own kind. -/
import Derived.Test.YtbolfohdcjpgoaaGreatDoorSlC
import Derived.Shelf.SlSortCmp.WholeK
set_option linter.unusedSimpArgs false
set_option linter.unusedVariables false
set_option linter.unusedSectionVars false
open Go Go.RowKit
namespace Go.Sl
theorem sat_grow {W w : World} {l : HL} (h : Sat W w l) : ∃ q os, w = Go.Sort.grow (W.drewN q) os := by
  refine ⟨w.drawn - W.drawn, w.heap.extract W.heap.size w.heap.size, ?_⟩
  have hd := h.drawn
  have hheap : w.heap = W.heap ++ w.heap.extract W.heap.size w.heap.size := by
    apply Array.ext_getElem?
    intro k
    by_cases hk : k < W.heap.size
    · rw [Array.getElem?_append_left hk]; exact h.block k hk
    · rw [Array.getElem?_append_right (by omega)]
      rw [Array.getElem?_extract]
      have := h.size
      split
      · congr 1; omega
      · rw [Array.getElem?_eq_none]; omega
  cases w with
  | mk heap tape drawn os output =>
    simp only [Go.Sort.grow, World.drewN] at *
    have e1 := h.tape
    have e2 := h.os
    have e3 := h.output
    simp only at e1 e2 e3 hd
    subst e1 e2 e3
    rw [World.mk.injEq]
    exact ⟨hheap, rfl, by omega, rfl, rfl⟩
section
variable {α : Type} [Inhabited α] {enc : α → List Value} {k : Nat}
theorem flatE_get (hk : ∀ x, (enc x).length = k) : ∀ (xs : List α) (t : Nat), t < xs.length * k → (xs.flatMap enc)[t]! = (enc xs.toArray[t / k]!)[t % k]!
  | [], t, h => by simp at h
  | x :: xs, t, h => by
    have hk0 : 0 < k := by
      rcases Nat.eq_zero_or_pos k with h0 | h0
      · subst h0; simp at h
      · exact h0
    simp only [List.flatMap_cons]
    by_cases hlt : t < k
    · rw [Nat.div_eq_of_lt hlt, Nat.mod_eq_of_lt hlt]
      have e : (x :: xs).toArray[0]! = x := rfl
      rw [e]
      rw [getElem!_pos _ _ (by rw [List.length_append, hk]; omega), getElem!_pos _ _ (by rw [hk]; exact hlt)]
      exact List.getElem_append_left (by rw [hk]; exact hlt)
    · obtain ⟨u, rfl⟩ : ∃ u, t = u + k := ⟨t - k, by omega⟩
      have hu : u < xs.length * k := by simp only [List.length_cons, Nat.add_mul] at h; omega
      have ih := flatE_get hk xs u hu
      rw [Nat.add_div_right _ hk0, Nat.add_mod_right]
      have e : (x :: xs).toArray[u / k + 1]! = xs.toArray[u / k]! := by
        have hlt : u / k < xs.length := Nat.div_lt_of_lt_mul (by rw [Nat.mul_comm]; exact hu)
        rw [getElem!_pos _ _ (by simpa using hlt), getElem!_pos _ _ (by simpa using hlt)]
        simp
      rw [e, ← ih]
      have hl : (xs.flatMap enc).length = xs.length * k := by
        clear h ih hu hlt e
        induction xs with
        | nil => simp
        | cons y ys ih => rw [List.flatMap_cons, List.length_append, hk, ih, List.length_cons, Nat.add_mul]; omega
      rw [getElem!_pos _ _ (by rw [List.length_append, hk, hl]; omega), getElem!_pos _ _ (by rw [hl]; exact hu)]
      rw [List.getElem_append_right (by rw [hk]; omega)]
      congr 1; rw [hk]; omega
theorem flatE_len (hk : ∀ x, (enc x).length = k) : ∀ xs : List α, (xs.flatMap enc).length = xs.length * k
  | [] => by simp
  | x :: xs => by rw [List.flatMap_cons, List.length_append, hk, flatE_len hk xs, List.length_cons, Nat.add_mul]; omega
theorem flatK_list (hk : ∀ x, (enc x).length = k) (xs : List α) : Go.Sort.flatK enc k xs.toArray = (xs.flatMap enc).toArray := by
  apply Array.ext
  · simp [flatE_len hk]
  · intro t h1 h2
    have h3 : t < xs.length * k := by simpa using h1
    have e1 := Go.Sort.get_flatK enc k xs.toArray t (by simpa using h3)
    rw [getElem!_pos (Go.Sort.flatK enc k xs.toArray) t h1, ← flatE_get hk xs t h3] at e1
    rw [e1, getElem!_pos (xs.flatMap enc) t (by rw [flatE_len hk]; exact h3)]; rfl
theorem holdsK_cells (hk : ∀ x, (enc x).length = k) {w : World} {b : Nat} {pre junk : List Value} {xs : List α} {T : TypeId} (hb : w.heap[b]? = some (.cells (pre ++ xs.flatMap enc ++ junk).toArray T (0, 0))) :
    Go.Sort.HoldsK enc k w b pre.length xs.toArray := by
  intro j hj
  rw [flatK_list hk] at hj ⊢
  have hj' : j < (xs.flatMap enc).length := by simpa using hj
  constructor
  · rw [cell?_of hb, List.append_assoc, List.getElem?_append_right (by omega), Nat.add_sub_cancel_left, List.getElem?_append_left hj', List.getElem?_eq_getElem hj', getElem!_pos (xs.flatMap enc).toArray j hj]
    simp
  · simp [World.frozen?, hb]
theorem putCells_eq (pre junk c c' : List Value) (h : c.length = c'.length) : Go.Sort.putCells (id : Value → Value) pre.length c'.toArray (pre ++ c ++ junk).toArray = (pre ++ c' ++ junk).toArray := by
  apply Array.ext
  · simp [Go.Sort.putCells, h]
  · intro t h1 h2
    simp only [Go.Sort.putCells, Array.getElem_mapIdx, List.size_toArray, id, List.getElem_toArray]
    by_cases h3 : t < pre.length
    · rw [if_neg (by omega)]
      simp only [List.append_assoc]
      rw [List.getElem_append_left h3, List.getElem_append_left h3]
    · by_cases h4 : t < pre.length + c'.length
      · rw [if_pos ⟨by omega, h4⟩]
        simp only [List.append_assoc]
        rw [List.getElem_append_right (by omega), List.getElem_append_left (by omega)]
        rw [getElem!_pos _ _ (by simp; omega)]; simp
      · rw [if_neg (by omega)]
        simp only [List.append_assoc]
        rw [List.getElem_append_right (by omega), List.getElem_append_right (by omega), List.getElem_append_right (by omega), List.getElem_append_right (by omega)]
        simp [h]
theorem sort_bridge {P : Program} {w0 : World} {l F : HL} {K : Value → HL → Prop} {v : Value} {T : TypeId} {xs : List α} {g fid : FuncId} {caps : List Value} {cf : α → α → Int}
    (hk : ∀ x, (enc x).length = k)
    (hsort : ∀ (blk off cap : Nat) (d : Array α) (w : World), Go.Proofs.CmpLays P g caps.toArray enc k cf blk off d.size w → Go.Sort.HoldsK enc k w blk off d → blk < w.heap.size → d.size < 4611686018427387904 →
      Calls P fid #[.slice (some ⟨blk, off, none⟩) d.size cap, .func (.func g) #[] caps.toArray] w fun e w' => e = .returned (.tuple #[]) ∧ ∃ d' n os, Go.Sort.PermIn 0 d.size d d' ∧ Go.Sort.SortedIn (Go.Proofs.ltOf cf) 0 d.size d' ∧ w' = Go.Proofs.sortWorldK enc k w blk off n d' os)
    (hnone : ∀ (l : HL) (K : Value → HL → Prop), K (.tuple #[]) l → CallG P w0 fid [.slice none 0 0, .func (.func g) #[] caps.toArray].toArray l K)
    (hcmp : ∀ (w0 : World) (l : HL) (K : Value → HL → Prop) (x y : α), K (.int .i64 (cf x y)) l → CallG P w0 g (.agg (enc x).toArray :: .agg (enc y).toArray :: caps).toArray l K)
    (hn : xs.length < 4611686018427387904) (hp : Rem l (SlR v T k xs.length (xs.flatMap enc)) F)
    (h : ∀ ys : List α, ys.Perm xs → (ys.Pairwise fun a b => ¬ cf b a < 0) → K (.tuple #[]) (SlR v T k ys.length (ys.flatMap enc) :: F)) :
    CallG P w0 fid [v, .func (.func g) #[] caps.toArray].toArray l K := by
  intro w hs
  have hs0 := hs.ent hp.ent
  obtain ⟨hl, hv⟩ := sat_slr hs0
  rcases hv with ⟨rfl, h0, hs1⟩ | ⟨b, pre, junk, cap, rfl, h2, h3, hs1⟩
  · have hx : xs = [] := List.eq_nil_of_length_eq_zero h0
    subst hx
    exact hnone _ _ (h [] (.refl _) (by simp)) w hs0
  · have hb := hs1.cells.2
    have hlt := (Sat.lt (o := .cells (pre ++ xs.flatMap enc ++ junk).toArray T (0, 0)) hs1)
    have hc : Go.Proofs.CmpLays P g caps.toArray enc k cf b pre.length xs.toArray.size w := by
      intro m os dk _ x y
      generalize hW : Go.Proofs.sortWorldK enc k w b pre.length m dk os = W
      have hself : Sat W W [] := ⟨rfl, rfl, rfl, Nat.le_refl _, Nat.le_refl _, fun _ _ => rfl, fun _ => none, by simp, trivial⟩
      have := hcmp W [] (fun u _ => u = .int .i64 (cf x y)) x y rfl W hself
      rw [show (#[.agg (enc x).toArray, .agg (enc y).toArray] ++ caps.toArray : Array Value) = (.agg (enc x).toArray :: .agg (enc y).toArray :: caps).toArray by simp]
      refine this.mono ?_
      rintro e w' ⟨u, l', rfl, hs', rfl⟩
      exact ⟨rfl, sat_grow hs'⟩
    have hcall := hsort b pre.length cap xs.toArray w hc (holdsK_cells hk hb) hlt (by simpa using hn)
    simp only [List.size_toArray] at hcall
    refine hcall.mono ?_
    rintro e w' ⟨rfl, d', n, os, hperm, hsorted, rfl⟩
    obtain ⟨hs1', _, hpp⟩ := hperm
    have hsz : d'.size = xs.length := by simpa using hs1'
    have hdl : d'.toList.length = xs.length := by simpa using hsz
    have hp' : d'.toList.Perm xs := by
      have e1 : d'.extract 0 xs.length = d' := by rw [← hsz]; simp
      have e2 : xs.toArray.extract 0 xs.length = xs.toArray := by simp
      have hpp : (d'.extract 0 xs.length).toList.Perm (xs.toArray.extract 0 xs.length).toList := hpp
      rw [e1, e2] at hpp
      simpa using hpp
    have hpw : d'.toList.Pairwise fun a b => ¬ cf b a < 0 := by
      rw [List.pairwise_iff_getElem]
      intro i j hi hj hij
      have := hsorted i j (Nat.zero_le _) hij (by simpa using (show j < xs.length by omega))
      rw [getElem!_pos _ _ (by simpa using hj), getElem!_pos _ _ (by simpa using hi)] at this
      simpa [Go.Proofs.ltOf] using this
    refine ⟨_, _, rfl, ?_, h d'.toList hp' hpw⟩
    rw [hdl]
    have hflat : (d'.toList.flatMap enc).length = (xs.flatMap enc).length := by rw [flatE_len hk, flatE_len hk, hdl]
    have e3 : Go.Sort.flatK enc k d' = (d'.toList.flatMap enc).toArray := by
      have := flatK_list hk d'.toList
      simpa using this
    have hs2 : Sat w0 (Go.Sort.ahead w n) (cells b (pre ++ xs.flatMap enc ++ junk) T :: F) := hs1.drew (w.drawn + n)
    have hs3 : Sat w0 (Go.Sort.putRowK enc k (Go.Sort.ahead w n) b pre.length d') (cells b (pre ++ d'.toList.flatMap enc ++ junk) T :: F) := by
      refine Sat.turn (o := .cells (pre ++ xs.flatMap enc ++ junk).toArray T (0, 0)) hs2 rfl rfl rfl rfl ?_ ?_ ?_
      · simp [Go.Sort.putRowK, Go.Sort.putRow, Go.Sort.mapBlock]
      · have hb2 := hs2.cells.2
        simp only [Go.Sort.putRowK, Go.Sort.putRow, Go.Sort.mapBlock, Array.getElem?_modify, if_true, hb2, Option.map_some, Go.Sort.onCells, e3]
        rw [putCells_eq pre junk _ _ hflat.symm]
      · intro j hj
        simp only [Go.Sort.putRowK, Go.Sort.putRow, Go.Sort.mapBlock, Array.getElem?_modify, if_neg (Ne.symm hj)]
    exact (hs3.grow os).ent (slr_mk pre junk (by rw [hflat]; exact hl) h2 h3 F)
end
end Go.Sl
