/- A strings.Builder: what its methods do. -/
import Derived.Test.YtbolfohdcjpgoaaGreatDoorFacts
import Derived.Test.YtbolfohdcjpgoaaGreatDoorSlC
import Derived.Lib.UnsafeStr
import Derived.Lib.Builder
import Derived.Laws.Externs
set_option linter.unusedSimpArgs false
set_option linter.unusedVariables false
set_option linter.unusedSectionVars false
open Go Go.RowKit
namespace Go.Sl
open Go.Proofs
section
variable {P : Program} {w0 : World} {e : Env} {l F : HL} {ty t : TypeId} {x y : Operand} {n m : Nat} {K : Value → HL → Prop}
/-! a function of another house that gives back what it gets -/
class ExtId (P : Program) (f : FuncId) : Prop where
  h : ∃ fn, P.funcs[f]? = some fn ∧ (fn.name == "runtime.NumGoroutine") = false ∧ fn.body.isNone = true ∧ Extern.findNext fn = none ∧ Extern.find fn = some Extern.AbiNoEscape.same
instance Flt.extId {f : FuncId} {ts : Array TypeId} [h : ExtId P f] : Flt P w0 (.call ⟨.value (.func f), [x].toArray, ts⟩) ty e l (fun K => Let (ev e x) K) :=
  ⟨fun K ⟨v, hv, hk⟩ => ⟨v, fun ρ w hρ hs => by
    obtain ⟨fn, h1, h2, h3, h4, h5⟩ := h.h
    have hf : ρ (.func f) = .func (.func f) #[] #[] := hρ _ _ rfl
    simp [execOp, resolve, hf, Deferred.ofValue, invoke, hρ x v hv, run_callFunc_extern h1 h2 h3 h4 h5, Lib.run_noEscape], hk⟩⟩
/-! pointers without a type -/
class PtrT (P : Program) (t : TypeId) : Prop where
  h : P.underlying t = some .unsafePointer ∨ ∃ u, P.underlying t = some (.pointer u)
instance [h : Und P t .unsafePointer] : PtrT P t := ⟨.inl h.h⟩
instance {u : TypeId} [h : Und P t (.pointer u)] : PtrT P t := ⟨.inr ⟨u, h.h⟩⟩
instance Flt.convertP {s d : TypeId} [hd : PtrT P d] : Flt P w0 (.convert s d x) ty e l (fun K => Let (ev e x) fun v => CvS P w0 s d v l K) :=
  ⟨fun K ⟨v, hv, r, h1, h2⟩ => ⟨r, fun ρ w hρ hs => by simp [execOp, hρ x v hv, h1 w hs], h2⟩⟩
theorem shape_of_cells {w : World} {b : Nat} {c : List Value} {T : TypeId} {fz : Nat × Nat} (h : w.heap[b]? = some (.cells c.toArray T fz)) : w.shape? b = some (T, c.length) := by
  simp [World.shape?, h]
instance {s d u T : TypeId} {b : Nat} {v0 : Value} {c : List Value} {K : Value → Prop} [hr : Reads w0 l b (v0 :: c) T] [hs : Und P s (.pointer u)] [hd : Und P d .unsafePointer] [hu : Siz P u n] :
    Step (CvS P w0 s d (.pointer (some ⟨b, 0, none⟩)) l K) (Nat.blt 0 n = true ∧ K (.pointer (some ⟨b, 0, none⟩))) :=
  ⟨fun ⟨hn, hk⟩ => ⟨_, fun w hw => by
    have hn := Nat.le_of_ble_eq_true hn
    obtain ⟨fz, h⟩ := hr.h w hw
    obtain ⟨i, e1, e2⟩ := hu.h
    exact Lib.run_to_unsafe _ _ hs.h hd.h e1 (by omega) (shape_of_cells h) (by simp), hk⟩⟩
instance {s d u T : TypeId} {b : Nat} {v0 : Value} {c : List Value} {K : Value → Prop} [hr : Reads w0 l b (v0 :: c) T] [hs : Und P s .unsafePointer] [hd : Und P d (.pointer u)] [hu : Siz P u n] :
    Step (CvS P w0 s d (.pointer (some ⟨b, 0, none⟩)) l K) (liesAt P P.depth T ((v0 :: c).length / P.cellsOf T) 0 u 1 = true ∧ K (.pointer (some ⟨b, 0, none⟩))) :=
  ⟨fun ⟨h2, hk⟩ => ⟨_, fun w hw => by
    obtain ⟨fz, h⟩ := hr.h w hw
    obtain ⟨i, h1, _⟩ := hu.h
    exact Lib.run_from_unsafe _ _ hs.h hd.h h1 (shape_of_cells h) h2, hk⟩⟩
instance {u : TypeId} {a : Addr} {K : Value → Prop} [hs : Und P t (.pointer u)] [hu : Siz P u n] : Step (BinG P w0 .neq t x y (.pointer (some a)) (.pointer (some a)) l K) (K (.bool false)) :=
  ⟨fun hk => .mk (fun w => by simp [eqGuard]) (fun w => by
    obtain ⟨i, h1, _⟩ := hu.h
    exact Lib.run_neq_ptr_same w a hs.h h1) hk⟩
/-! unsafe.SliceData and unsafe.String -/
theorem usdNil {ts : Array TypeId} {c : Nat} (h : K (.pointer none) l) : BltG P w0 .unsafeSliceData ts ty [.slice none n c] l K :=
  fun _ _ hs => .val (by simp [Go.builtin, Lib.run_unsafeSliceData_nil]) hs h
theorem usdSome {ts : Array TypeId} {a : Addr} {c : Nat} (hc : c ≠ 0) (h : K (.pointer (some a)) l) : BltG P w0 .unsafeSliceData ts ty [.slice (some a) n c] l K :=
  fun _ _ hs => .val (by simp [Go.builtin, Lib.run_unsafeSliceData_row _ _ _ _ _ _ hc]) hs h
theorem usdZero {ts : Array TypeId} {u : TypeId} {a : Addr} (hu : P.underlying ty = some (.pointer u)) (hsh : ∀ w, Sat w0 w l → ∃ sh, w.shape? a.block = some sh) (h : ∀ p, K (.pointer (some ⟨p, 0, none⟩)) l) :
    BltG P w0 .unsafeSliceData ts ty [.slice (some a) n 0] l K := fun _ w hs => by
  obtain ⟨sh, h1⟩ := hsh w hs
  exact .val (v := .pointer (some ⟨w.heap.size, 0, none⟩)) (w := { w with heap := w.heap.push (.view a u) }) (by simp only [Go.builtin, Sem.run_bind, Lib.run_unsafeSliceData_zero w ts ty u hu a n sh h1, Result.andThen_ok, Sem.run_pure]; rfl) ((hs.new (.view a u)).ent (Ent.tail _ _)) (h _)
theorem usZero {pt it : TypeId} {p : Option Addr} (h : K (str []) l) : BltG P w0 .unsafeString #[pt, it] ty [.pointer p, .int .i64 0] l K :=
  fun _ w hs => .val (by simp [Go.builtin, Lib.run_unsafeString_none]; rfl) hs h
theorem liesAt_bytes' {u : TypeId} (hc : P.cellsOf u = 1) (count off n : Nat) (hn : off + n ≤ count) : liesAt P P.depth u count off u n = true := by
  have hd : P.depth = (2 * (P.types.size + Made.depth) + 1) + 1 := rfl
  rw [hd]
  simp only [liesAt, Bool.or_eq_true]
  left
  rw [hd]
  simp [rowAt, hc, hn, sameLayout]
  exact .inl (Nat.mod_one _)
theorem run_us {w : World} {pt it u : TypeId} (hp : P.underlying pt = some (.pointer u)) (hc : P.cellsOf u = 1) {g off : Nat} {c : List Value} {fz : Nat × Nat} (hg : w.heap[g]? = some (.cells c.toArray u fz)) (bs : List UInt8) (h0 : bs ≠ [])
    (hcut : cut c off bs.length = bc bs) (h63 : bs.length ≤ 9223372036854775807) :
    (Builtin.unsafeString_ #[pt, it] ty #[.pointer (some ⟨g, off, none⟩), .int .i64 bs.length]).run P w = .ok (str bs) (w.freeze ⟨g, off, none⟩ bs.length) := by
  have hl : bs.length ≠ 0 := by simpa using h0
  have hlen := congrArg List.length hcut
  simp only [cut, List.length_take, List.length_drop, bc_length] at hlen
  have hlb := Lib.run_loadBytes (P := P) w bs ⟨g, off, none⟩ .empty (fun j z hj => by
    rw [addr_add, cell_of_cells hg]
    have h1 := congrArg (fun q => q[j]?) hcut
    have h2 : j < bs.length := (List.getElem?_eq_some_iff.1 hj).1
    simp only [cut, List.getElem?_take, h2, if_true, List.getElem?_drop] at h1
    rw [h1]; simp [bc, hj])
  have hlies := liesAt_bytes' (P := P) hc (c.length / P.cellsOf u) off bs.length (by rw [hc]; simp; omega)
  have h63' : ¬ (9223372036854775807 : Int) < (bs.length : Int) := by omega
  have hdef : Builtin.unsafeString_ #[pt, it] ty #[.pointer (some ⟨g, off, none⟩), .int .i64 bs.length] =
      (do
        let n ← asInt (.int .i64 bs.length)
        if n < 0 then runtimePanic (.error "unsafe.String: len out of range")
        if n > IntKind.i64.max then unsupported (.unsafePointer "String: a length above the largest int")
        if n = 0 then pure (.string .empty)
        else if ← variablesAt ⟨g, off, none⟩ (← elemOf pt) n.toNat then do
          let s ← loadBytes ⟨g, off, none⟩ .empty n.toNat
          freeze ⟨g, off, none⟩ n.toNat
          pure (.string s)
        else unsupported (.unsafePointer "String: not so many bytes at ptr")) := rfl
  rw [hdef]
  have hmax : IntKind.i64.max = 9223372036854775807 := rfl
  have hneg : ¬ (bs.length : Int) < 0 := by omega
  simp [asInt, asIntOf, hmax, h63', hneg, hl, variablesAt, shape_of_cells hg, elemOf, run_underlying hp, hlies, hlb]
/-- a row of bytes whose head may be frozen -/
def Frz (b : Nat) (c : List Value) (T : TypeId) : HP := ex fun fz : Nat × Nat => obj b (.cells c.toArray T fz)
theorem usSome {pt it u : TypeId} {g off : Nat} {c : List Value} {bs : List UInt8} (hp : P.underlying pt = some (.pointer u)) (hc : P.cellsOf u = 1) (hr : Rem l (Frz g c u) F) (h0 : bs ≠ []) (hcut : cut c off bs.length = bc bs)
    (h63 : bs.length ≤ 9223372036854775807) (h : K (str bs) (Frz g c u :: F)) : BltG P w0 .unsafeString #[pt, it] ty [.pointer (some ⟨g, off, none⟩), .int .i64 bs.length] l K := fun _ w hs => by
  obtain ⟨fz, h1⟩ := (hs.ent hr.ent).ex
  have hg := h1.obj.2
  refine .val (v := str bs) (w := w.freeze ⟨g, off, none⟩ bs.length) (by simp only [Go.builtin, Sem.run_bind, run_us hp hc hg bs h0 hcut h63, Result.andThen_ok, Sem.run_pure]) ?_ h
  have hl : bs.length ≠ 0 := by simpa using h0
  refine Sat.ent (Sat.turn (o' := .cells c.toArray u (if fz.1 == fz.2 then (off, off + bs.length) else (min fz.1 off, max fz.2 (off + bs.length)))) h1 ?_ ?_ ?_ (by simp [World.freeze, hg, hl]) ?_ ?_ ?_) (ent_ex (fun fz : Nat × Nat => Sl.obj g (.cells c.toArray u fz)) _ F)
  · simp [World.freeze, hl]
  · simp [World.freeze, hl]
  · simp [World.freeze, hl]
  · simp [World.freeze, hl]
  · have hlt := h1.lt
    simp only [World.freeze, hl, if_false, Array.getElem?_modify, hg, if_true, Option.map_some]
  · intro k hk
    simp only [World.freeze, hl, if_false, Array.getElem?_modify, if_neg (Ne.symm hk)]
end
/-! ### the builder -/
instance : ExtId Tryz.prog 225 := ⟨⟨_, Tryz.func225, by kernel_rfl, by kernel_rfl, by kernel_rfl, by kernel_rfl⟩⟩
instance : Und Tryz.prog 360 .unsafePointer := ⟨by kernel_rfl⟩
def FSl (v : Value) (bs : List UInt8) (u : TypeId) : HP := fun h => (v = .slice none 0 0 ∧ bs = []) ∨
  ∃ b pre junk cap, v = .slice (some ⟨b, pre.length, none⟩) bs.length cap ∧ bs.length ≤ cap ∧ Frz b (pre ++ bc bs ++ junk) u h
abbrev BldP (b : Nat) (p : Option Addr) (a : Option Addr) (cap : Nat) (bs : List UInt8) (F : HL) : HL :=
  cells b [.pointer p, .slice a bs.length cap] 283 :: SlR (.slice a bs.length cap) 5 1 bs.length (bc bs) :: F
abbrev FBldP (b : Nat) (p : Option Addr) (a : Option Addr) (cap : Nat) (bs : List UInt8) (F : HL) : HL :=
  cells b [.pointer p, .slice a bs.length cap] 283 :: FSl (.slice a bs.length cap) bs 5 :: F
def own : Bool → Nat → Option Addr
  | true, b => some ⟨b, 0, none⟩
  | false, _ => none
/-- a builder that holds bytes -/
def Bld (b : Nat) (bs : List UInt8) : HP := ex fun x : Bool × Option Addr × Nat => all (BldP b (own x.1 b) x.2.1 x.2.2 bs [])
/-- .. of which a string was made -/
def FBld (b : Nat) (bs : List UInt8) : HP := ex fun x : Bool × Option Addr × Nat => all (FBldP b (own x.1 b) x.2.1 x.2.2 bs [])
section
variable {w0 : World} {l F : HL} {K : Value → HL → Prop} {b : Nat} {bs : List UInt8}
theorem bld_open {f : FuncId} {args : Array Value} (hp : Rem l (Bld b bs) F) (h : ∀ u a cap, CallG Tryz.prog w0 f args (BldP b (own u b) a cap bs F) K) : CallG Tryz.prog w0 f args l K := by
  intro w hs
  obtain ⟨⟨u, a, cap⟩, hs⟩ := (hs.ent hp.ent).ex
  exact h u a cap w (hs.ent (ent_all _ _))
theorem fbld_open {f : FuncId} {args : Array Value} (hp : Rem l (FBld b bs) F) (h : ∀ u a cap, CallG Tryz.prog w0 f args (FBldP b (own u b) a cap bs F) K) : CallG Tryz.prog w0 f args l K := by
  intro w hs
  obtain ⟨⟨u, a, cap⟩, hs⟩ := (hs.ent hp.ent).ex
  exact h u a cap w (hs.ent (ent_all _ _))
theorem bld_close (u : Bool) (a : Option Addr) (cap : Nat) : Ent (BldP b (own u b) a cap bs F) (Bld b bs :: F) :=
  (ent_all' (BldP b (own u b) a cap bs []) F).trans (ent_ex (fun x : Bool × Option Addr × Nat => all (BldP b (own x.1 b) x.2.1 x.2.2 bs [])) (u, a, cap) F)
theorem fbld_close (u : Bool) (a : Option Addr) (cap : Nat) : Ent (FBldP b (own u b) a cap bs F) (FBld b bs :: F) :=
  (ent_all' (FBldP b (own u b) a cap bs []) F).trans (ent_ex (fun x : Bool × Option Addr × Nat => all (FBldP b (own x.1 b) x.2.1 x.2.2 bs [])) (u, a, cap) F)
theorem bld_new : Ent (cells b [.pointer none, .slice none 0 0] 283 :: F) (Bld b [] :: F) :=
  Ent.trans ((slr_nil 5 1 _).trans (Ent.perm (.swap _ _ _))) (bld_close (bs := []) false none 0)
theorem bldNew (hp : Rem l (cells b [.pointer none, .slice none 0 0] 283) F) : Ent l (Bld b [] :: F) := hp.ent.trans bld_new
set_option maxRecDepth 4000 in
theorem copyCheck_spec {u : Bool} {v : Value} (hp : Rem l (cells b [.pointer (own u b), v] 283) F)
    (h : K (.tuple #[]) (cells b [.pointer (own true b), v] 283 :: F)) : CallG Tryz.prog w0 199 [.pointer (some ⟨b, 0, none⟩)].toArray l K := by
  refine CallG.ent hp.ent ?_
  cases u
  · simp only [own] at *
    refine CallG.enter Tryz.func199 rfl rfl fun cs => ?_
    repeat' (first | refine step ?_ | refine knowI fun hk => ?_ | refine got rfl ?_ | refine And.intro rfl ?_ | (refine And.intro (fun hc => ?_) (fun hc => ?_) <;> (try (exfalso; first | omega | (simp only [List.length_nil, List.length_cons] at hc; omega)))) | (refine And.intro ?_ ?_; focus omega) | (refine And.intro ?_ ?_; focus (simp only [List.length_map, List.length_set, List.length_replicate, List.length_append, List.length_range, List.length_cons, List.length_nil, Nat.blt_eq, Nat.ble_eq]; omega)) | refine anyB fun b => ?_ | refine got (nth_rowI rfl) ?_ | refine got (nth_row0 rfl) ?_ | refine got (nth_row2 rfl) ?_ | fail)
    refine And.intro (by kernel_rfl) ?_
    repeat' (first | refine step ?_ | refine knowI fun hk => ?_ | refine got rfl ?_ | refine And.intro rfl ?_ | (refine And.intro (fun hc => ?_) (fun hc => ?_) <;> (try (exfalso; first | omega | (simp only [List.length_nil, List.length_cons] at hc; omega)))) | (refine And.intro ?_ ?_; focus omega) | (refine And.intro ?_ ?_; focus (simp only [List.length_map, List.length_set, List.length_replicate, List.length_append, List.length_range, List.length_cons, List.length_nil, Nat.blt_eq, Nat.ble_eq]; omega)) | refine anyB fun b => ?_ | refine got (nth_rowI rfl) ?_ | refine got (nth_row0 rfl) ?_ | refine got (nth_row2 rfl) ?_ | fail)
    refine fin0 Tryz.func199 rfl ?_
    exact h
  · simp only [own] at *
    refine CallG.enter Tryz.func199 rfl rfl fun cs => ?_
    repeat' (first | refine step ?_ | refine knowI fun hk => ?_ | refine got rfl ?_ | refine And.intro rfl ?_ | (refine And.intro (fun hc => ?_) (fun hc => ?_) <;> (try (exfalso; first | omega | (simp only [List.length_nil, List.length_cons] at hc; omega)))) | (refine And.intro ?_ ?_; focus omega) | (refine And.intro ?_ ?_; focus (simp only [List.length_map, List.length_set, List.length_replicate, List.length_append, List.length_range, List.length_cons, List.length_nil, Nat.blt_eq, Nat.ble_eq]; omega)) | refine anyB fun b => ?_ | refine got (nth_rowI rfl) ?_ | refine got (nth_row0 rfl) ?_ | refine got (nth_row2 rfl) ?_ | fail)
    refine fin0 Tryz.func199 rfl ?_
    exact h
set_option maxRecDepth 4000 in
theorem WriteString_spec {s : List UInt8} (hp : Rem l (Bld b bs) F) (hn : bs.length + s.length ≤ 1000000000000) (h : K (.tuple #[.int .i64 s.length, .nilIface]) (Bld b (bs ++ s) :: F)) :
    CallG Tryz.prog w0 162 [.pointer (some ⟨b, 0, none⟩), str s].toArray l K := by
  refine bld_open hp fun u a cap => ?_
  refine CallG.enter Tryz.func162 rfl rfl fun cs => ?_
  repeat' (first | refine step ?_ | refine knowI fun hk => ?_ | refine got rfl ?_ | refine And.intro rfl ?_ | (refine And.intro (fun hc => ?_) (fun hc => ?_) <;> (try (exfalso; first | omega | (simp only [List.length_nil, List.length_cons] at hc; omega)))) | (refine And.intro ?_ ?_; focus omega) | (refine And.intro ?_ ?_; focus (simp only [List.length_map, List.length_set, List.length_replicate, List.length_append, List.length_range, List.length_cons, List.length_nil, Nat.blt_eq, Nat.ble_eq]; omega)) | refine anyB fun b => ?_ | refine got (nth_rowI rfl) ?_ | refine got (nth_row0 rfl) ?_ | refine got (nth_row2 rfl) ?_ | fail)
  refine copyCheck_spec .here ?_
  repeat' (first | refine step ?_ | refine knowI fun hk => ?_ | refine got rfl ?_ | refine And.intro rfl ?_ | (refine And.intro (fun hc => ?_) (fun hc => ?_) <;> (try (exfalso; first | omega | (simp only [List.length_nil, List.length_cons] at hc; omega)))) | (refine And.intro ?_ ?_; focus omega) | (refine And.intro ?_ ?_; focus (simp only [List.length_map, List.length_set, List.length_replicate, List.length_append, List.length_range, List.length_cons, List.length_nil, Nat.blt_eq, Nat.ble_eq]; omega)) | refine anyB fun b => ?_ | refine got (nth_rowI rfl) ?_ | refine got (nth_row0 rfl) ?_ | refine got (nth_row2 rfl) ?_ | fail)
  refine appendG (bc_one s) (by decide) (by omega) fun a' cp' => ?_
  repeat' (first | refine step ?_ | refine knowI fun hk => ?_ | refine got rfl ?_ | refine And.intro rfl ?_ | (refine And.intro (fun hc => ?_) (fun hc => ?_) <;> (try (exfalso; first | omega | (simp only [List.length_nil, List.length_cons] at hc; omega)))) | (refine And.intro ?_ ?_; focus omega) | (refine And.intro ?_ ?_; focus (simp only [List.length_map, List.length_set, List.length_replicate, List.length_append, List.length_range, List.length_cons, List.length_nil, Nat.blt_eq, Nat.ble_eq]; omega)) | refine anyB fun b => ?_ | refine got (nth_rowI rfl) ?_ | refine got (nth_row0 rfl) ?_ | refine got (nth_row2 rfl) ?_ | fail)
  rw [← bc_append, ← List.length_append]
  refine Run.ent (Ent.trans (b := BldP b (own true b) a' cp' (bs ++ s) F) fin (bld_close true a' cp')) (ret2 Tryz.func162 rfl ?_)
  repeat' (first | refine step ?_ | refine knowI fun hk => ?_ | refine got rfl ?_ | refine And.intro rfl ?_ | (refine And.intro (fun hc => ?_) (fun hc => ?_) <;> (try (exfalso; first | omega | (simp only [List.length_nil, List.length_cons] at hc; omega)))) | (refine And.intro ?_ ?_; focus omega) | (refine And.intro ?_ ?_; focus (simp only [List.length_map, List.length_set, List.length_replicate, List.length_append, List.length_range, List.length_cons, List.length_nil, Nat.blt_eq, Nat.ble_eq]; omega)) | refine anyB fun b => ?_ | refine got (nth_rowI rfl) ?_ | refine got (nth_row0 rfl) ?_ | refine got (nth_row2 rfl) ?_ | fail)
  exact h
theorem Len_spec (hp : Rem l (Bld b bs) F) (h : K (.int .i64 bs.length) (Bld b bs :: F)) : CallG Tryz.prog w0 189 [.pointer (some ⟨b, 0, none⟩)].toArray l K := by
  refine bld_open hp fun u a cap => ?_
  refine CallG.enter Tryz.func189 rfl rfl fun cs => ?_
  repeat' (first | refine step ?_ | refine knowI fun hk => ?_ | refine got rfl ?_ | refine And.intro rfl ?_ | (refine And.intro (fun hc => ?_) (fun hc => ?_) <;> (try (exfalso; first | omega | (simp only [List.length_nil, List.length_cons] at hc; omega)))) | (refine And.intro ?_ ?_; focus omega) | (refine And.intro ?_ ?_; focus (simp only [List.length_map, List.length_set, List.length_replicate, List.length_append, List.length_range, List.length_cons, List.length_nil, Nat.blt_eq, Nat.ble_eq]; omega)) | refine anyB fun b => ?_ | refine got (nth_rowI rfl) ?_ | refine got (nth_row0 rfl) ?_ | refine got (nth_row2 rfl) ?_ | fail)
  refine Run.ent (bld_close u a cap) (ret1 Tryz.func189 rfl ?_)
  repeat' (first | refine step ?_ | refine knowI fun hk => ?_ | refine got rfl ?_ | refine And.intro rfl ?_ | (refine And.intro (fun hc => ?_) (fun hc => ?_) <;> (try (exfalso; first | omega | (simp only [List.length_nil, List.length_cons] at hc; omega)))) | (refine And.intro ?_ ?_; focus omega) | (refine And.intro ?_ ?_; focus (simp only [List.length_map, List.length_set, List.length_replicate, List.length_append, List.length_range, List.length_cons, List.length_nil, Nat.blt_eq, Nat.ble_eq]; omega)) | refine anyB fun b => ?_ | refine got (nth_rowI rfl) ?_ | refine got (nth_row0 rfl) ?_ | refine got (nth_row2 rfl) ?_ | fail)
  exact h
theorem slr_fsl {v : Value} : Ent (SlR v 5 1 bs.length (bc bs) :: F) (FSl v bs 5 :: F) := by
  refine Ent.head F fun h => ?_
  rintro ⟨_, H⟩
  rcases H with ⟨h1, h2⟩ | ⟨b, pre, junk, cap, h1, h2, _, h4⟩
  · exact .inl ⟨h1, List.eq_nil_of_length_eq_zero h2⟩
  · exact .inr ⟨b, pre, junk, cap, h1, h2, (0, 0), h4⟩
theorem bld_frz : Ent (Bld b bs :: F) (FBld b bs :: F) := Ent.head F fun h ⟨x, H⟩ => ⟨x, (Ent.cons _ slr_fsl) h H⟩
theorem fsl_elim {P : Program} {c : Cx} {todo : List Item} {e : Env} {v : Value} {u : TypeId} (h0 : v = .slice none 0 0 → bs = [] → Run P c todo e l)
    (h1 : ∀ g pre junk cap, v = .slice (some ⟨g, pre.length, none⟩) bs.length cap → bs.length ≤ cap → Run P c todo e (Frz g (pre ++ bc bs ++ junk) u :: l)) : Run P c todo e (FSl v bs u :: l) := fun a w ha hs => by
  obtain ⟨h, hh, x, y, d, e1, hx, hy⟩ := hs.own
  rcases hx with ⟨rfl, rfl⟩ | ⟨g, pre, junk, cap, rfl, h2, h4⟩
  · exact h0 rfl rfl a w ha (hs.ent (Ent.tail _ _))
  · exact h1 g pre junk cap rfl h2 a w ha ⟨hs.os, hs.tape, hs.output, hs.drawn, hs.size, hs.block, h, hh, x, y, d, e1, h4, hy⟩
theorem fsl_nil {v : Value} (h : v = .slice none 0 0) : Ent F (FSl v [] 5 :: F) := fun h H => ⟨fun _ => none, h, fun _ => .inl rfl, (join_none h).symm, .inl ⟨by assumption, rfl⟩, H⟩
theorem fsl_mk {g cap : Nat} {pre junk : List Value} (hc : bs.length ≤ cap) : Ent (Frz g (pre ++ bc bs ++ junk) 5 :: F) (FSl (.slice (some ⟨g, pre.length, none⟩) bs.length cap) bs 5 :: F) :=
  Ent.head F fun h H => .inr ⟨g, pre, junk, cap, rfl, hc, H⟩
theorem String_spec (hn : bs.length ≤ 1000000000000) (hp : Rem l (FBld b bs) F) (h : K (str bs) (FBld b bs :: F)) : CallG Tryz.prog w0 163 [.pointer (some ⟨b, 0, none⟩)].toArray l K := by
  refine fbld_open hp fun u a cap => ?_
  refine CallG.enter Tryz.func163 rfl rfl fun cs => ?_
  repeat' (first | refine step ?_ | refine knowI fun hk => ?_ | refine got rfl ?_ | refine And.intro rfl ?_ | (refine And.intro (fun hc => ?_) (fun hc => ?_) <;> (try (exfalso; first | omega | (simp only [List.length_nil, List.length_cons] at hc; omega)))) | (refine And.intro ?_ ?_; focus omega) | (refine And.intro ?_ ?_; focus (simp only [List.length_map, List.length_set, List.length_replicate, List.length_append, List.length_range, List.length_cons, List.length_nil, Nat.blt_eq, Nat.ble_eq]; omega)) | refine anyB fun b => ?_ | refine got (nth_rowI rfl) ?_ | refine got (nth_row0 rfl) ?_ | refine got (nth_row2 rfl) ?_ | fail)
  refine Run.ent (Ent.perm (.swap _ _ _)) (fsl_elim (fun e1 e2 => ?_) (fun g pre junk cap' e1 e2 => ?_))
  · subst e2
    obtain ⟨rfl, rfl⟩ : a = none ∧ cap = 0 := by simpa using e1
    refine Run.drawI [0] rfl ?_
    repeat' (first | refine step ?_ | refine knowI fun hk => ?_ | refine got rfl ?_ | refine And.intro rfl ?_ | (refine And.intro (fun hc => ?_) (fun hc => ?_) <;> (try (exfalso; first | omega | (simp only [List.length_nil, List.length_cons] at hc; omega)))) | (refine And.intro ?_ ?_; focus omega) | (refine And.intro ?_ ?_; focus (simp only [List.length_map, List.length_set, List.length_replicate, List.length_append, List.length_range, List.length_cons, List.length_nil, Nat.blt_eq, Nat.ble_eq]; omega)) | refine anyB fun b => ?_ | refine got (nth_rowI rfl) ?_ | refine got (nth_row0 rfl) ?_ | refine got (nth_row2 rfl) ?_ | refine And.intro (keepS (by decide +kernel)) ?_ | refine And.intro keepR ?_ | refine RunD.done (by decide +kernel) ?_ | refine tk 0 rfl (by decide +kernel) ?_ | refine tk 1 rfl (by decide +kernel) ?_ | refine tk 2 rfl (by decide +kernel) ?_ | refine tk 3 rfl (by decide +kernel) ?_ | refine ef 4 (by decide +kernel) rfl ?_ | refine tk 5 rfl (by decide +kernel) ?_ | refine tk 6 rfl (by decide +kernel) ?_ | refine tk 7 rfl (by decide +kernel) ?_ | refine tk 8 rfl (by decide +kernel) ?_ | refine tk 9 rfl (by decide +kernel) ?_ | refine ef 10 (by decide +kernel) rfl ?_ | refine tk 11 rfl (by decide +kernel) ?_ | fail)
    refine usdNil ?_
    repeat' (first | refine step ?_ | refine knowI fun hk => ?_ | refine got rfl ?_ | refine And.intro rfl ?_ | (refine And.intro (fun hc => ?_) (fun hc => ?_) <;> (try (exfalso; first | omega | (simp only [List.length_nil, List.length_cons] at hc; omega)))) | (refine And.intro ?_ ?_; focus omega) | (refine And.intro ?_ ?_; focus (simp only [List.length_map, List.length_set, List.length_replicate, List.length_append, List.length_range, List.length_cons, List.length_nil, Nat.blt_eq, Nat.ble_eq]; omega)) | refine anyB fun b => ?_ | refine got (nth_rowI rfl) ?_ | refine got (nth_row0 rfl) ?_ | refine got (nth_row2 rfl) ?_ | refine And.intro (keepS (by decide +kernel)) ?_ | refine And.intro keepR ?_ | refine RunD.done (by decide +kernel) ?_ | refine tk 0 rfl (by decide +kernel) ?_ | refine tk 1 rfl (by decide +kernel) ?_ | refine tk 2 rfl (by decide +kernel) ?_ | refine tk 3 rfl (by decide +kernel) ?_ | refine ef 4 (by decide +kernel) rfl ?_ | refine tk 5 rfl (by decide +kernel) ?_ | refine tk 6 rfl (by decide +kernel) ?_ | refine tk 7 rfl (by decide +kernel) ?_ | refine tk 8 rfl (by decide +kernel) ?_ | refine tk 9 rfl (by decide +kernel) ?_ | refine ef 10 (by decide +kernel) rfl ?_ | refine tk 11 rfl (by decide +kernel) ?_ | fail)
    refine usZero ?_
    repeat' (first | refine step ?_ | refine knowI fun hk => ?_ | refine got rfl ?_ | refine And.intro rfl ?_ | (refine And.intro (fun hc => ?_) (fun hc => ?_) <;> (try (exfalso; first | omega | (simp only [List.length_nil, List.length_cons] at hc; omega)))) | (refine And.intro ?_ ?_; focus omega) | (refine And.intro ?_ ?_; focus (simp only [List.length_map, List.length_set, List.length_replicate, List.length_append, List.length_range, List.length_cons, List.length_nil, Nat.blt_eq, Nat.ble_eq]; omega)) | refine anyB fun b => ?_ | refine got (nth_rowI rfl) ?_ | refine got (nth_row0 rfl) ?_ | refine got (nth_row2 rfl) ?_ | refine And.intro (keepS (by decide +kernel)) ?_ | refine And.intro keepR ?_ | refine RunD.done (by decide +kernel) ?_ | refine tk 0 rfl (by decide +kernel) ?_ | refine tk 1 rfl (by decide +kernel) ?_ | refine tk 2 rfl (by decide +kernel) ?_ | refine tk 3 rfl (by decide +kernel) ?_ | refine ef 4 (by decide +kernel) rfl ?_ | refine tk 5 rfl (by decide +kernel) ?_ | refine tk 6 rfl (by decide +kernel) ?_ | refine tk 7 rfl (by decide +kernel) ?_ | refine tk 8 rfl (by decide +kernel) ?_ | refine tk 9 rfl (by decide +kernel) ?_ | refine ef 10 (by decide +kernel) rfl ?_ | refine tk 11 rfl (by decide +kernel) ?_ | fail)
    repeat' (first | refine step ?_ | refine knowI fun hk => ?_ | refine got rfl ?_ | refine And.intro rfl ?_ | (refine And.intro (fun hc => ?_) (fun hc => ?_) <;> (try (exfalso; first | omega | (simp only [List.length_nil, List.length_cons] at hc; omega)))) | (refine And.intro ?_ ?_; focus omega) | (refine And.intro ?_ ?_; focus (simp only [List.length_map, List.length_set, List.length_replicate, List.length_append, List.length_range, List.length_cons, List.length_nil, Nat.blt_eq, Nat.ble_eq]; omega)) | refine anyB fun b => ?_ | refine got (nth_rowI rfl) ?_ | refine got (nth_row0 rfl) ?_ | refine got (nth_row2 rfl) ?_ | fail)
    refine Run.ent (Ent.trans ((fsl_nil (v := .slice none (List.length ([] : List UInt8)) 0) rfl).trans (Ent.perm (.swap _ _ _))) (fbld_close (bs := []) u none 0)) (ret1 Tryz.func163 rfl ?_)
    repeat' (first | refine step ?_ | refine knowI fun hk => ?_ | refine got rfl ?_ | refine And.intro rfl ?_ | (refine And.intro (fun hc => ?_) (fun hc => ?_) <;> (try (exfalso; first | omega | (simp only [List.length_nil, List.length_cons] at hc; omega)))) | (refine And.intro ?_ ?_; focus omega) | (refine And.intro ?_ ?_; focus (simp only [List.length_map, List.length_set, List.length_replicate, List.length_append, List.length_range, List.length_cons, List.length_nil, Nat.blt_eq, Nat.ble_eq]; omega)) | refine anyB fun b => ?_ | refine got (nth_rowI rfl) ?_ | refine got (nth_row0 rfl) ?_ | refine got (nth_row2 rfl) ?_ | fail)
    exact h
  · obtain ⟨rfl, rfl⟩ : a = some ⟨g, pre.length, none⟩ ∧ cap = cap' := by simpa using e1
    refine Run.ent (Ent.perm (.swap _ _ _)) ?_
    have hcut : cut (pre ++ bc bs ++ junk) pre.length bs.length = bc bs := by rw [← bc_length bs]; exact cut_mid pre (bc bs) junk
    refine Run.drawI [0] rfl ?_
    repeat' (first | refine step ?_ | refine knowI fun hk => ?_ | refine got rfl ?_ | refine And.intro rfl ?_ | (refine And.intro (fun hc => ?_) (fun hc => ?_) <;> (try (exfalso; first | omega | (simp only [List.length_nil, List.length_cons] at hc; omega)))) | (refine And.intro ?_ ?_; focus omega) | (refine And.intro ?_ ?_; focus (simp only [List.length_map, List.length_set, List.length_replicate, List.length_append, List.length_range, List.length_cons, List.length_nil, Nat.blt_eq, Nat.ble_eq]; omega)) | refine anyB fun b => ?_ | refine got (nth_rowI rfl) ?_ | refine got (nth_row0 rfl) ?_ | refine got (nth_row2 rfl) ?_ | refine And.intro (keepS (by decide +kernel)) ?_ | refine And.intro keepR ?_ | refine RunD.done (by decide +kernel) ?_ | refine tk 0 rfl (by decide +kernel) ?_ | refine tk 1 rfl (by decide +kernel) ?_ | refine tk 2 rfl (by decide +kernel) ?_ | refine tk 3 rfl (by decide +kernel) ?_ | refine ef 4 (by decide +kernel) rfl ?_ | refine tk 5 rfl (by decide +kernel) ?_ | refine tk 6 rfl (by decide +kernel) ?_ | refine tk 7 rfl (by decide +kernel) ?_ | refine tk 8 rfl (by decide +kernel) ?_ | refine tk 9 rfl (by decide +kernel) ?_ | refine ef 10 (by decide +kernel) rfl ?_ | refine tk 11 rfl (by decide +kernel) ?_ | fail)
    by_cases hc : cap = 0
    · subst hc
      obtain rfl : bs = [] := List.eq_nil_of_length_eq_zero (by omega)
      refine usdZero (u := 5) (by kernel_rfl) (fun w hw => ?_) fun q => ?_
      · obtain ⟨fz, h1⟩ := (hw.ent (Ent.perm (.swap _ _ _))).ex
        exact ⟨_, shape_of_cells h1.obj.2⟩
      repeat' (first | refine step ?_ | refine knowI fun hk => ?_ | refine got rfl ?_ | refine And.intro rfl ?_ | (refine And.intro (fun hc => ?_) (fun hc => ?_) <;> (try (exfalso; first | omega | (simp only [List.length_nil, List.length_cons] at hc; omega)))) | (refine And.intro ?_ ?_; focus omega) | (refine And.intro ?_ ?_; focus (simp only [List.length_map, List.length_set, List.length_replicate, List.length_append, List.length_range, List.length_cons, List.length_nil, Nat.blt_eq, Nat.ble_eq]; omega)) | refine anyB fun b => ?_ | refine got (nth_rowI rfl) ?_ | refine got (nth_row0 rfl) ?_ | refine got (nth_row2 rfl) ?_ | refine And.intro (keepS (by decide +kernel)) ?_ | refine And.intro keepR ?_ | refine RunD.done (by decide +kernel) ?_ | refine tk 0 rfl (by decide +kernel) ?_ | refine tk 1 rfl (by decide +kernel) ?_ | refine tk 2 rfl (by decide +kernel) ?_ | refine tk 3 rfl (by decide +kernel) ?_ | refine ef 4 (by decide +kernel) rfl ?_ | refine tk 5 rfl (by decide +kernel) ?_ | refine tk 6 rfl (by decide +kernel) ?_ | refine tk 7 rfl (by decide +kernel) ?_ | refine tk 8 rfl (by decide +kernel) ?_ | refine tk 9 rfl (by decide +kernel) ?_ | refine ef 10 (by decide +kernel) rfl ?_ | refine tk 11 rfl (by decide +kernel) ?_ | fail)
      refine usZero ?_
      repeat' (first | refine step ?_ | refine knowI fun hk => ?_ | refine got rfl ?_ | refine And.intro rfl ?_ | (refine And.intro (fun hc => ?_) (fun hc => ?_) <;> (try (exfalso; first | omega | (simp only [List.length_nil, List.length_cons] at hc; omega)))) | (refine And.intro ?_ ?_; focus omega) | (refine And.intro ?_ ?_; focus (simp only [List.length_map, List.length_set, List.length_replicate, List.length_append, List.length_range, List.length_cons, List.length_nil, Nat.blt_eq, Nat.ble_eq]; omega)) | refine anyB fun b => ?_ | refine got (nth_rowI rfl) ?_ | refine got (nth_row0 rfl) ?_ | refine got (nth_row2 rfl) ?_ | refine And.intro (keepS (by decide +kernel)) ?_ | refine And.intro keepR ?_ | refine RunD.done (by decide +kernel) ?_ | refine tk 0 rfl (by decide +kernel) ?_ | refine tk 1 rfl (by decide +kernel) ?_ | refine tk 2 rfl (by decide +kernel) ?_ | refine tk 3 rfl (by decide +kernel) ?_ | refine ef 4 (by decide +kernel) rfl ?_ | refine tk 5 rfl (by decide +kernel) ?_ | refine tk 6 rfl (by decide +kernel) ?_ | refine tk 7 rfl (by decide +kernel) ?_ | refine tk 8 rfl (by decide +kernel) ?_ | refine tk 9 rfl (by decide +kernel) ?_ | refine ef 10 (by decide +kernel) rfl ?_ | refine tk 11 rfl (by decide +kernel) ?_ | fail)
      repeat' (first | refine step ?_ | refine knowI fun hk => ?_ | refine got rfl ?_ | refine And.intro rfl ?_ | (refine And.intro (fun hc => ?_) (fun hc => ?_) <;> (try (exfalso; first | omega | (simp only [List.length_nil, List.length_cons] at hc; omega)))) | (refine And.intro ?_ ?_; focus omega) | (refine And.intro ?_ ?_; focus (simp only [List.length_map, List.length_set, List.length_replicate, List.length_append, List.length_range, List.length_cons, List.length_nil, Nat.blt_eq, Nat.ble_eq]; omega)) | refine anyB fun b => ?_ | refine got (nth_rowI rfl) ?_ | refine got (nth_row0 rfl) ?_ | refine got (nth_row2 rfl) ?_ | fail)
      refine Run.ent (Ent.trans ((Ent.perm (.swap _ _ _)).trans ((fsl_mk e2).trans (Ent.perm (.swap _ _ _)))) (fbld_close u _ _)) (ret1 Tryz.func163 rfl ?_)
      repeat' (first | refine step ?_ | refine knowI fun hk => ?_ | refine got rfl ?_ | refine And.intro rfl ?_ | (refine And.intro (fun hc => ?_) (fun hc => ?_) <;> (try (exfalso; first | omega | (simp only [List.length_nil, List.length_cons] at hc; omega)))) | (refine And.intro ?_ ?_; focus omega) | (refine And.intro ?_ ?_; focus (simp only [List.length_map, List.length_set, List.length_replicate, List.length_append, List.length_range, List.length_cons, List.length_nil, Nat.blt_eq, Nat.ble_eq]; omega)) | refine anyB fun b => ?_ | refine got (nth_rowI rfl) ?_ | refine got (nth_row0 rfl) ?_ | refine got (nth_row2 rfl) ?_ | fail)
      exact h
    · refine usdSome hc ?_
      repeat' (first | refine step ?_ | refine knowI fun hk => ?_ | refine got rfl ?_ | refine And.intro rfl ?_ | (refine And.intro (fun hc => ?_) (fun hc => ?_) <;> (try (exfalso; first | omega | (simp only [List.length_nil, List.length_cons] at hc; omega)))) | (refine And.intro ?_ ?_; focus omega) | (refine And.intro ?_ ?_; focus (simp only [List.length_map, List.length_set, List.length_replicate, List.length_append, List.length_range, List.length_cons, List.length_nil, Nat.blt_eq, Nat.ble_eq]; omega)) | refine anyB fun b => ?_ | refine got (nth_rowI rfl) ?_ | refine got (nth_row0 rfl) ?_ | refine got (nth_row2 rfl) ?_ | refine And.intro (keepS (by decide +kernel)) ?_ | refine And.intro keepR ?_ | refine RunD.done (by decide +kernel) ?_ | refine tk 0 rfl (by decide +kernel) ?_ | refine tk 1 rfl (by decide +kernel) ?_ | refine tk 2 rfl (by decide +kernel) ?_ | refine tk 3 rfl (by decide +kernel) ?_ | refine ef 4 (by decide +kernel) rfl ?_ | refine tk 5 rfl (by decide +kernel) ?_ | refine tk 6 rfl (by decide +kernel) ?_ | refine tk 7 rfl (by decide +kernel) ?_ | refine tk 8 rfl (by decide +kernel) ?_ | refine tk 9 rfl (by decide +kernel) ?_ | refine ef 10 (by decide +kernel) rfl ?_ | refine tk 11 rfl (by decide +kernel) ?_ | fail)
      by_cases hb : bs = []
      · subst hb
        refine usZero ?_
        repeat' (first | refine step ?_ | refine knowI fun hk => ?_ | refine got rfl ?_ | refine And.intro rfl ?_ | (refine And.intro (fun hc => ?_) (fun hc => ?_) <;> (try (exfalso; first | omega | (simp only [List.length_nil, List.length_cons] at hc; omega)))) | (refine And.intro ?_ ?_; focus omega) | (refine And.intro ?_ ?_; focus (simp only [List.length_map, List.length_set, List.length_replicate, List.length_append, List.length_range, List.length_cons, List.length_nil, Nat.blt_eq, Nat.ble_eq]; omega)) | refine anyB fun b => ?_ | refine got (nth_rowI rfl) ?_ | refine got (nth_row0 rfl) ?_ | refine got (nth_row2 rfl) ?_ | refine And.intro (keepS (by decide +kernel)) ?_ | refine And.intro keepR ?_ | refine RunD.done (by decide +kernel) ?_ | refine tk 0 rfl (by decide +kernel) ?_ | refine tk 1 rfl (by decide +kernel) ?_ | refine tk 2 rfl (by decide +kernel) ?_ | refine tk 3 rfl (by decide +kernel) ?_ | refine ef 4 (by decide +kernel) rfl ?_ | refine tk 5 rfl (by decide +kernel) ?_ | refine tk 6 rfl (by decide +kernel) ?_ | refine tk 7 rfl (by decide +kernel) ?_ | refine tk 8 rfl (by decide +kernel) ?_ | refine tk 9 rfl (by decide +kernel) ?_ | refine ef 10 (by decide +kernel) rfl ?_ | refine tk 11 rfl (by decide +kernel) ?_ | fail)
        repeat' (first | refine step ?_ | refine knowI fun hk => ?_ | refine got rfl ?_ | refine And.intro rfl ?_ | (refine And.intro (fun hc => ?_) (fun hc => ?_) <;> (try (exfalso; first | omega | (simp only [List.length_nil, List.length_cons] at hc; omega)))) | (refine And.intro ?_ ?_; focus omega) | (refine And.intro ?_ ?_; focus (simp only [List.length_map, List.length_set, List.length_replicate, List.length_append, List.length_range, List.length_cons, List.length_nil, Nat.blt_eq, Nat.ble_eq]; omega)) | refine anyB fun b => ?_ | refine got (nth_rowI rfl) ?_ | refine got (nth_row0 rfl) ?_ | refine got (nth_row2 rfl) ?_ | fail)
        refine Run.ent (Ent.trans ((Ent.perm (.swap _ _ _)).trans ((fsl_mk e2).trans (Ent.perm (.swap _ _ _)))) (fbld_close u _ _)) (ret1 Tryz.func163 rfl ?_)
        repeat' (first | refine step ?_ | refine knowI fun hk => ?_ | refine got rfl ?_ | refine And.intro rfl ?_ | (refine And.intro (fun hc => ?_) (fun hc => ?_) <;> (try (exfalso; first | omega | (simp only [List.length_nil, List.length_cons] at hc; omega)))) | (refine And.intro ?_ ?_; focus omega) | (refine And.intro ?_ ?_; focus (simp only [List.length_map, List.length_set, List.length_replicate, List.length_append, List.length_range, List.length_cons, List.length_nil, Nat.blt_eq, Nat.ble_eq]; omega)) | refine anyB fun b => ?_ | refine got (nth_rowI rfl) ?_ | refine got (nth_row0 rfl) ?_ | refine got (nth_row2 rfl) ?_ | fail)
        exact h
      · refine usSome (u := 5) (by kernel_rfl) (by kernel_rfl) (.there .here) hb hcut (by omega) ?_
        repeat' (first | refine step ?_ | refine knowI fun hk => ?_ | refine got rfl ?_ | refine And.intro rfl ?_ | (refine And.intro (fun hc => ?_) (fun hc => ?_) <;> (try (exfalso; first | omega | (simp only [List.length_nil, List.length_cons] at hc; omega)))) | (refine And.intro ?_ ?_; focus omega) | (refine And.intro ?_ ?_; focus (simp only [List.length_map, List.length_set, List.length_replicate, List.length_append, List.length_range, List.length_cons, List.length_nil, Nat.blt_eq, Nat.ble_eq]; omega)) | refine anyB fun b => ?_ | refine got (nth_rowI rfl) ?_ | refine got (nth_row0 rfl) ?_ | refine got (nth_row2 rfl) ?_ | refine And.intro (keepS (by decide +kernel)) ?_ | refine And.intro keepR ?_ | refine RunD.done (by decide +kernel) ?_ | refine tk 0 rfl (by decide +kernel) ?_ | refine tk 1 rfl (by decide +kernel) ?_ | refine tk 2 rfl (by decide +kernel) ?_ | refine tk 3 rfl (by decide +kernel) ?_ | refine ef 4 (by decide +kernel) rfl ?_ | refine tk 5 rfl (by decide +kernel) ?_ | refine tk 6 rfl (by decide +kernel) ?_ | refine tk 7 rfl (by decide +kernel) ?_ | refine tk 8 rfl (by decide +kernel) ?_ | refine tk 9 rfl (by decide +kernel) ?_ | refine ef 10 (by decide +kernel) rfl ?_ | refine tk 11 rfl (by decide +kernel) ?_ | fail)
        repeat' (first | refine step ?_ | refine knowI fun hk => ?_ | refine got rfl ?_ | refine And.intro rfl ?_ | (refine And.intro (fun hc => ?_) (fun hc => ?_) <;> (try (exfalso; first | omega | (simp only [List.length_nil, List.length_cons] at hc; omega)))) | (refine And.intro ?_ ?_; focus omega) | (refine And.intro ?_ ?_; focus (simp only [List.length_map, List.length_set, List.length_replicate, List.length_append, List.length_range, List.length_cons, List.length_nil, Nat.blt_eq, Nat.ble_eq]; omega)) | refine anyB fun b => ?_ | refine got (nth_rowI rfl) ?_ | refine got (nth_row0 rfl) ?_ | refine got (nth_row2 rfl) ?_ | fail)
        refine Run.ent (Ent.trans ((fsl_mk e2).trans (Ent.perm (.swap _ _ _))) (fbld_close u _ _)) (ret1 Tryz.func163 rfl ?_)
        repeat' (first | refine step ?_ | refine knowI fun hk => ?_ | refine got rfl ?_ | refine And.intro rfl ?_ | (refine And.intro (fun hc => ?_) (fun hc => ?_) <;> (try (exfalso; first | omega | (simp only [List.length_nil, List.length_cons] at hc; omega)))) | (refine And.intro ?_ ?_; focus omega) | (refine And.intro ?_ ?_; focus (simp only [List.length_map, List.length_set, List.length_replicate, List.length_append, List.length_range, List.length_cons, List.length_nil, Nat.blt_eq, Nat.ble_eq]; omega)) | refine anyB fun b => ?_ | refine got (nth_rowI rfl) ?_ | refine got (nth_row0 rfl) ?_ | refine got (nth_row2 rfl) ?_ | fail)
        exact h
end
end Go.Sl
