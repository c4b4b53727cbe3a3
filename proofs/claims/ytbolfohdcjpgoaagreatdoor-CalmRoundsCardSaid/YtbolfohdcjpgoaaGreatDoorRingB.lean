/- Nodes on a ring (package ring): Home. -/
import Derived.Test.YtbolfohdcjpgoaaGreatDoorRing
set_option linter.unusedSimpArgs false
set_option linter.unusedVariables false
set_option linter.unusedSectionVars false
open Go Go.RowKit
namespace Go.Sl
open Go.Proofs
instance {a b : Int} {n m : Nat} [h1 : NatC a n] [h2 : NatC b m] : NatR (a % b) (n % m) := ⟨by rw [h1.h, h2.h]; have := Int.natCast_emod n m; omega⟩
/-- a search by halves: the first place at which it is not so -/
def bsF (p : Nat → Bool) : Nat → Nat → Nat → Nat
  | 0, i, _ => i
  | f + 1, i, j => if i < j then (if p ((i + j) / 2) then bsF p f ((i + j) / 2 + 1) j else bsF p f i ((i + j) / 2)) else i
theorem bsF_fuel (p : Nat → Bool) : ∀ (f f' i j : Nat), j - i ≤ f → j - i ≤ f' → bsF p f i j = bsF p f' i j
  | 0, 0, i, j, _, _ => rfl
  | 0, f' + 1, i, j, h, _ => by rw [bsF, bsF, if_neg (by omega)]
  | f + 1, 0, i, j, _, h => by rw [bsF, bsF, if_neg (by omega)]
  | f + 1, f' + 1, i, j, h, h' => by
    rw [bsF, bsF]
    by_cases hij : i < j
    · rw [if_pos hij, if_pos hij, bsF_fuel p f f' _ j (by omega) (by omega), bsF_fuel p f f' i _ (by omega) (by omega)]
    · rw [if_neg hij, if_neg hij]
def bs (p : Nat → Bool) (i j : Nat) : Nat := bsF p (j - i) i j
theorem bs_step (p : Nat → Bool) {i j : Nat} (h : i < j) : bs p i j = if p ((i + j) / 2) then bs p ((i + j) / 2 + 1) j else bs p i ((i + j) / 2) := by
  unfold bs
  rw [bsF_fuel p (j - i) (j - i - 1 + 1) i j (by omega) (by omega), bsF, if_pos h, bsF_fuel p (j - i - 1) (j - ((i + j) / 2 + 1)) _ j (by omega) (by omega), bsF_fuel p (j - i - 1) ((i + j) / 2 - i) i _ (by omega) (by omega)]
theorem bs_done (p : Nat → Bool) {i j : Nat} (h : ¬ i < j) : bs p i j = i := by
  unfold bs; rw [show j - i = 0 by omega]; rfl
theorem bs_le (p : Nat → Bool) : ∀ (f i j : Nat), i ≤ j → i ≤ bsF p f i j ∧ bsF p f i j ≤ j
  | 0, i, j, h => ⟨Nat.le_refl _, h⟩
  | f + 1, i, j, h => by
    rw [bsF]
    by_cases hij : i < j
    · rw [if_pos hij]
      by_cases hp : p ((i + j) / 2) = true
      · rw [if_pos hp]; have := bs_le p f ((i + j) / 2 + 1) j (by omega); omega
      · rw [if_neg hp]; have := bs_le p f i ((i + j) / 2) (by omega); omega
    · rw [if_neg hij]; omega
section
variable {w0 : World} {l F F1 : HL} {K : Value → HL → Prop}
theorem homeCmp_spec {x : Place} {s : Int} (h : K (iv (cmpI x.1 s)) l) : CallG Tryz.prog w0 241 [.agg (placeRow x).toArray, iv s].toArray l K := by
  refine CallG.weak (CallG.enter Tryz.func241 rfl rfl fun cs => ?_)
  repeat' (first | refine step ?_ | refine knowI fun hk => ?_ | refine got rfl ?_ | refine And.intro rfl ?_ | (refine And.intro (fun hc => ?_) (fun hc => ?_) <;> (try (exfalso; first | omega | (simp only [List.length_nil, List.length_cons] at hc; omega)))) | (refine And.intro ?_ ?_; focus omega) | (refine And.intro ?_ ?_; focus (simp only [List.length_map, List.length_set, List.length_replicate, List.length_append, List.length_range, List.length_cons, List.length_nil, Nat.blt_eq, Nat.ble_eq]; omega)) | refine anyB fun b => ?_ | refine got (nth_rowI rfl) ?_ | refine got (nth_row0 rfl) ?_ | refine got (nth_row2 rfl) ?_ | fail)
  refine Compare_spec ?_
  repeat' (first | refine step ?_ | refine knowI fun hk => ?_ | refine got rfl ?_ | refine And.intro rfl ?_ | (refine And.intro (fun hc => ?_) (fun hc => ?_) <;> (try (exfalso; first | omega | (simp only [List.length_nil, List.length_cons] at hc; omega)))) | (refine And.intro ?_ ?_; focus omega) | (refine And.intro ?_ ?_; focus (simp only [List.length_map, List.length_set, List.length_replicate, List.length_append, List.length_range, List.length_cons, List.length_nil, Nat.blt_eq, Nat.ble_eq]; omega)) | refine anyB fun b => ?_ | refine got (nth_rowI rfl) ?_ | refine got (nth_row0 rfl) ?_ | refine got (nth_row2 rfl) ?_ | fail)
  refine retG Tryz.func241 rfl ?_
  repeat' (first | refine step ?_ | refine knowI fun hk => ?_ | refine got rfl ?_ | refine And.intro rfl ?_ | (refine And.intro (fun hc => ?_) (fun hc => ?_) <;> (try (exfalso; first | omega | (simp only [List.length_nil, List.length_cons] at hc; omega)))) | (refine And.intro ?_ ?_; focus omega) | (refine And.intro ?_ ?_; focus (simp only [List.length_map, List.length_set, List.length_replicate, List.length_append, List.length_range, List.length_cons, List.length_nil, Nat.blt_eq, Nat.ble_eq]; omega)) | refine anyB fun b => ?_ | refine got (nth_rowI rfl) ?_ | refine got (nth_row0 rfl) ?_ | refine got (nth_row2 rfl) ?_ | fail)
  exact Wk.mk (Ent.drop (.refl _)) h
/-- the place from which a spot on is -/
def spotAt (pl : List Place) (s : Int) : Nat := bs (fun k => decide ((pl.getD k (0, 0)).1 < s)) 0 pl.length
set_option maxRecDepth 8000 in
theorem Search_spec {pl : List Place} {v : Value} {s : Int} (hn : pl.length ≤ 1000000) (hp : Rem l (SlR v 351 2 pl.length (pl.flatMap placeRow)) F)
    (h : ∀ b, K (.tuple #[iv (spotAt pl s), .bool b]) (SlR v 351 2 pl.length (pl.flatMap placeRow) :: F)) :
    CallG Tryz.prog w0 240 [v, iv s, .func (.func 241) #[] #[]].toArray l K := by
  refine CallG.ent hp.ent ?_
  refine CallG.weak (CallG.enter Tryz.func240 rfl rfl fun cs => ?_)
  refine Run.know (p := ∃ a cap, v = .slice a pl.length cap) (fun w hs => (slr_len hs).2) ?_
  rintro ⟨a, cap, rfl⟩
  repeat' (first | refine step ?_ | refine knowI fun hk => ?_ | refine got rfl ?_ | refine And.intro rfl ?_ | (refine And.intro (fun hc => ?_) (fun hc => ?_) <;> (try (exfalso; first | omega | (simp only [List.length_nil, List.length_cons] at hc; omega)))) | (refine And.intro ?_ ?_; focus omega) | (refine And.intro ?_ ?_; focus (simp only [List.length_map, List.length_set, List.length_replicate, List.length_append, List.length_range, List.length_cons, List.length_nil, Nat.blt_eq, Nat.ble_eq]; omega)) | refine anyB fun b => ?_ | refine got (nth_rowI rfl) ?_ | refine got (nth_row0 rfl) ?_ | refine got (nth_row2 rfl) ?_ | fail)
  refine Run.loop (fun x : Nat × Nat => [(0, .slice a pl.length cap), (1, iv s), (2, .func (.func 241) #[] #[]), (8, .int .i64 pl.length), (9, .int .i64 x.1), (10, .int .i64 x.2)])
    (fun _ => SlR (.slice a pl.length cap) 351 2 pl.length (pl.flatMap placeRow) :: F) (fun x => x.1 ≤ x.2 ∧ x.2 ≤ pl.length ∧ spotAt pl s = bs (fun k => decide ((pl.getD k (0, 0)).1 < s)) x.1 x.2) (fun x => x.2 - x.1) (0, pl.length) ⟨Nat.zero_le _, Nat.le_refl _, rfl⟩ (by repeat (first | exact Sub.nil _ | refine Sub.cons rfl ?_ | refine Sub.ci rfl (by omega) ?_)) fin ?_
  rintro ⟨i, j⟩ ⟨h1, h2, h3⟩ ih
  dsimp only at h1 h2 h3 ih ⊢
  by_cases hij : i < j
  · have hm : (i + j) / 2 < pl.length := by omega
    haveI : RowAt pl ((i + j) / 2) pl[(i + j) / 2] := ⟨List.getElem?_eq_getElem hm⟩
    rw [bs_step _ hij] at h3
    have e1 : (pl.getD ((i + j) / 2) (0, 0)) = pl[(i + j) / 2] := by rw [List.getD_eq_getElem?_getD, List.getElem?_eq_getElem hm]; rfl
    rw [e1] at h3
    refine openSl (.slice a pl.length cap) (fun _ h0 _ => by omega) fun bl pre junk cap' hv hcap hjunk hlen => ?_
    obtain ⟨rfl, rfl⟩ : a = some ⟨bl, pre.length, none⟩ ∧ cap = cap' := by simpa using hv
    repeat' (first | refine step ?_ | refine knowI fun hk => ?_ | refine got rfl ?_ | refine And.intro rfl ?_ | (refine And.intro (fun hc => ?_) (fun hc => ?_) <;> (try (exfalso; first | omega | (simp only [List.length_nil, List.length_cons] at hc; omega)))) | (refine And.intro ?_ ?_; focus omega) | (refine And.intro ?_ ?_; focus (simp only [List.length_map, List.length_set, List.length_replicate, List.length_append, List.length_range, List.length_cons, List.length_nil, Nat.blt_eq, Nat.ble_eq]; omega)) | refine anyB fun b => ?_ | refine got (nth_rowI rfl) ?_ | refine got (nth_row0 rfl) ?_ | refine got (nth_row2 rfl) ?_ | fail)
    refine homeCmp_spec ?_
    repeat' (first | refine step ?_ | refine knowI fun hk => ?_ | refine got rfl ?_ | refine And.intro rfl ?_ | (refine And.intro (fun hc => ?_) (fun hc => ?_) <;> (try (exfalso; first | omega | (simp only [List.length_nil, List.length_cons] at hc; omega)))) | (refine And.intro ?_ ?_; focus omega) | (refine And.intro ?_ ?_; focus (simp only [List.length_map, List.length_set, List.length_replicate, List.length_append, List.length_range, List.length_cons, List.length_nil, Nat.blt_eq, Nat.ble_eq]; omega)) | refine anyB fun b => ?_ | refine got (nth_rowI rfl) ?_ | refine got (nth_row0 rfl) ?_ | refine got (nth_row2 rfl) ?_ | fail)
    · rw [cmpI_lt] at hc
      rw [decide_eq_true hc, if_pos rfl] at h3
      refine Run.sub ?_ (Run.ent ?_ (ih ((i + j) / 2 + 1, j) ⟨by dsimp only; omega, h2, h3⟩ (by dsimp only; omega)))
      · exact (by repeat (first | exact Sub.nil _ | refine Sub.cons rfl ?_ | refine Sub.ci rfl (by omega) ?_))
      · exact foldSl bl pre junk hlen hcap hjunk
    · rw [cmpI_lt] at hc
      rw [decide_eq_false hc, if_neg (by simp)] at h3
      refine Run.sub ?_ (Run.ent ?_ (ih (i, (i + j) / 2) ⟨by dsimp only; omega, by dsimp only; omega, h3⟩ (by dsimp only; omega)))
      · exact (by repeat (first | exact Sub.nil _ | refine Sub.cons rfl ?_ | refine Sub.ci rfl (by omega) ?_))
      · exact foldSl bl pre junk hlen hcap hjunk
  · rw [bs_done _ hij] at h3
    have e2 : i = j := by omega
    by_cases hi : i < pl.length
    · haveI : RowAt pl i pl[i] := ⟨List.getElem?_eq_getElem hi⟩
      refine openSl (.slice a pl.length cap) (fun _ h0 _ => by omega) fun bl pre junk cap' hv hcap hjunk hlen => ?_
      obtain ⟨rfl, rfl⟩ : a = some ⟨bl, pre.length, none⟩ ∧ cap = cap' := by simpa using hv
      repeat' (first | refine step ?_ | refine knowI fun hk => ?_ | refine got rfl ?_ | refine And.intro rfl ?_ | (refine And.intro (fun hc => ?_) (fun hc => ?_) <;> (try (exfalso; first | omega | (simp only [List.length_nil, List.length_cons] at hc; omega)))) | (refine And.intro ?_ ?_; focus omega) | (refine And.intro ?_ ?_; focus (simp only [List.length_map, List.length_set, List.length_replicate, List.length_append, List.length_range, List.length_cons, List.length_nil, Nat.blt_eq, Nat.ble_eq]; omega)) | refine anyB fun b => ?_ | refine got (nth_rowI rfl) ?_ | refine got (nth_row0 rfl) ?_ | refine got (nth_row2 rfl) ?_ | fail)
      refine homeCmp_spec ?_
      repeat' (first | refine step ?_ | refine knowI fun hk => ?_ | refine got rfl ?_ | refine And.intro rfl ?_ | (refine And.intro (fun hc => ?_) (fun hc => ?_) <;> (try (exfalso; first | omega | (simp only [List.length_nil, List.length_cons] at hc; omega)))) | (refine And.intro ?_ ?_; focus omega) | (refine And.intro ?_ ?_; focus (simp only [List.length_map, List.length_set, List.length_replicate, List.length_append, List.length_range, List.length_cons, List.length_nil, Nat.blt_eq, Nat.ble_eq]; omega)) | refine anyB fun b => ?_ | refine got (nth_rowI rfl) ?_ | refine got (nth_row0 rfl) ?_ | refine got (nth_row2 rfl) ?_ | fail)
      refine retG Tryz.func240 rfl ?_
      repeat' (first | refine step ?_ | refine knowI fun hk => ?_ | refine got rfl ?_ | refine And.intro rfl ?_ | (refine And.intro (fun hc => ?_) (fun hc => ?_) <;> (try (exfalso; first | omega | (simp only [List.length_nil, List.length_cons] at hc; omega)))) | (refine And.intro ?_ ?_; focus omega) | (refine And.intro ?_ ?_; focus (simp only [List.length_map, List.length_set, List.length_replicate, List.length_append, List.length_range, List.length_cons, List.length_nil, Nat.blt_eq, Nat.ble_eq]; omega)) | refine anyB fun b => ?_ | refine got (nth_rowI rfl) ?_ | refine got (nth_row0 rfl) ?_ | refine got (nth_row2 rfl) ?_ | fail)
      rw [h3] at h
      exact Wk.mk (foldSl bl pre junk hlen hcap hjunk) (h _)
    · repeat' (first | refine step ?_ | refine knowI fun hk => ?_ | refine got rfl ?_ | refine And.intro rfl ?_ | (refine And.intro (fun hc => ?_) (fun hc => ?_) <;> (try (exfalso; first | omega | (simp only [List.length_nil, List.length_cons] at hc; omega)))) | (refine And.intro ?_ ?_; focus omega) | (refine And.intro ?_ ?_; focus (simp only [List.length_map, List.length_set, List.length_replicate, List.length_append, List.length_range, List.length_cons, List.length_nil, Nat.blt_eq, Nat.ble_eq]; omega)) | refine anyB fun b => ?_ | refine got (nth_rowI rfl) ?_ | refine got (nth_row0 rfl) ?_ | refine got (nth_row2 rfl) ?_ | fail)
      refine retG Tryz.func240 rfl ?_
      repeat' (first | refine step ?_ | refine knowI fun hk => ?_ | refine got rfl ?_ | refine And.intro rfl ?_ | (refine And.intro (fun hc => ?_) (fun hc => ?_) <;> (try (exfalso; first | omega | (simp only [List.length_nil, List.length_cons] at hc; omega)))) | (refine And.intro ?_ ?_; focus omega) | (refine And.intro ?_ ?_; focus (simp only [List.length_map, List.length_set, List.length_replicate, List.length_append, List.length_range, List.length_cons, List.length_nil, Nat.blt_eq, Nat.ble_eq]; omega)) | refine anyB fun b => ?_ | refine got (nth_rowI rfl) ?_ | refine got (nth_row0 rfl) ?_ | refine got (nth_row2 rfl) ?_ | fail)
      rw [h3] at h
      exact Wk.mk fin (h _)
theorem rgiven_spec {r mb : Nat} {v : Value} (hp : Rem l (cells r [.bool true, .map (some mb), v] 348) F) (h : K (.bool true) (cells r [.bool true, .map (some mb), v] 348 :: F)) :
    CallG Tryz.prog w0 216 [pt r].toArray l K := by
  refine CallG.ent hp.ent ?_
  refine CallG.enter Tryz.func216 rfl rfl fun cs => ?_
  repeat' (first | refine step ?_ | refine knowI fun hk => ?_ | refine got rfl ?_ | refine And.intro rfl ?_ | (refine And.intro (fun hc => ?_) (fun hc => ?_) <;> (try (exfalso; first | omega | (simp only [List.length_nil, List.length_cons] at hc; omega)))) | (refine And.intro ?_ ?_; focus omega) | (refine And.intro ?_ ?_; focus (simp only [List.length_map, List.length_set, List.length_replicate, List.length_append, List.length_range, List.length_cons, List.length_nil, Nat.blt_eq, Nat.ble_eq]; omega)) | refine anyB fun b => ?_ | refine got (nth_rowI rfl) ?_ | refine got (nth_row0 rfl) ?_ | refine got (nth_row2 rfl) ?_ | fail)
  refine retG Tryz.func216 rfl ?_
  repeat' (first | refine step ?_ | refine knowI fun hk => ?_ | refine got rfl ?_ | refine And.intro rfl ?_ | (refine And.intro (fun hc => ?_) (fun hc => ?_) <;> (try (exfalso; first | omega | (simp only [List.length_nil, List.length_cons] at hc; omega)))) | (refine And.intro ?_ ?_; focus omega) | (refine And.intro ?_ ?_; focus (simp only [List.length_map, List.length_set, List.length_replicate, List.length_append, List.length_range, List.length_cons, List.length_nil, Nat.blt_eq, Nat.ble_eq]; omega)) | refine anyB fun b => ?_ | refine got (nth_rowI rfl) ?_ | refine got (nth_row0 rfl) ?_ | refine got (nth_row2 rfl) ?_ | fail)
  exact h
/-- the node of a spot -/
def homeOf (pl : List Place) (s : Int) : Int := (pl.getD (spotAt pl s % pl.length) (0, 0)).2
theorem spotAt_le (pl : List Place) (s : Int) : spotAt pl s ≤ pl.length := (bs_le _ _ 0 pl.length (Nat.zero_le _)).2
set_option maxRecDepth 8000 in
theorem Home_spec {r : Nat} {ns : List Int} {pl : List Place} {s : Int} (h0 : 0 ≤ s) (h1 : s < 16777216) (hn : pl.length ≤ 1000000) (hpos : 0 < pl.length) (hp : Rem l (RingA r ns pl) F)
    (h : K (.tuple #[iv (homeOf pl s), .int .i64 0]) (RingA r ns pl :: F)) : CallG Tryz.prog w0 217 [pt r, iv s].toArray l K := by
  have hsl := spotAt_le pl s
  refine ring_open hp fun mb a cap => ?_
  refine CallG.weak (CallG.enter Tryz.func217 rfl rfl fun cs => ?_)
  repeat' (first | refine step ?_ | refine knowI fun hk => ?_ | refine got rfl ?_ | refine And.intro rfl ?_ | (refine And.intro (fun hc => ?_) (fun hc => ?_) <;> (try (exfalso; first | omega | (simp only [List.length_nil, List.length_cons] at hc; omega)))) | (refine And.intro ?_ ?_; focus omega) | (refine And.intro ?_ ?_; focus (simp only [List.length_map, List.length_set, List.length_replicate, List.length_append, List.length_range, List.length_cons, List.length_nil, Nat.blt_eq, Nat.ble_eq]; omega)) | refine anyB fun b => ?_ | refine got (nth_rowI rfl) ?_ | refine got (nth_row0 rfl) ?_ | refine got (nth_row2 rfl) ?_ | fail)
  refine rgiven_spec .here ?_
  repeat' (first | refine step ?_ | refine knowI fun hk => ?_ | refine got rfl ?_ | refine And.intro rfl ?_ | (refine And.intro (fun hc => ?_) (fun hc => ?_) <;> (try (exfalso; first | omega | (simp only [List.length_nil, List.length_cons] at hc; omega)))) | (refine And.intro ?_ ?_; focus omega) | (refine And.intro ?_ ?_; focus (simp only [List.length_map, List.length_set, List.length_replicate, List.length_append, List.length_range, List.length_cons, List.length_nil, Nat.blt_eq, Nat.ble_eq]; omega)) | refine anyB fun b => ?_ | refine got (nth_rowI rfl) ?_ | refine got (nth_row0 rfl) ?_ | refine got (nth_row2 rfl) ?_ | fail)
  refine Search_spec hn (.there (.there .here)) fun found => ?_
  repeat' (first | refine step ?_ | refine knowI fun hk => ?_ | refine got rfl ?_ | refine And.intro rfl ?_ | (refine And.intro (fun hc => ?_) (fun hc => ?_) <;> (try (exfalso; first | omega | (simp only [List.length_nil, List.length_cons] at hc; omega)))) | (refine And.intro ?_ ?_; focus omega) | (refine And.intro ?_ ?_; focus (simp only [List.length_map, List.length_set, List.length_replicate, List.length_append, List.length_range, List.length_cons, List.length_nil, Nat.blt_eq, Nat.ble_eq]; omega)) | refine anyB fun b => ?_ | refine got (nth_rowI rfl) ?_ | refine got (nth_row0 rfl) ?_ | refine got (nth_row2 rfl) ?_ | fail)
  have hm : spotAt pl s % pl.length < pl.length := Nat.mod_lt _ hpos
  haveI : RowAt pl (spotAt pl s % pl.length) pl[spotAt pl s % pl.length] := ⟨List.getElem?_eq_getElem hm⟩
  refine openSl (.slice a pl.length cap) (fun _ h0 _ => by omega) fun bl pre junk cap' hv hcap hjunk hlen => ?_
  obtain ⟨rfl, rfl⟩ : a = some ⟨bl, pre.length, none⟩ ∧ cap = cap' := by simpa using hv
  refine Run.drawI [0, 1] rfl ?_
  repeat' (first | refine step ?_ | refine knowI fun hk => ?_ | refine got rfl ?_ | refine And.intro rfl ?_ | (refine And.intro (fun hc => ?_) (fun hc => ?_) <;> (try (exfalso; first | omega | (simp only [List.length_nil, List.length_cons] at hc; omega)))) | (refine And.intro ?_ ?_; focus omega) | (refine And.intro ?_ ?_; focus (simp only [List.length_map, List.length_set, List.length_replicate, List.length_append, List.length_range, List.length_cons, List.length_nil, Nat.blt_eq, Nat.ble_eq]; omega)) | refine anyB fun b => ?_ | refine got (nth_rowI rfl) ?_ | refine got (nth_row0 rfl) ?_ | refine got (nth_row2 rfl) ?_ | refine And.intro (keepS (by decide +kernel)) ?_ | refine And.intro keepR ?_ | refine RunD.done (by decide +kernel) ?_ | refine tk 0 rfl (by decide +kernel) ?_ | refine tk 1 rfl (by decide +kernel) ?_ | refine tk 2 rfl (by decide +kernel) ?_ | refine tk 3 rfl (by decide +kernel) ?_ | refine tk 4 rfl (by decide +kernel) ?_ | refine tk 5 rfl (by decide +kernel) ?_ | refine tk 6 rfl (by decide +kernel) ?_ | refine tk 7 rfl (by decide +kernel) ?_ | refine tk 8 rfl (by decide +kernel) ?_ | refine tk 9 rfl (by decide +kernel) ?_ | refine tk 10 rfl (by decide +kernel) ?_ | refine tk 11 rfl (by decide +kernel) ?_ | refine tk 12 rfl (by decide +kernel) ?_ | refine tk 13 rfl (by decide +kernel) ?_ | refine tk 14 rfl (by decide +kernel) ?_ | refine tk 15 rfl (by decide +kernel) ?_ | fail)
  repeat' (first | refine step ?_ | refine knowI fun hk => ?_ | refine got rfl ?_ | refine And.intro rfl ?_ | (refine And.intro (fun hc => ?_) (fun hc => ?_) <;> (try (exfalso; first | omega | (simp only [List.length_nil, List.length_cons] at hc; omega)))) | (refine And.intro ?_ ?_; focus omega) | (refine And.intro ?_ ?_; focus (simp only [List.length_map, List.length_set, List.length_replicate, List.length_append, List.length_range, List.length_cons, List.length_nil, Nat.blt_eq, Nat.ble_eq]; omega)) | refine anyB fun b => ?_ | refine got (nth_rowI rfl) ?_ | refine got (nth_row0 rfl) ?_ | refine got (nth_row2 rfl) ?_ | fail)
  refine retG Tryz.func217 rfl ?_
  repeat' (first | refine step ?_ | refine knowI fun hk => ?_ | refine got rfl ?_ | refine And.intro rfl ?_ | (refine And.intro (fun hc => ?_) (fun hc => ?_) <;> (try (exfalso; first | omega | (simp only [List.length_nil, List.length_cons] at hc; omega)))) | (refine And.intro ?_ ?_; focus omega) | (refine And.intro ?_ ?_; focus (simp only [List.length_map, List.length_set, List.length_replicate, List.length_append, List.length_range, List.length_cons, List.length_nil, Nat.blt_eq, Nat.ble_eq]; omega)) | refine anyB fun b => ?_ | refine got (nth_rowI rfl) ?_ | refine got (nth_row0 rfl) ?_ | refine got (nth_row2 rfl) ?_ | fail)
  have e1 : homeOf pl s = pl[spotAt pl s % pl.length].2 := by unfold homeOf; rw [List.getD_eq_getElem?_getD, List.getElem?_eq_getElem hm]; rfl
  rw [e1] at h
  exact Wk.mk (Ent.trans (foldSl bl pre junk hlen hcap hjunk) (Ent.trans (b := RingR r mb ns (some ⟨bl, pre.length, none⟩) cap pl F) fin (ring_close _ cap))) h
theorem Home_none {r : Nat} {ns : List Int} {s : Int} (h0 : 0 ≤ s) (h1 : s < 16777216) (hp : Rem l (RingA r ns []) F)
    (h : K (.tuple #[iv 0, .int .i64 3]) (RingA r ns [] :: F)) : CallG Tryz.prog w0 217 [pt r, iv s].toArray l K := by
  refine ring_open hp fun mb a cap => ?_
  refine CallG.weak (CallG.enter Tryz.func217 rfl rfl fun cs => ?_)
  repeat' (first | refine step ?_ | refine knowI fun hk => ?_ | refine got rfl ?_ | refine And.intro rfl ?_ | (refine And.intro (fun hc => ?_) (fun hc => ?_) <;> (try (exfalso; first | omega | (simp only [List.length_nil, List.length_cons] at hc; omega)))) | (refine And.intro ?_ ?_; focus omega) | (refine And.intro ?_ ?_; focus (simp only [List.length_map, List.length_set, List.length_replicate, List.length_append, List.length_range, List.length_cons, List.length_nil, Nat.blt_eq, Nat.ble_eq]; omega)) | refine anyB fun b => ?_ | refine got (nth_rowI rfl) ?_ | refine got (nth_row0 rfl) ?_ | refine got (nth_row2 rfl) ?_ | fail)
  refine rgiven_spec .here ?_
  repeat' (first | refine step ?_ | refine knowI fun hk => ?_ | refine got rfl ?_ | refine And.intro rfl ?_ | (refine And.intro (fun hc => ?_) (fun hc => ?_) <;> (try (exfalso; first | omega | (simp only [List.length_nil, List.length_cons] at hc; omega)))) | (refine And.intro ?_ ?_; focus omega) | (refine And.intro ?_ ?_; focus (simp only [List.length_map, List.length_set, List.length_replicate, List.length_append, List.length_range, List.length_cons, List.length_nil, Nat.blt_eq, Nat.ble_eq]; omega)) | refine anyB fun b => ?_ | refine got (nth_rowI rfl) ?_ | refine got (nth_row0 rfl) ?_ | refine got (nth_row2 rfl) ?_ | fail)
  refine retG Tryz.func217 rfl ?_
  repeat' (first | refine step ?_ | refine knowI fun hk => ?_ | refine got rfl ?_ | refine And.intro rfl ?_ | (refine And.intro (fun hc => ?_) (fun hc => ?_) <;> (try (exfalso; first | omega | (simp only [List.length_nil, List.length_cons] at hc; omega)))) | (refine And.intro ?_ ?_; focus omega) | (refine And.intro ?_ ?_; focus (simp only [List.length_map, List.length_set, List.length_replicate, List.length_append, List.length_range, List.length_cons, List.length_nil, Nat.blt_eq, Nat.ble_eq]; omega)) | refine anyB fun b => ?_ | refine got (nth_rowI rfl) ?_ | refine got (nth_row0 rfl) ?_ | refine got (nth_row2 rfl) ?_ | fail)
  exact Wk.mk (Ent.trans (b := RingR r mb ns a cap [] F) fin (ring_close a cap)) h
end
end Go.Sl
/- Nodes on a ring (package ring): Shards; the first chart (package chart). -/
open Go Go.RowKit
namespace Go.Sl
open Go.Proofs
def shardB : List UInt8 := [115, 104, 97, 114, 100]
def shardsOf (pl : List Place) (many : Nat) (k : Nat) : List Int := (List.range k).map fun (s : Nat) => homeOf pl (spot shardB s many)
theorem shardsOf_length (pl : List Place) (many k : Nat) : (shardsOf pl many k).length = k := by simp [shardsOf]
theorem shardsOf_succ (pl : List Place) (many k : Nat) : shardsOf pl many (k + 1) = shardsOf pl many k ++ [homeOf pl (spot shardB k many)] := by simp [shardsOf, List.range_succ]
section
variable {w0 : World} {l F F1 : HL} {K : Value → HL → Prop}
theorem Shards_bad {r : Nat} {ns : List Int} {pl : List Place} {many : Int} (hm : many < 1 ∨ 16 < many) (hp : Rem l (RingA r ns pl) F) (h : K (.tuple #[.slice none 0 0, .int .i64 1]) (RingA r ns pl :: F)) :
    CallG Tryz.prog w0 181 [pt r, iv many].toArray l K := by
  refine ring_open hp fun mb a cap => ?_
  refine CallG.weak (CallG.enter Tryz.func181 rfl rfl fun cs => ?_)
  repeat' (first | refine step ?_ | refine knowI fun hk => ?_ | refine got rfl ?_ | refine And.intro rfl ?_ | (refine And.intro (fun hc => ?_) (fun hc => ?_) <;> (try (exfalso; first | omega | (simp only [List.length_nil, List.length_cons] at hc; omega)))) | (refine And.intro ?_ ?_; focus omega) | (refine And.intro ?_ ?_; focus (simp only [List.length_map, List.length_set, List.length_replicate, List.length_append, List.length_range, List.length_cons, List.length_nil, Nat.blt_eq, Nat.ble_eq]; omega)) | refine anyB fun b => ?_ | refine got (nth_rowI rfl) ?_ | refine got (nth_row0 rfl) ?_ | refine got (nth_row2 rfl) ?_ | fail)
  refine rgiven_spec .here ?_
  repeat' (first | refine step ?_ | refine knowI fun hk => ?_ | refine got rfl ?_ | refine And.intro rfl ?_ | (refine And.intro (fun hc => ?_) (fun hc => ?_) <;> (try (exfalso; first | omega | (simp only [List.length_nil, List.length_cons] at hc; omega)))) | (refine And.intro ?_ ?_; focus omega) | (refine And.intro ?_ ?_; focus (simp only [List.length_map, List.length_set, List.length_replicate, List.length_append, List.length_range, List.length_cons, List.length_nil, Nat.blt_eq, Nat.ble_eq]; omega)) | refine anyB fun b => ?_ | refine got (nth_rowI rfl) ?_ | refine got (nth_row0 rfl) ?_ | refine got (nth_row2 rfl) ?_ | fail)
  · refine retG Tryz.func181 rfl ?_
    repeat' (first | refine step ?_ | refine knowI fun hk => ?_ | refine got rfl ?_ | refine And.intro rfl ?_ | (refine And.intro (fun hc => ?_) (fun hc => ?_) <;> (try (exfalso; first | omega | (simp only [List.length_nil, List.length_cons] at hc; omega)))) | (refine And.intro ?_ ?_; focus omega) | (refine And.intro ?_ ?_; focus (simp only [List.length_map, List.length_set, List.length_replicate, List.length_append, List.length_range, List.length_cons, List.length_nil, Nat.blt_eq, Nat.ble_eq]; omega)) | refine anyB fun b => ?_ | refine got (nth_rowI rfl) ?_ | refine got (nth_row0 rfl) ?_ | refine got (nth_row2 rfl) ?_ | fail)
    exact Wk.mk (Ent.trans (b := RingR r mb ns a cap pl F) fin (ring_close a cap)) h
  · refine retG Tryz.func181 rfl ?_
    repeat' (first | refine step ?_ | refine knowI fun hk => ?_ | refine got rfl ?_ | refine And.intro rfl ?_ | (refine And.intro (fun hc => ?_) (fun hc => ?_) <;> (try (exfalso; first | omega | (simp only [List.length_nil, List.length_cons] at hc; omega)))) | (refine And.intro ?_ ?_; focus omega) | (refine And.intro ?_ ?_; focus (simp only [List.length_map, List.length_set, List.length_replicate, List.length_append, List.length_range, List.length_cons, List.length_nil, Nat.blt_eq, Nat.ble_eq]; omega)) | refine anyB fun b => ?_ | refine got (nth_rowI rfl) ?_ | refine got (nth_row0 rfl) ?_ | refine got (nth_row2 rfl) ?_ | fail)
    exact Wk.mk (Ent.trans (b := RingR r mb ns a cap pl F) fin (ring_close a cap)) h
theorem Shards_none [Laid w0] {r : Nat} {ns : List Int} {many : Nat} (hm : 1 ≤ many ∧ many ≤ 16) (hp : Rem l (RingA r ns []) F) (h : K (.tuple #[.slice none 0 0, .int .i64 3]) (RingA r ns [] :: F)) :
    CallG Tryz.prog w0 181 [pt r, iv many].toArray l K := by
  refine ring_open hp fun mb a cap => ?_
  refine CallG.weak (CallG.enter Tryz.func181 rfl rfl fun cs => ?_)
  repeat' (first | refine step ?_ | refine knowI fun hk => ?_ | refine got rfl ?_ | refine And.intro rfl ?_ | (refine And.intro (fun hc => ?_) (fun hc => ?_) <;> (try (exfalso; first | omega | (simp only [List.length_nil, List.length_cons] at hc; omega)))) | (refine And.intro ?_ ?_; focus omega) | (refine And.intro ?_ ?_; focus (simp only [List.length_map, List.length_set, List.length_replicate, List.length_append, List.length_range, List.length_cons, List.length_nil, Nat.blt_eq, Nat.ble_eq]; omega)) | refine anyB fun b => ?_ | refine got (nth_rowI rfl) ?_ | refine got (nth_row0 rfl) ?_ | refine got (nth_row2 rfl) ?_ | fail)
  refine rgiven_spec .here ?_
  repeat' (first | refine step ?_ | refine knowI fun hk => ?_ | refine got rfl ?_ | refine And.intro rfl ?_ | (refine And.intro (fun hc => ?_) (fun hc => ?_) <;> (try (exfalso; first | omega | (simp only [List.length_nil, List.length_cons] at hc; omega)))) | (refine And.intro ?_ ?_; focus omega) | (refine And.intro ?_ ?_; focus (simp only [List.length_map, List.length_set, List.length_replicate, List.length_append, List.length_range, List.length_cons, List.length_nil, Nat.blt_eq, Nat.ble_eq]; omega)) | refine anyB fun b => ?_ | refine got (nth_rowI rfl) ?_ | refine got (nth_row0 rfl) ?_ | refine got (nth_row2 rfl) ?_ | fail)
  refine Run.loop1 ?_
  repeat' (first | refine step ?_ | refine knowI fun hk => ?_ | refine got rfl ?_ | refine And.intro rfl ?_ | (refine And.intro (fun hc => ?_) (fun hc => ?_) <;> (try (exfalso; first | omega | (simp only [List.length_nil, List.length_cons] at hc; omega)))) | (refine And.intro ?_ ?_; focus omega) | (refine And.intro ?_ ?_; focus (simp only [List.length_map, List.length_set, List.length_replicate, List.length_append, List.length_range, List.length_cons, List.length_nil, Nat.blt_eq, Nat.ble_eq]; omega)) | refine anyB fun b => ?_ | refine got (nth_rowI rfl) ?_ | refine got (nth_row0 rfl) ?_ | refine got (nth_row2 rfl) ?_ | fail)
  refine Spot_spec (kind := shardB) (by simp [shardB]) (by omega) (by omega) (by omega) (by omega) ?_
  have hs := spot_lt shardB 0 many
  repeat' (first | refine step ?_ | refine knowI fun hk => ?_ | refine got rfl ?_ | refine And.intro rfl ?_ | (refine And.intro (fun hc => ?_) (fun hc => ?_) <;> (try (exfalso; first | omega | (simp only [List.length_nil, List.length_cons] at hc; omega)))) | (refine And.intro ?_ ?_; focus omega) | (refine And.intro ?_ ?_; focus (simp only [List.length_map, List.length_set, List.length_replicate, List.length_append, List.length_range, List.length_cons, List.length_nil, Nat.blt_eq, Nat.ble_eq]; omega)) | refine anyB fun b => ?_ | refine got (nth_rowI rfl) ?_ | refine got (nth_row0 rfl) ?_ | refine got (nth_row2 rfl) ?_ | fail)
  refine CallG.ent (Ent.trans (b := RingR r mb ns a cap [] F) fin (ring_close a cap)) ?_
  refine Home_none (by omega) (by omega) .here ?_
  repeat' (first | refine step ?_ | refine knowI fun hk => ?_ | refine got rfl ?_ | refine And.intro rfl ?_ | (refine And.intro (fun hc => ?_) (fun hc => ?_) <;> (try (exfalso; first | omega | (simp only [List.length_nil, List.length_cons] at hc; omega)))) | (refine And.intro ?_ ?_; focus omega) | (refine And.intro ?_ ?_; focus (simp only [List.length_map, List.length_set, List.length_replicate, List.length_append, List.length_range, List.length_cons, List.length_nil, Nat.blt_eq, Nat.ble_eq]; omega)) | refine anyB fun b => ?_ | refine got (nth_rowI rfl) ?_ | refine got (nth_row0 rfl) ?_ | refine got (nth_row2 rfl) ?_ | fail)
  refine retG Tryz.func181 rfl ?_
  repeat' (first | refine step ?_ | refine knowI fun hk => ?_ | refine got rfl ?_ | refine And.intro rfl ?_ | (refine And.intro (fun hc => ?_) (fun hc => ?_) <;> (try (exfalso; first | omega | (simp only [List.length_nil, List.length_cons] at hc; omega)))) | (refine And.intro ?_ ?_; focus omega) | (refine And.intro ?_ ?_; focus (simp only [List.length_map, List.length_set, List.length_replicate, List.length_append, List.length_range, List.length_cons, List.length_nil, Nat.blt_eq, Nat.ble_eq]; omega)) | refine anyB fun b => ?_ | refine got (nth_rowI rfl) ?_ | refine got (nth_row0 rfl) ?_ | refine got (nth_row2 rfl) ?_ | fail)
  exact Wk.mk fin h
set_option maxRecDepth 8000 in
theorem Shards_spec [Laid w0] {r : Nat} {ns : List Int} {pl : List Place} {many : Nat} (hm : 1 ≤ many ∧ many ≤ 16) (hn : pl.length ≤ 1000000) (hpos : 0 < pl.length) (hp : Rem l (RingA r ns pl) F)
    (h : ∀ a cap, K (.tuple #[.slice a many cap, .int .i64 0]) (Ints (.slice a many cap) (shardsOf pl many many) :: RingA r ns pl :: F)) :
    CallG Tryz.prog w0 181 [pt r, iv many].toArray l K := by
  refine ring_open hp fun mb a cap => ?_
  refine CallG.weak (CallG.enter Tryz.func181 rfl rfl fun cs => ?_)
  repeat' (first | refine step ?_ | refine knowI fun hk => ?_ | refine got rfl ?_ | refine And.intro rfl ?_ | (refine And.intro (fun hc => ?_) (fun hc => ?_) <;> (try (exfalso; first | omega | (simp only [List.length_nil, List.length_cons] at hc; omega)))) | (refine And.intro ?_ ?_; focus omega) | (refine And.intro ?_ ?_; focus (simp only [List.length_map, List.length_set, List.length_replicate, List.length_append, List.length_range, List.length_cons, List.length_nil, Nat.blt_eq, Nat.ble_eq]; omega)) | refine anyB fun b => ?_ | refine got (nth_rowI rfl) ?_ | refine got (nth_row0 rfl) ?_ | refine got (nth_row2 rfl) ?_ | fail)
  refine rgiven_spec .here ?_
  repeat' (first | refine step ?_ | refine knowI fun hk => ?_ | refine got rfl ?_ | refine And.intro rfl ?_ | (refine And.intro (fun hc => ?_) (fun hc => ?_) <;> (try (exfalso; first | omega | (simp only [List.length_nil, List.length_cons] at hc; omega)))) | (refine And.intro ?_ ?_; focus omega) | (refine And.intro ?_ ?_; focus (simp only [List.length_map, List.length_set, List.length_replicate, List.length_append, List.length_range, List.length_cons, List.length_nil, Nat.blt_eq, Nat.ble_eq]; omega)) | refine anyB fun b => ?_ | refine got (nth_rowI rfl) ?_ | refine got (nth_row0 rfl) ?_ | refine got (nth_row2 rfl) ?_ | fail)
  refine Run.loop (fun x : Nat × Option Addr × Nat => [(0, pt r), (1, iv many), (6, .slice x.2.1 x.1 x.2.2), (21, iv many), (22, .int .i64 x.1)])
    (fun x => SlR (.slice x.2.1 x.1 x.2.2) 3 1 x.1 ((shardsOf pl many x.1).map iv) :: RingA r ns pl :: F)
    (fun x => x.1 ≤ many) (fun x => many - x.1) (0, none, 0) (Nat.zero_le _) (by repeat (first | exact Sub.nil _ | refine Sub.cons rfl ?_ | refine Sub.ci rfl (by omega) ?_)) (Ent.trans (Ent.trans (b := RingR r mb ns a cap pl F) fin (ring_close a cap)) (slr_nil 3 1 _)) ?_
  rintro ⟨k, a', cap'⟩ hk ih
  dsimp only at hk ih ⊢
  by_cases hlt : k < many
  · have hs := spot_lt shardB k many
    repeat' (first | refine step ?_ | refine knowI fun hk => ?_ | refine got rfl ?_ | refine And.intro rfl ?_ | (refine And.intro (fun hc => ?_) (fun hc => ?_) <;> (try (exfalso; first | omega | (simp only [List.length_nil, List.length_cons] at hc; omega)))) | (refine And.intro ?_ ?_; focus omega) | (refine And.intro ?_ ?_; focus (simp only [List.length_map, List.length_set, List.length_replicate, List.length_append, List.length_range, List.length_cons, List.length_nil, Nat.blt_eq, Nat.ble_eq]; omega)) | refine anyB fun b => ?_ | refine got (nth_rowI rfl) ?_ | refine got (nth_row0 rfl) ?_ | refine got (nth_row2 rfl) ?_ | fail)
    refine Spot_spec (kind := shardB) (by simp [shardB]) (by omega) (by omega) (by omega) (by omega) ?_
    repeat' (first | refine step ?_ | refine knowI fun hk => ?_ | refine got rfl ?_ | refine And.intro rfl ?_ | (refine And.intro (fun hc => ?_) (fun hc => ?_) <;> (try (exfalso; first | omega | (simp only [List.length_nil, List.length_cons] at hc; omega)))) | (refine And.intro ?_ ?_; focus omega) | (refine And.intro ?_ ?_; focus (simp only [List.length_map, List.length_set, List.length_replicate, List.length_append, List.length_range, List.length_cons, List.length_nil, Nat.blt_eq, Nat.ble_eq]; omega)) | refine anyB fun b => ?_ | refine got (nth_rowI rfl) ?_ | refine got (nth_row0 rfl) ?_ | refine got (nth_row2 rfl) ?_ | fail)
    refine Home_spec (by omega) (by omega) hn hpos (.there .here) ?_
    repeat' (first | refine step ?_ | refine knowI fun hk => ?_ | refine got rfl ?_ | refine And.intro rfl ?_ | (refine And.intro (fun hc => ?_) (fun hc => ?_) <;> (try (exfalso; first | omega | (simp only [List.length_nil, List.length_cons] at hc; omega)))) | (refine And.intro ?_ ?_; focus omega) | (refine And.intro ?_ ?_; focus (simp only [List.length_map, List.length_set, List.length_replicate, List.length_append, List.length_range, List.length_cons, List.length_nil, Nat.blt_eq, Nat.ble_eq]; omega)) | refine anyB fun b => ?_ | refine got (nth_rowI rfl) ?_ | refine got (nth_row0 rfl) ?_ | refine got (nth_row2 rfl) ?_ | fail)
    refine appendG rfl (by decide) (by omega) fun a2 cp2 => ?_
    repeat' (first | refine step ?_ | refine knowI fun hk => ?_ | refine got rfl ?_ | refine And.intro rfl ?_ | (refine And.intro (fun hc => ?_) (fun hc => ?_) <;> (try (exfalso; first | omega | (simp only [List.length_nil, List.length_cons] at hc; omega)))) | (refine And.intro ?_ ?_; focus omega) | (refine And.intro ?_ ?_; focus (simp only [List.length_map, List.length_set, List.length_replicate, List.length_append, List.length_range, List.length_cons, List.length_nil, Nat.blt_eq, Nat.ble_eq]; omega)) | refine anyB fun b => ?_ | refine got (nth_rowI rfl) ?_ | refine got (nth_row0 rfl) ?_ | refine got (nth_row2 rfl) ?_ | fail)
    refine Run.sub ?_ (Run.ent ?_ (ih (k + 1, a2, cp2) (by dsimp only; omega) (by dsimp only; omega)))
    · exact (by repeat (first | exact Sub.nil _ | refine Sub.cons rfl ?_ | refine Sub.ci rfl (by omega) ?_))
    · dsimp only
      rw [shardsOf_succ, List.map_append, List.map_cons, List.map_nil]
      exact fin
  · obtain rfl : k = many := by omega
    repeat' (first | refine step ?_ | refine knowI fun hk => ?_ | refine got rfl ?_ | refine And.intro rfl ?_ | (refine And.intro (fun hc => ?_) (fun hc => ?_) <;> (try (exfalso; first | omega | (simp only [List.length_nil, List.length_cons] at hc; omega)))) | (refine And.intro ?_ ?_; focus omega) | (refine And.intro ?_ ?_; focus (simp only [List.length_map, List.length_set, List.length_replicate, List.length_append, List.length_range, List.length_cons, List.length_nil, Nat.blt_eq, Nat.ble_eq]; omega)) | refine anyB fun b => ?_ | refine got (nth_rowI rfl) ?_ | refine got (nth_row0 rfl) ?_ | refine got (nth_row2 rfl) ?_ | fail)
    refine retG Tryz.func181 rfl ?_
    repeat' (first | refine step ?_ | refine knowI fun hk => ?_ | refine got rfl ?_ | refine And.intro rfl ?_ | (refine And.intro (fun hc => ?_) (fun hc => ?_) <;> (try (exfalso; first | omega | (simp only [List.length_nil, List.length_cons] at hc; omega)))) | (refine And.intro ?_ ?_; focus omega) | (refine And.intro ?_ ?_; focus (simp only [List.length_map, List.length_set, List.length_replicate, List.length_append, List.length_range, List.length_cons, List.length_nil, Nat.blt_eq, Nat.ble_eq]; omega)) | refine anyB fun b => ?_ | refine got (nth_rowI rfl) ?_ | refine got (nth_row0 rfl) ?_ | refine got (nth_row2 rfl) ?_ | fail)
    have hh := h a' cap'
    unfold Ints at hh
    rw [shardsOf_length] at hh
    exact Wk.mk fin hh
/-- a chart's cells -/
abbrev chartRow (ep : Int) (v : Value) : List Value := [iv ep, v]
theorem homes_bad [Laid w0] {ns : List Int} {v : Value} {places : Nat} {many : Int} (hns : ∀ n ∈ ns, 0 ≤ n ∧ n < 8) (hnd : ns.Nodup) (hlen : ns.length ≤ 8) (hpl : 1 ≤ places ∧ places ≤ 64)
    (hbad : many < 1 ∨ 16 < many ∨ ns = []) (hp : Rem l (Ints v ns) F) (h : ∀ e : Int, e ≠ 0 → K (.tuple #[.slice none 0 0, .int .i64 e]) F) :
    CallG Tryz.prog w0 143 [v, .int .i64 places, iv many].toArray l K := by
  refine CallG.ent hp.ent ?_
  refine CallG.weak (CallG.enter Tryz.func143 rfl rfl fun cs => ?_)
  repeat' (first | refine step ?_ | refine knowI fun hk => ?_ | refine got rfl ?_ | refine And.intro rfl ?_ | (refine And.intro (fun hc => ?_) (fun hc => ?_) <;> (try (exfalso; first | omega | (simp only [List.length_nil, List.length_cons] at hc; omega)))) | (refine And.intro ?_ ?_; focus omega) | (refine And.intro ?_ ?_; focus (simp only [List.length_map, List.length_set, List.length_replicate, List.length_append, List.length_range, List.length_cons, List.length_nil, Nat.blt_eq, Nat.ble_eq]; omega)) | refine anyB fun b => ?_ | refine got (nth_rowI rfl) ?_ | refine got (nth_row0 rfl) ?_ | refine got (nth_row2 rfl) ?_ | fail)
  refine RingNew_spec hns hnd hlen hpl .here fun r pl hp1 hp2 => ?_
  repeat' (first | refine step ?_ | refine knowI fun hk => ?_ | refine got rfl ?_ | refine And.intro rfl ?_ | (refine And.intro (fun hc => ?_) (fun hc => ?_) <;> (try (exfalso; first | omega | (simp only [List.length_nil, List.length_cons] at hc; omega)))) | (refine And.intro ?_ ?_; focus omega) | (refine And.intro ?_ ?_; focus (simp only [List.length_map, List.length_set, List.length_replicate, List.length_append, List.length_range, List.length_cons, List.length_nil, Nat.blt_eq, Nat.ble_eq]; omega)) | refine anyB fun b => ?_ | refine got (nth_rowI rfl) ?_ | refine got (nth_row0 rfl) ?_ | refine got (nth_row2 rfl) ?_ | fail)
  by_cases hm : many < 1 ∨ 16 < many
  · refine Shards_bad hm .here ?_
    repeat' (first | refine step ?_ | refine knowI fun hk => ?_ | refine got rfl ?_ | refine And.intro rfl ?_ | (refine And.intro (fun hc => ?_) (fun hc => ?_) <;> (try (exfalso; first | omega | (simp only [List.length_nil, List.length_cons] at hc; omega)))) | (refine And.intro ?_ ?_; focus omega) | (refine And.intro ?_ ?_; focus (simp only [List.length_map, List.length_set, List.length_replicate, List.length_append, List.length_range, List.length_cons, List.length_nil, Nat.blt_eq, Nat.ble_eq]; omega)) | refine anyB fun b => ?_ | refine got (nth_rowI rfl) ?_ | refine got (nth_row0 rfl) ?_ | refine got (nth_row2 rfl) ?_ | fail)
    refine retG Tryz.func143 rfl ?_
    repeat' (first | refine step ?_ | refine knowI fun hk => ?_ | refine got rfl ?_ | refine And.intro rfl ?_ | (refine And.intro (fun hc => ?_) (fun hc => ?_) <;> (try (exfalso; first | omega | (simp only [List.length_nil, List.length_cons] at hc; omega)))) | (refine And.intro ?_ ?_; focus omega) | (refine And.intro ?_ ?_; focus (simp only [List.length_map, List.length_set, List.length_replicate, List.length_append, List.length_range, List.length_cons, List.length_nil, Nat.blt_eq, Nat.ble_eq]; omega)) | refine anyB fun b => ?_ | refine got (nth_rowI rfl) ?_ | refine got (nth_row0 rfl) ?_ | refine got (nth_row2 rfl) ?_ | fail)
    exact Wk.mk (Ent.drop (Ent.drop (.refl _))) (h 1 (by decide))
  · obtain ⟨m, rfl⟩ := Int.eq_ofNat_of_zero_le (show 0 ≤ many by omega)
    have hn : ns = [] := by
      rcases hbad with h1 | h1 | h1
      · omega
      · omega
      · exact h1
    have hpl0 : pl = [] := by rw [hn] at hp1; simpa using hp1
    subst hpl0
    refine Shards_none (by omega) .here ?_
    repeat' (first | refine step ?_ | refine knowI fun hk => ?_ | refine got rfl ?_ | refine And.intro rfl ?_ | (refine And.intro (fun hc => ?_) (fun hc => ?_) <;> (try (exfalso; first | omega | (simp only [List.length_nil, List.length_cons] at hc; omega)))) | (refine And.intro ?_ ?_; focus omega) | (refine And.intro ?_ ?_; focus (simp only [List.length_map, List.length_set, List.length_replicate, List.length_append, List.length_range, List.length_cons, List.length_nil, Nat.blt_eq, Nat.ble_eq]; omega)) | refine anyB fun b => ?_ | refine got (nth_rowI rfl) ?_ | refine got (nth_row0 rfl) ?_ | refine got (nth_row2 rfl) ?_ | fail)
    refine retG Tryz.func143 rfl ?_
    repeat' (first | refine step ?_ | refine knowI fun hk => ?_ | refine got rfl ?_ | refine And.intro rfl ?_ | (refine And.intro (fun hc => ?_) (fun hc => ?_) <;> (try (exfalso; first | omega | (simp only [List.length_nil, List.length_cons] at hc; omega)))) | (refine And.intro ?_ ?_; focus omega) | (refine And.intro ?_ ?_; focus (simp only [List.length_map, List.length_set, List.length_replicate, List.length_append, List.length_range, List.length_cons, List.length_nil, Nat.blt_eq, Nat.ble_eq]; omega)) | refine anyB fun b => ?_ | refine got (nth_rowI rfl) ?_ | refine got (nth_row0 rfl) ?_ | refine got (nth_row2 rfl) ?_ | fail)
    exact Wk.mk (Ent.drop (Ent.drop (.refl _))) (h 3 (by decide))
/-- what New lays on a ring -/
def RingOf (ns : List Int) (places : Nat) (pl : List Place) : Prop := pl.Perm (ns.flatMap fun n => placesOf n places) ∧ pl.Pairwise fun a b => ¬ ltP b a
theorem homes_spec [Laid w0] {ns : List Int} {v : Value} {places : Nat} {many : Nat} (hns : ∀ n ∈ ns, 0 ≤ n ∧ n < 8) (hnd : ns.Nodup) (hlen : ns.length ≤ 8) (hpl : 1 ≤ places ∧ places ≤ 64)
    (hm : 1 ≤ many ∧ many ≤ 16) (hne : ns ≠ []) (hp : Rem l (Ints v ns) F) (h : ∀ pl a cap, RingOf ns places pl → K (.tuple #[.slice a many cap, .int .i64 0]) (Ints (.slice a many cap) (shardsOf pl many many) :: F)) :
    CallG Tryz.prog w0 143 [v, .int .i64 places, iv many].toArray l K := by
  refine CallG.ent hp.ent ?_
  refine CallG.weak (CallG.enter Tryz.func143 rfl rfl fun cs => ?_)
  repeat' (first | refine step ?_ | refine knowI fun hk => ?_ | refine got rfl ?_ | refine And.intro rfl ?_ | (refine And.intro (fun hc => ?_) (fun hc => ?_) <;> (try (exfalso; first | omega | (simp only [List.length_nil, List.length_cons] at hc; omega)))) | (refine And.intro ?_ ?_; focus omega) | (refine And.intro ?_ ?_; focus (simp only [List.length_map, List.length_set, List.length_replicate, List.length_append, List.length_range, List.length_cons, List.length_nil, Nat.blt_eq, Nat.ble_eq]; omega)) | refine anyB fun b => ?_ | refine got (nth_rowI rfl) ?_ | refine got (nth_row0 rfl) ?_ | refine got (nth_row2 rfl) ?_ | fail)
  refine RingNew_spec hns hnd hlen hpl .here fun r pl hp1 hp2 => ?_
  repeat' (first | refine step ?_ | refine knowI fun hk => ?_ | refine got rfl ?_ | refine And.intro rfl ?_ | (refine And.intro (fun hc => ?_) (fun hc => ?_) <;> (try (exfalso; first | omega | (simp only [List.length_nil, List.length_cons] at hc; omega)))) | (refine And.intro ?_ ?_; focus omega) | (refine And.intro ?_ ?_; focus (simp only [List.length_map, List.length_set, List.length_replicate, List.length_append, List.length_range, List.length_cons, List.length_nil, Nat.blt_eq, Nat.ble_eq]; omega)) | refine anyB fun b => ?_ | refine got (nth_rowI rfl) ?_ | refine got (nth_row0 rfl) ?_ | refine got (nth_row2 rfl) ?_ | fail)
  have hl : pl.length = ns.length * places := by rw [hp1.length_eq, places_length]
  have h1 : ns.length * places ≤ 8 * 64 := Nat.mul_le_mul hlen hpl.2
  have h0 : 0 < ns.length * places := Nat.mul_pos (List.length_pos_iff.2 hne) (by omega)
  refine Shards_spec hm (by omega) (by omega) .here fun a cap => ?_
  repeat' (first | refine step ?_ | refine knowI fun hk => ?_ | refine got rfl ?_ | refine And.intro rfl ?_ | (refine And.intro (fun hc => ?_) (fun hc => ?_) <;> (try (exfalso; first | omega | (simp only [List.length_nil, List.length_cons] at hc; omega)))) | (refine And.intro ?_ ?_; focus omega) | (refine And.intro ?_ ?_; focus (simp only [List.length_map, List.length_set, List.length_replicate, List.length_append, List.length_range, List.length_cons, List.length_nil, Nat.blt_eq, Nat.ble_eq]; omega)) | refine anyB fun b => ?_ | refine got (nth_rowI rfl) ?_ | refine got (nth_row0 rfl) ?_ | refine got (nth_row2 rfl) ?_ | fail)
  refine retG Tryz.func143 rfl ?_
  repeat' (first | refine step ?_ | refine knowI fun hk => ?_ | refine got rfl ?_ | refine And.intro rfl ?_ | (refine And.intro (fun hc => ?_) (fun hc => ?_) <;> (try (exfalso; first | omega | (simp only [List.length_nil, List.length_cons] at hc; omega)))) | (refine And.intro ?_ ?_; focus omega) | (refine And.intro ?_ ?_; focus (simp only [List.length_map, List.length_set, List.length_replicate, List.length_append, List.length_range, List.length_cons, List.length_nil, Nat.blt_eq, Nat.ble_eq]; omega)) | refine anyB fun b => ?_ | refine got (nth_rowI rfl) ?_ | refine got (nth_row0 rfl) ?_ | refine got (nth_row2 rfl) ?_ | fail)
  exact Wk.mk (Ent.cons _ (Ent.drop (Ent.drop (.refl _)))) (h pl a cap ⟨hp1, hp2⟩)
theorem First_bad [Laid w0] {ns : List Int} {v : Value} {places : Nat} {many : Int} (hns : ∀ n ∈ ns, 0 ≤ n ∧ n < 8) (hnd : ns.Nodup) (hlen : ns.length ≤ 8) (hpl : 1 ≤ places ∧ places ≤ 64)
    (hbad : many < 1 ∨ 16 < many ∨ ns = []) (hp : Rem l (Ints v ns) F) (h : ∀ e : Int, e ≠ 0 → K (.tuple #[.agg #[iv 0, .slice none 0 0], .int .i64 e]) F) :
    CallG Tryz.prog w0 98 [v, .int .i64 places, iv many].toArray l K := by
  refine CallG.ent hp.ent ?_
  refine CallG.weak (CallG.enter Tryz.func98 rfl rfl fun cs => ?_)
  repeat' (first | refine step ?_ | refine knowI fun hk => ?_ | refine got rfl ?_ | refine And.intro rfl ?_ | (refine And.intro (fun hc => ?_) (fun hc => ?_) <;> (try (exfalso; first | omega | (simp only [List.length_nil, List.length_cons] at hc; omega)))) | (refine And.intro ?_ ?_; focus omega) | (refine And.intro ?_ ?_; focus (simp only [List.length_map, List.length_set, List.length_replicate, List.length_append, List.length_range, List.length_cons, List.length_nil, Nat.blt_eq, Nat.ble_eq]; omega)) | refine anyB fun b => ?_ | refine got (nth_rowI rfl) ?_ | refine got (nth_row0 rfl) ?_ | refine got (nth_row2 rfl) ?_ | fail)
  refine homes_bad hns hnd hlen hpl hbad (.there .here) fun e he => ?_
  repeat' (first | refine step ?_ | refine knowI fun hk => ?_ | refine got rfl ?_ | refine And.intro rfl ?_ | (refine And.intro (fun hc => ?_) (fun hc => ?_) <;> (try (exfalso; first | omega | (simp only [List.length_nil, List.length_cons] at hc; omega)))) | (refine And.intro ?_ ?_; focus omega) | (refine And.intro ?_ ?_; focus (simp only [List.length_map, List.length_set, List.length_replicate, List.length_append, List.length_range, List.length_cons, List.length_nil, Nat.blt_eq, Nat.ble_eq]; omega)) | refine anyB fun b => ?_ | refine got (nth_rowI rfl) ?_ | refine got (nth_row0 rfl) ?_ | refine got (nth_row2 rfl) ?_ | fail)
  refine retG Tryz.func98 rfl ?_
  repeat' (first | refine step ?_ | refine knowI fun hk => ?_ | refine got rfl ?_ | refine And.intro rfl ?_ | (refine And.intro (fun hc => ?_) (fun hc => ?_) <;> (try (exfalso; first | omega | (simp only [List.length_nil, List.length_cons] at hc; omega)))) | (refine And.intro ?_ ?_; focus omega) | (refine And.intro ?_ ?_; focus (simp only [List.length_map, List.length_set, List.length_replicate, List.length_append, List.length_range, List.length_cons, List.length_nil, Nat.blt_eq, Nat.ble_eq]; omega)) | refine anyB fun b => ?_ | refine got (nth_rowI rfl) ?_ | refine got (nth_row0 rfl) ?_ | refine got (nth_row2 rfl) ?_ | fail)
  exact Wk.mk (Ent.drop (.refl _)) (h e he)
theorem First_spec [Laid w0] {ns : List Int} {v : Value} {places : Nat} {many : Nat} (hns : ∀ n ∈ ns, 0 ≤ n ∧ n < 8) (hnd : ns.Nodup) (hlen : ns.length ≤ 8) (hpl : 1 ≤ places ∧ places ≤ 64)
    (hm : 1 ≤ many ∧ many ≤ 16) (hne : ns ≠ []) (hp : Rem l (Ints v ns) F) (h : ∀ pl a cap, RingOf ns places pl → K (.tuple #[.agg #[iv 1, .slice a many cap], .int .i64 0]) (Ints (.slice a many cap) (shardsOf pl many many) :: F)) :
    CallG Tryz.prog w0 98 [v, .int .i64 places, iv many].toArray l K := by
  refine CallG.ent hp.ent ?_
  refine CallG.weak (CallG.enter Tryz.func98 rfl rfl fun cs => ?_)
  repeat' (first | refine step ?_ | refine knowI fun hk => ?_ | refine got rfl ?_ | refine And.intro rfl ?_ | (refine And.intro (fun hc => ?_) (fun hc => ?_) <;> (try (exfalso; first | omega | (simp only [List.length_nil, List.length_cons] at hc; omega)))) | (refine And.intro ?_ ?_; focus omega) | (refine And.intro ?_ ?_; focus (simp only [List.length_map, List.length_set, List.length_replicate, List.length_append, List.length_range, List.length_cons, List.length_nil, Nat.blt_eq, Nat.ble_eq]; omega)) | refine anyB fun b => ?_ | refine got (nth_rowI rfl) ?_ | refine got (nth_row0 rfl) ?_ | refine got (nth_row2 rfl) ?_ | fail)
  refine homes_spec hns hnd hlen hpl hm hne (.there .here) fun pl a cap hr => ?_
  repeat' (first | refine step ?_ | refine knowI fun hk => ?_ | refine got rfl ?_ | refine And.intro rfl ?_ | (refine And.intro (fun hc => ?_) (fun hc => ?_) <;> (try (exfalso; first | omega | (simp only [List.length_nil, List.length_cons] at hc; omega)))) | (refine And.intro ?_ ?_; focus omega) | (refine And.intro ?_ ?_; focus (simp only [List.length_map, List.length_set, List.length_replicate, List.length_append, List.length_range, List.length_cons, List.length_nil, Nat.blt_eq, Nat.ble_eq]; omega)) | refine anyB fun b => ?_ | refine got (nth_rowI rfl) ?_ | refine got (nth_row0 rfl) ?_ | refine got (nth_row2 rfl) ?_ | fail)
  refine retG Tryz.func98 rfl ?_
  repeat' (first | refine step ?_ | refine knowI fun hk => ?_ | refine got rfl ?_ | refine And.intro rfl ?_ | (refine And.intro (fun hc => ?_) (fun hc => ?_) <;> (try (exfalso; first | omega | (simp only [List.length_nil, List.length_cons] at hc; omega)))) | (refine And.intro ?_ ?_; focus omega) | (refine And.intro ?_ ?_; focus (simp only [List.length_map, List.length_set, List.length_replicate, List.length_append, List.length_range, List.length_cons, List.length_nil, Nat.blt_eq, Nat.ble_eq]; omega)) | refine anyB fun b => ?_ | refine got (nth_rowI rfl) ?_ | refine got (nth_row0 rfl) ?_ | refine got (nth_row2 rfl) ?_ | fail)
  exact Wk.mk (Ent.cons _ (Ent.drop (.refl _))) (h pl a cap hr)
end
end Go.Sl
