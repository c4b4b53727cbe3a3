/- A cluster (package cluster) that is new. -/
import Derived.Test.YtbolfohdcjpgoaaGreatDoorRouter2
import Derived.Test.YtbolfohdcjpgoaaGreatDoorNode
set_option linter.unusedSimpArgs false
set_option linter.unusedVariables false
set_option linter.unusedSectionVars false
open Go Go.RowKit
namespace Go.Sl
open Go.Proofs
def iota (k : Nat) : List Int := (List.range k).map fun (i : Nat) => (i : Int)
theorem iota_length (k : Nat) : (iota k).length = k := by simp [iota]
theorem iota_succ (k : Nat) : iota (k + 1) = iota k ++ [(k : Int)] := by simp [iota, List.range_succ]
theorem mem_iota {k : Nat} {x : Int} : x ∈ iota k ↔ 0 ≤ x ∧ x < k := by
  simp only [iota, List.mem_map, List.mem_range]
  constructor
  · rintro ⟨i, h, rfl⟩; omega
  · rintro ⟨h0, h1⟩; exact ⟨x.toNat, by omega, by omega⟩
theorem iota_nodup (k : Nat) : (iota k).Nodup := by
  unfold iota
  rw [List.nodup_iff_pairwise_ne, List.pairwise_map]
  exact (List.nodup_iff_pairwise_ne.1 (List.nodup_range)).imp fun h e => h (by omega)
theorem mem_placesOf {n : Int} {k : Nat} {p : Place} (h : p ∈ placesOf n k) : p.2 = n := by
  simp only [placesOf, List.mem_map] at h
  obtain ⟨i, _, rfl⟩ := h; rfl
theorem home_mem {ns : List Int} {pl : List Place} {k : Nat} (h : RingOf ns k pl) (hpos : 0 < pl.length) (s : Int) : homeOf pl s ∈ ns := by
  have hm : spotAt pl s % pl.length < pl.length := Nat.mod_lt _ hpos
  have e : homeOf pl s = pl[spotAt pl s % pl.length].2 := by unfold homeOf; rw [List.getD_eq_getElem?_getD, List.getElem?_eq_getElem hm]; rfl
  rw [e]
  have hmem := h.1.mem_iff.1 (List.getElem_mem hm)
  rw [List.mem_flatMap] at hmem
  obtain ⟨n, hn, hp⟩ := hmem
  rw [mem_placesOf hp]; exact hn
theorem shards_mem {ns : List Int} {pl : List Place} {k many : Nat} (h : RingOf ns k pl) (hpos : 0 < pl.length) {m : Nat} {x : Int} (hx : x ∈ shardsOf pl many m) : x ∈ ns := by
  simp only [shardsOf, List.mem_map] at hx
  obtain ⟨s, _, rfl⟩ := hx
  exact home_mem h hpos _
theorem ring_len {ns : List Int} {pl : List Place} {k : Nat} (h : RingOf ns k pl) : pl.length = ns.length * k := by rw [h.1.length_eq, places_length]
/-- a node of a cluster: where it is, where its disks' row is, its shards -/
abbrev Nd := Nat × (Option Addr × Nat) × List Shd
abbrev Nd.row (x : Nd) : Value := .slice x.2.1.1 x.2.2.length x.2.1.2
def ndA (dim : Int) (n : Nat) (x : Nd) : HP := all [NodeA x.1 dim n x.2.2, SlR (Nd.row x) 74 1 x.2.2.length (x.2.2.map fun s => pt s.1.2)]
abbrev cl0 (k : Nat) : List Value := (List.replicate k ([iv 0, iv (-1)] : List Value)).flatten
theorem cl0_succ (k : Nat) : cl0 (k + 1) = cl0 k ++ [iv 0, iv (-1)] := by
  unfold cl0; rw [List.replicate_succ', List.flatten_append]; rfl
/-- what a cluster holds from the beginning, with some of its nodes made -/
abbrev ClusterR (x : Nat) (c : Cfg) (homes : List Int) (r rd : Nat) (a1 a2 a3 : Option Addr) (c1 c2 c3 : Nat) (k : Nat) (nds : List Nd) (F : HL) : HL :=
  cells x [iv c.nodes, iv c.shards, iv c.dim, iv c.clients, iv c.blocks, iv c.tries, iv c.wait, pt r, .slice a1 nds.length c1, .slice a2 nds.length c2, pt rd, .slice a3 k c3, nilS, nilS, iv 0] 193 ::
    Router0 r c homes :: cells rd (road0 c.nodes) 260 :: SlR (.slice a1 nds.length c1) 38 1 nds.length (nds.map Nd.row) :: SlR (.slice a2 nds.length c2) 39 1 nds.length (nds.map fun x => pt x.1) ::
    SlR (.slice a3 k c3) 199 2 k (cl0 k) :: all (nds.map (ndA c.dim c.blocks.toNat)) :: F
section
variable {w0 : World} {l F F1 : HL} {K : Value → HL → Prop}
/-- how a node's shards stand when it begins -/
def foundsOf (homes : List Int) (k : Nat) : List (Int × Int) := homes.map fun h => if h = (k : Int) then (2, 1) else (0, 0)
structure NdsOk (homes : List Int) (nds : List Nd) : Prop where
  st : ∀ k nd, nds[k]? = some nd → nd.2.2.map (·.2) = foundsOf homes k
set_option maxRecDepth 8000 in
theorem ClusterNew_spec [Laid w0] {c : Cfg} (hbad : ¬ c.May → K (.tuple #[.pointer none, iv 1]) l)
    (hgood : c.May → ∀ x homes pl r rd a1 a2 a3 c1 c2 c3 nds, RingOf (iota c.nodes.toNat) 8 pl → homes = shardsOf pl c.shards.toNat c.shards.toNat → nds.length = c.nodes.toNat → NdsOk homes nds →
      K (.tuple #[pt x, iv 0]) (ClusterR x c homes r rd a1 a2 a3 c1 c2 c3 c.clients.toNat nds l)) : CallG Tryz.prog w0 68 [.agg c.row.toArray].toArray l K := by
  refine CallG.weak (CallG.enter Tryz.func68 rfl rfl fun cs => ?_)
  repeat' (first | refine step ?_ | refine knowI fun hk => ?_ | refine got rfl ?_ | refine And.intro rfl ?_ | (refine And.intro (fun hc => ?_) (fun hc => ?_) <;> (try (exfalso; first | omega | (simp only [List.length_nil, List.length_cons] at hc; omega)))) | (refine And.intro ?_ ?_; focus omega) | (refine And.intro ?_ ?_; focus (simp only [List.length_map, List.length_set, List.length_replicate, List.length_append, List.length_range, List.length_cons, List.length_nil, Nat.blt_eq, Nat.ble_eq]; omega)) | refine anyB fun b => ?_ | refine got (nth_rowI rfl) ?_ | refine got (nth_row0 rfl) ?_ | refine got (nth_row2 rfl) ?_ | fail)
  generalize b = cb
  obtain ⟨N, hN⟩ : ∃ N : Nat, N = (min (max c.nodes 0) 8).toNat := ⟨_, rfl⟩
  refine Run.loop (fun x : Nat × Option Addr × Nat => [(1, pt cb), (4, .slice x.2.1 x.1 x.2.2), (20, iv (min (max c.nodes 0) 8)), (21, iv x.1)])
    (fun x => SlR (.slice x.2.1 x.1 x.2.2) 3 1 x.1 ((iota x.1).map iv) :: cells cb c.row 23 :: l) (fun x => x.1 ≤ N) (fun x => N - x.1) (0, none, 0) (Nat.zero_le _) (by repeat (first | exact Sub.nil _ | refine Sub.cons rfl ?_ | refine Sub.ci rfl (by omega) ?_)) (slr_nil 3 1 _) ?_
  rintro ⟨k, a, cap⟩ hk ih
  dsimp only at hk ih ⊢
  by_cases hlt : k < N
  · repeat' (first | refine step ?_ | refine knowI fun hk => ?_ | refine got rfl ?_ | refine And.intro rfl ?_ | (refine And.intro (fun hc => ?_) (fun hc => ?_) <;> (try (exfalso; first | omega | (simp only [List.length_nil, List.length_cons] at hc; omega)))) | (refine And.intro ?_ ?_; focus omega) | (refine And.intro ?_ ?_; focus (simp only [List.length_map, List.length_set, List.length_replicate, List.length_append, List.length_range, List.length_cons, List.length_nil, Nat.blt_eq, Nat.ble_eq]; omega)) | refine anyB fun b => ?_ | refine got (nth_rowI rfl) ?_ | refine got (nth_row0 rfl) ?_ | refine got (nth_row2 rfl) ?_ | fail)
    refine appendG rfl (by decide) (by omega) fun a2 cp2 => ?_
    repeat' (first | refine step ?_ | refine knowI fun hk => ?_ | refine got rfl ?_ | refine And.intro rfl ?_ | (refine And.intro (fun hc => ?_) (fun hc => ?_) <;> (try (exfalso; first | omega | (simp only [List.length_nil, List.length_cons] at hc; omega)))) | (refine And.intro ?_ ?_; focus omega) | (refine And.intro ?_ ?_; focus (simp only [List.length_map, List.length_set, List.length_replicate, List.length_append, List.length_range, List.length_cons, List.length_nil, Nat.blt_eq, Nat.ble_eq]; omega)) | refine anyB fun b => ?_ | refine got (nth_rowI rfl) ?_ | refine got (nth_row0 rfl) ?_ | refine got (nth_row2 rfl) ?_ | fail)
    refine Run.sub ?_ (Run.ent ?_ (ih (k + 1, a2, cp2) (by dsimp only; omega) (by dsimp only; omega)))
    · exact (by repeat (first | exact Sub.nil _ | refine Sub.cons rfl ?_ | refine Sub.ci rfl (by omega) ?_))
    · dsimp only
      rw [iota_succ, List.map_append, List.map_cons, List.map_nil]
      exact fin
  · obtain rfl : k = N := by omega
    have hns : ∀ n ∈ iota k, 0 ≤ n ∧ n < 8 := fun n hn => by rw [mem_iota] at hn; omega
    have hil := iota_length k
    have hI : Ent (SlR (.slice a k cap) 3 1 k ((iota k).map iv) :: cells cb c.row 23 :: l) (Ints (.slice a k cap) (iota k) :: cells cb c.row 23 :: l) := by
      unfold Ints; rw [hil]; exact .refl _
    by_cases hs : c.shards < 1 ∨ 16 < c.shards ∨ iota k = []
    · have hm : ¬ c.May := by
        unfold Cfg.May
        rcases hs with h | h | h
        · omega
        · omega
        · have := congrArg List.length h; rw [hil] at this; simp at this; omega
      repeat' (first | refine step ?_ | refine knowI fun hk => ?_ | refine got rfl ?_ | refine And.intro rfl ?_ | (refine And.intro (fun hc => ?_) (fun hc => ?_) <;> (try (exfalso; first | omega | (simp only [List.length_nil, List.length_cons] at hc; omega)))) | (refine And.intro ?_ ?_; focus omega) | (refine And.intro ?_ ?_; focus (simp only [List.length_map, List.length_set, List.length_replicate, List.length_append, List.length_range, List.length_cons, List.length_nil, Nat.blt_eq, Nat.ble_eq]; omega)) | refine anyB fun b => ?_ | refine got (nth_rowI rfl) ?_ | refine got (nth_row0 rfl) ?_ | refine got (nth_row2 rfl) ?_ | fail)
      refine CallG.ent hI ?_
      refine First_bad (places := 8) hns (iota_nodup k) (by omega) (by omega) hs .here fun e he => ?_
      repeat' (first | refine step ?_ | refine knowI fun hk => ?_ | refine got rfl ?_ | refine And.intro rfl ?_ | (refine And.intro (fun hc => ?_) (fun hc => ?_) <;> (try (exfalso; first | omega | (simp only [List.length_nil, List.length_cons] at hc; omega)))) | (refine And.intro ?_ ?_; focus omega) | (refine And.intro ?_ ?_; focus (simp only [List.length_map, List.length_set, List.length_replicate, List.length_append, List.length_range, List.length_cons, List.length_nil, Nat.blt_eq, Nat.ble_eq]; omega)) | refine anyB fun b => ?_ | refine got (nth_rowI rfl) ?_ | refine got (nth_row0 rfl) ?_ | refine got (nth_row2 rfl) ?_ | fail)
      refine retG Tryz.func68 rfl ?_
      repeat' (first | refine step ?_ | refine knowI fun hk => ?_ | refine got rfl ?_ | refine And.intro rfl ?_ | (refine And.intro (fun hc => ?_) (fun hc => ?_) <;> (try (exfalso; first | omega | (simp only [List.length_nil, List.length_cons] at hc; omega)))) | (refine And.intro ?_ ?_; focus omega) | (refine And.intro ?_ ?_; focus (simp only [List.length_map, List.length_set, List.length_replicate, List.length_append, List.length_range, List.length_cons, List.length_nil, Nat.blt_eq, Nat.ble_eq]; omega)) | refine anyB fun b => ?_ | refine got (nth_rowI rfl) ?_ | refine got (nth_row0 rfl) ?_ | refine got (nth_row2 rfl) ?_ | fail)
      exact Wk.mk (Ent.drop (Ent.drop (.refl _))) (hbad hm)
    · obtain ⟨m, hm1⟩ := Int.eq_ofNat_of_zero_le (show 0 ≤ c.shards by omega)
      repeat' (first | refine step ?_ | refine knowI fun hk => ?_ | refine got rfl ?_ | refine And.intro rfl ?_ | (refine And.intro (fun hc => ?_) (fun hc => ?_) <;> (try (exfalso; first | omega | (simp only [List.length_nil, List.length_cons] at hc; omega)))) | (refine And.intro ?_ ?_; focus omega) | (refine And.intro ?_ ?_; focus (simp only [List.length_map, List.length_set, List.length_replicate, List.length_append, List.length_range, List.length_cons, List.length_nil, Nat.blt_eq, Nat.ble_eq]; omega)) | refine anyB fun b => ?_ | refine got (nth_rowI rfl) ?_ | refine got (nth_row0 rfl) ?_ | refine got (nth_row2 rfl) ?_ | fail)
      refine CallG.ent hI ?_
      rw [hm1]
      refine First_spec (places := 8) hns (iota_nodup k) (by omega) (by omega) (by omega) (fun h => hs (.inr (.inr h))) .here fun pl fa fcap hring => ?_
      repeat' (first | refine step ?_ | refine knowI fun hk => ?_ | refine got rfl ?_ | refine And.intro rfl ?_ | (refine And.intro (fun hc => ?_) (fun hc => ?_) <;> (try (exfalso; first | omega | (simp only [List.length_nil, List.length_cons] at hc; omega)))) | (refine And.intro ?_ ?_; focus omega) | (refine And.intro ?_ ?_; focus (simp only [List.length_map, List.length_set, List.length_replicate, List.length_append, List.length_range, List.length_cons, List.length_nil, Nat.blt_eq, Nat.ble_eq]; omega)) | refine anyB fun b => ?_ | refine got (nth_rowI rfl) ?_ | refine got (nth_row0 rfl) ?_ | refine got (nth_row2 rfl) ?_ | fail)
      rename_i fb
      generalize b = x
      by_cases hm : c.May
      · have hm0 := hm
        unfold Cfg.May at hm0
        obtain ⟨homes, hhomes⟩ : ∃ homes, homes = shardsOf pl m m := ⟨_, rfl⟩
        have hhl : homes.length = m := by rw [hhomes, shardsOf_length]
        rw [← hhomes]
        subst hhl
        have hplen := ring_len hring
        have hmem : ∀ y ∈ homes, 0 ≤ y ∧ y < c.nodes := fun y hy => by
          rw [hhomes] at hy
          have := shards_mem hring (by omega) hy
          rw [mem_iota] at this; omega
        refine RouterNew_spec hm hm1.symm hmem (.there (.there .here)) fun r => ?_
        repeat' (first | refine step ?_ | refine knowI fun hk => ?_ | refine got rfl ?_ | refine And.intro rfl ?_ | (refine And.intro (fun hc => ?_) (fun hc => ?_) <;> (try (exfalso; first | omega | (simp only [List.length_nil, List.length_cons] at hc; omega)))) | (refine And.intro ?_ ?_; focus omega) | (refine And.intro ?_ ?_; focus (simp only [List.length_map, List.length_set, List.length_replicate, List.length_append, List.length_range, List.length_cons, List.length_nil, Nat.blt_eq, Nat.ble_eq]; omega)) | refine anyB fun b => ?_ | refine got (nth_rowI rfl) ?_ | refine got (nth_row0 rfl) ?_ | refine got (nth_row2 rfl) ?_ | fail)
        refine RoadNew_spec (by omega) fun rd => ?_
        repeat' (first | refine step ?_ | refine knowI fun hk => ?_ | refine got rfl ?_ | refine And.intro rfl ?_ | (refine And.intro (fun hc => ?_) (fun hc => ?_) <;> (try (exfalso; first | omega | (simp only [List.length_nil, List.length_cons] at hc; omega)))) | (refine And.intro ?_ ?_; focus omega) | (refine And.intro ?_ ?_; focus (simp only [List.length_map, List.length_set, List.length_replicate, List.length_append, List.length_range, List.length_cons, List.length_nil, Nat.blt_eq, Nat.ble_eq]; omega)) | refine anyB fun b => ?_ | refine got (nth_rowI rfl) ?_ | refine got (nth_row0 rfl) ?_ | refine got (nth_row2 rfl) ?_ | fail)
        refine Run.loop (fun y : Nat × Option Addr × Nat => [(1, pt cb), (6, pt fb), (8, pt x), (62, iv c.clients), (63, iv y.1)])
          (fun y => ClusterR x c homes r rd none none y.2.1 0 0 y.2.2 y.1 [] (cells fb [iv 1, .slice fa homes.length fcap] 183 :: Ints (.slice fa homes.length fcap) homes :: cells cb c.row 23 :: l)) (fun y => y.1 ≤ c.clients.toNat) (fun y => c.clients.toNat - y.1) (0, none, 0) (Nat.zero_le _) (by repeat (first | exact Sub.nil _ | refine Sub.cons rfl ?_ | refine Sub.ci rfl (by omega) ?_)) ?_ ?_
        · simp only [ClusterR, List.map_nil, List.length_nil, show cl0 0 = [] from rfl]
          exact Ent.trans (slr_nil 38 1 _) (Ent.trans (slr_nil 39 1 _) (Ent.trans (slr_nil 199 2 _) (Ent.trans (ent_all' [] _) fin)))
        rintro ⟨j, a3, c3⟩ hj ih2
        dsimp only at hj ih2 ⊢
        by_cases hjlt : j < c.clients.toNat
        · repeat' (first | refine step ?_ | refine knowI fun hk => ?_ | refine got rfl ?_ | refine And.intro rfl ?_ | (refine And.intro (fun hc => ?_) (fun hc => ?_) <;> (try (exfalso; first | omega | (simp only [List.length_nil, List.length_cons] at hc; omega)))) | (refine And.intro ?_ ?_; focus omega) | (refine And.intro ?_ ?_; focus (simp only [List.length_map, List.length_set, List.length_replicate, List.length_append, List.length_range, List.length_cons, List.length_nil, Nat.blt_eq, Nat.ble_eq]; omega)) | refine anyB fun b => ?_ | refine got (nth_rowI rfl) ?_ | refine got (nth_row0 rfl) ?_ | refine got (nth_row2 rfl) ?_ | fail)
          refine appendG rfl (by decide) (by omega) fun a4 c4 => ?_
          repeat' (first | refine step ?_ | refine knowI fun hk => ?_ | refine got rfl ?_ | refine And.intro rfl ?_ | (refine And.intro (fun hc => ?_) (fun hc => ?_) <;> (try (exfalso; first | omega | (simp only [List.length_nil, List.length_cons] at hc; omega)))) | (refine And.intro ?_ ?_; focus omega) | (refine And.intro ?_ ?_; focus (simp only [List.length_map, List.length_set, List.length_replicate, List.length_append, List.length_range, List.length_cons, List.length_nil, Nat.blt_eq, Nat.ble_eq]; omega)) | refine anyB fun b => ?_ | refine got (nth_rowI rfl) ?_ | refine got (nth_row0 rfl) ?_ | refine got (nth_row2 rfl) ?_ | fail)
          refine Run.sub ?_ (Run.ent ?_ (ih2 (j + 1, a4, c4) (by dsimp only; omega) (by dsimp only; omega)))
          · exact (by repeat (first | exact Sub.nil _ | refine Sub.cons rfl ?_ | refine Sub.ci rfl (by omega) ?_))
          · dsimp only [ClusterR]
            rw [cl0_succ]
            exact fin
        · obtain rfl : j = c.clients.toNat := by omega
          repeat' (first | refine step ?_ | refine knowI fun hk => ?_ | refine got rfl ?_ | refine And.intro rfl ?_ | (refine And.intro (fun hc => ?_) (fun hc => ?_) <;> (try (exfalso; first | omega | (simp only [List.length_nil, List.length_cons] at hc; omega)))) | (refine And.intro ?_ ?_; focus omega) | (refine And.intro ?_ ?_; focus (simp only [List.length_map, List.length_set, List.length_replicate, List.length_append, List.length_range, List.length_cons, List.length_nil, Nat.blt_eq, Nat.ble_eq]; omega)) | refine anyB fun b => ?_ | refine got (nth_rowI rfl) ?_ | refine got (nth_row0 rfl) ?_ | refine got (nth_row2 rfl) ?_ | fail)
          refine Run.loop (fun y : (Nat × List Nd) × (Option Addr × Nat) × (Option Addr × Nat) => [(1, pt cb), (6, pt fb), (8, pt x), (77, iv c.nodes), (78, iv y.1.1)])
            (fun y => ClusterR x c homes r rd y.2.1.1 y.2.2.1 a3 y.2.1.2 y.2.2.2 c3 c.clients.toNat y.1.2 (cells fb [iv 1, .slice fa homes.length fcap] 183 :: Ints (.slice fa homes.length fcap) homes :: cells cb c.row 23 :: l))
            (fun y => y.1.1 ≤ c.nodes.toNat ∧ y.1.2.length = y.1.1 ∧ NdsOk homes y.1.2) (fun y => c.nodes.toNat - y.1.1) ((0, []), (none, 0), (none, 0)) ⟨Nat.zero_le _, rfl, ⟨by simp⟩⟩ (by repeat (first | exact Sub.nil _ | refine Sub.cons rfl ?_ | refine Sub.ci rfl (by omega) ?_)) (.refl _) ?_
          rintro ⟨⟨q, nds⟩, ⟨a1, c1⟩, ⟨a2, c2⟩⟩ ⟨hq, hql, hok⟩ ih3
          dsimp only at hq hql hok ih3 ⊢
          subst hql
          by_cases hqlt : nds.length < c.nodes.toNat
          · repeat' (first | refine step ?_ | refine knowI fun hk => ?_ | refine got rfl ?_ | refine And.intro rfl ?_ | (refine And.intro (fun hc => ?_) (fun hc => ?_) <;> (try (exfalso; first | omega | (simp only [List.length_nil, List.length_cons] at hc; omega)))) | (refine And.intro ?_ ?_; focus omega) | (refine And.intro ?_ ?_; focus (simp only [List.length_map, List.length_set, List.length_replicate, List.length_append, List.length_range, List.length_cons, List.length_nil, Nat.blt_eq, Nat.ble_eq]; omega)) | refine anyB fun b => ?_ | refine got (nth_rowI rfl) ?_ | refine got (nth_row0 rfl) ?_ | refine got (nth_row2 rfl) ?_ | fail)
            refine Run.loop (fun y : List Nat × Option Addr × Nat => [(1, pt cb), (6, pt fb), (8, pt x), (9, iv nds.length), (77, iv c.nodes), (78, iv nds.length), (10, .slice y.2.1 y.1.length y.2.2), (82, iv c.shards), (83, iv y.1.length)])
              (fun y => SlR (.slice y.2.1 y.1.length y.2.2) 74 1 y.1.length (y.1.map pt) :: all (y.1.map fun d => Disk d (List.replicate c.blocks.toNat []) []) ::
                ClusterR x c homes r rd a1 a2 a3 c1 c2 c3 c.clients.toNat nds (cells fb [iv 1, .slice fa homes.length fcap] 183 :: Ints (.slice fa homes.length fcap) homes :: cells cb c.row 23 :: l))
              (fun y => y.1.length ≤ homes.length) (fun y => homes.length - y.1.length) ([], none, 0) (Nat.zero_le _) (by repeat (first | exact Sub.nil _ | refine Sub.cons rfl ?_ | refine Sub.ci rfl (by omega) ?_)) ?_ ?_
            · simp only [List.map_nil, List.length_nil]
              exact Ent.trans (ent_all' [] _) (slr_nil 74 1 _)
            rintro ⟨ds, da, dcap⟩ hd ih4
            dsimp only at hd ih4 ⊢
            by_cases hdlt : ds.length < homes.length
            · repeat' (first | refine step ?_ | refine knowI fun hk => ?_ | refine got rfl ?_ | refine And.intro rfl ?_ | (refine And.intro (fun hc => ?_) (fun hc => ?_) <;> (try (exfalso; first | omega | (simp only [List.length_nil, List.length_cons] at hc; omega)))) | (refine And.intro ?_ ?_; focus omega) | (refine And.intro ?_ ?_; focus (simp only [List.length_map, List.length_set, List.length_replicate, List.length_append, List.length_range, List.length_cons, List.length_nil, Nat.blt_eq, Nat.ble_eq]; omega)) | refine anyB fun b => ?_ | refine got (nth_rowI rfl) ?_ | refine got (nth_row0 rfl) ?_ | refine got (nth_row2 rfl) ?_ | fail)
              refine New_spec (by omega) (by omega) fun d => ?_
              repeat' (first | refine step ?_ | refine knowI fun hk => ?_ | refine got rfl ?_ | refine And.intro rfl ?_ | (refine And.intro (fun hc => ?_) (fun hc => ?_) <;> (try (exfalso; first | omega | (simp only [List.length_nil, List.length_cons] at hc; omega)))) | (refine And.intro ?_ ?_; focus omega) | (refine And.intro ?_ ?_; focus (simp only [List.length_map, List.length_set, List.length_replicate, List.length_append, List.length_range, List.length_cons, List.length_nil, Nat.blt_eq, Nat.ble_eq]; omega)) | refine anyB fun b => ?_ | refine got (nth_rowI rfl) ?_ | refine got (nth_row0 rfl) ?_ | refine got (nth_row2 rfl) ?_ | fail)
              refine appendG rfl (by decide) (by omega) fun a4 c4 => ?_
              repeat' (first | refine step ?_ | refine knowI fun hk => ?_ | refine got rfl ?_ | refine And.intro rfl ?_ | (refine And.intro (fun hc => ?_) (fun hc => ?_) <;> (try (exfalso; first | omega | (simp only [List.length_nil, List.length_cons] at hc; omega)))) | (refine And.intro ?_ ?_; focus omega) | (refine And.intro ?_ ?_; focus (simp only [List.length_map, List.length_set, List.length_replicate, List.length_append, List.length_range, List.length_cons, List.length_nil, Nat.blt_eq, Nat.ble_eq]; omega)) | refine anyB fun b => ?_ | refine got (nth_rowI rfl) ?_ | refine got (nth_row0 rfl) ?_ | refine got (nth_row2 rfl) ?_ | fail)
              refine Run.sub ?_ (Run.ent ?_ (ih4 (ds ++ [d], a4, c4) (by simp; omega) (by simp; omega)))
              · dsimp only
                rw [List.length_append, List.length_singleton]
                exact (by repeat (first | exact Sub.nil _ | refine Sub.cons rfl ?_ | refine Sub.ci rfl (by omega) ?_))
              · dsimp only
                refine Ent.trans (b := Disk d (List.replicate c.blocks.toNat []) [] :: all (ds.map fun d => Disk d (List.replicate c.blocks.toNat []) []) :: SlR (.slice a4 (ds.length + 1) c4) 74 1 (ds.length + 1) (ds.map pt ++ [pt d]) ::
                  ClusterR x c homes r rd a1 a2 a3 c1 c2 c3 c.clients.toNat nds (cells fb [iv 1, .slice fa homes.length fcap] 183 :: Ints (.slice fa homes.length fcap) homes :: cells cb c.row 23 :: l)) fin ?_
                refine (alls_snoc (f := fun d => Disk d (List.replicate c.blocks.toNat []) []) ds d _).trans ?_
                rw [List.length_append, List.length_singleton, List.map_append, List.map_cons, List.map_nil, List.map_append, List.map_cons, List.map_nil]
                exact Ent.perm (.swap _ _ _)
            · have hdl : ds.length = homes.length := by omega
              repeat' (first | refine step ?_ | refine knowI fun hk => ?_ | refine got rfl ?_ | refine And.intro rfl ?_ | (refine And.intro (fun hc => ?_) (fun hc => ?_) <;> (try (exfalso; first | omega | (simp only [List.length_nil, List.length_cons] at hc; omega)))) | (refine And.intro ?_ ?_; focus omega) | (refine And.intro ?_ ?_; focus (simp only [List.length_map, List.length_set, List.length_replicate, List.length_append, List.length_range, List.length_cons, List.length_nil, Nat.blt_eq, Nat.ble_eq]; omega)) | refine anyB fun b => ?_ | refine got (nth_rowI rfl) ?_ | refine got (nth_row0 rfl) ?_ | refine got (nth_row2 rfl) ?_ | fail)
              refine appendG rfl (by decide) (by omega) fun b1 e1 => ?_
              repeat' (first | refine step ?_ | refine knowI fun hk => ?_ | refine got rfl ?_ | refine And.intro rfl ?_ | (refine And.intro (fun hc => ?_) (fun hc => ?_) <;> (try (exfalso; first | omega | (simp only [List.length_nil, List.length_cons] at hc; omega)))) | (refine And.intro ?_ ?_; focus omega) | (refine And.intro ?_ ?_; focus (simp only [List.length_map, List.length_set, List.length_replicate, List.length_append, List.length_range, List.length_cons, List.length_nil, Nat.blt_eq, Nat.ble_eq]; omega)) | refine anyB fun b => ?_ | refine got (nth_rowI rfl) ?_ | refine got (nth_row0 rfl) ?_ | refine got (nth_row2 rfl) ?_ | fail)
              refine CallG.ent (l' := SlR (.slice da ds.length dcap) 74 1 ds.length (ds.map pt) :: all (ds.map fun d => Disk d (List.replicate c.blocks.toNat []) []) ::
                cells x [iv c.nodes, iv c.shards, iv c.dim, iv c.clients, iv c.blocks, iv c.tries, iv c.wait, pt r, .slice b1 (nds.length + 1) e1, .slice a2 nds.length c2, pt rd, .slice a3 c.clients.toNat c3, nilS, nilS, iv 0] 193 ::
                Router0 r c homes :: cells rd (road0 c.nodes) 260 :: SlR (.slice b1 (nds.length + 1) e1) 38 1 (nds.length + 1) (nds.map Nd.row ++ [.slice da ds.length dcap]) :: SlR (.slice a2 nds.length c2) 39 1 nds.length (nds.map fun x => pt x.1) ::
                SlR (.slice a3 c.clients.toNat c3) 199 2 c.clients.toNat (cl0 c.clients.toNat) :: all (nds.map (ndA c.dim c.blocks.toNat)) :: cells fb [iv 1, .slice fa homes.length fcap] 183 :: Ints (.slice fa homes.length fcap) homes :: cells cb c.row 23 :: l) fin ?_
              refine NodeNew_new (c := c) (n := c.blocks.toNat) (ds := ds) hm (by omega) (by omega) .here .here fun np ss hs1 hs2 => ?_
              repeat' (first | refine step ?_ | refine knowI fun hk => ?_ | refine got rfl ?_ | refine And.intro rfl ?_ | (refine And.intro (fun hc => ?_) (fun hc => ?_) <;> (try (exfalso; first | omega | (simp only [List.length_nil, List.length_cons] at hc; omega)))) | (refine And.intro ?_ ?_; focus omega) | (refine And.intro ?_ ?_; focus (simp only [List.length_map, List.length_set, List.length_replicate, List.length_append, List.length_range, List.length_cons, List.length_nil, Nat.blt_eq, Nat.ble_eq]; omega)) | refine anyB fun b => ?_ | refine got (nth_rowI rfl) ?_ | refine got (nth_row0 rfl) ?_ | refine got (nth_row2 rfl) ?_ | fail)
              have hsl : ss.length = homes.length := by have := congrArg List.length hs1; simp at this; omega
              refine Run.loop (fun y : Nat × List Shd => [(1, pt cb), (6, pt fb), (8, pt x), (9, iv nds.length), (13, pt np), (77, iv c.nodes), (78, iv nds.length), (113, .slice fa homes.length fcap), (114, .int .i64 homes.length), (115, iv y.1)])
                (fun y => NodeA np c.dim c.blocks.toNat y.2 :: SlR (.slice da ds.length dcap) 74 1 ds.length (ds.map pt) ::
                  cells x [iv c.nodes, iv c.shards, iv c.dim, iv c.clients, iv c.blocks, iv c.tries, iv c.wait, pt r, .slice b1 (nds.length + 1) e1, .slice a2 nds.length c2, pt rd, .slice a3 c.clients.toNat c3, nilS, nilS, iv 0] 193 ::
                  Router0 r c homes :: cells rd (road0 c.nodes) 260 :: SlR (.slice b1 (nds.length + 1) e1) 38 1 (nds.length + 1) (nds.map Nd.row ++ [.slice da ds.length dcap]) :: SlR (.slice a2 nds.length c2) 39 1 nds.length (nds.map fun x => pt x.1) ::
                  SlR (.slice a3 c.clients.toNat c3) 199 2 c.clients.toNat (cl0 c.clients.toNat) :: all (nds.map (ndA c.dim c.blocks.toNat)) :: cells fb [iv 1, .slice fa homes.length fcap] 183 :: Ints (.slice fa homes.length fcap) homes :: cells cb c.row 23 :: l)
                (fun y => y.1 ≤ homes.length ∧ y.2.map (·.1) = ss.map (·.1) ∧ y.2.map (·.2) = (foundsOf homes nds.length).take y.1 ++ List.replicate (homes.length - y.1) (0, 0)) (fun y => homes.length - y.1) (0, ss) ⟨Nat.zero_le _, rfl, ?_⟩ (by repeat (first | exact Sub.nil _ | refine Sub.cons rfl ?_ | refine Sub.ci rfl (by omega) ?_)) fin ?_
              · dsimp only
                rw [List.take_zero, List.nil_append, Nat.sub_zero, List.eq_replicate_iff]
                refine ⟨by simpa using hsl, fun z hz => ?_⟩
                rw [List.mem_map] at hz
                obtain ⟨y, hy, rfl⟩ := hz
                exact hs2 y hy
              rintro ⟨s, sv⟩ ⟨hs3, hs4, hs5⟩ ih5
              dsimp only at hs3 hs4 hs5 ih5 ⊢
              by_cases hslt : s < homes.length
              · haveI : RowAt homes s homes[s] := ⟨List.getElem?_eq_getElem hslt⟩
                refine openSl (.slice fa homes.length fcap) (fun _ h0 _ => by omega) fun bl pre junk cap' hv hcap hjunk hlen' => ?_
                obtain ⟨rfl, rfl⟩ : fa = some ⟨bl, pre.length, none⟩ ∧ fcap = cap' := by simpa using hv
                have hsvl : sv.length = homes.length := by have := congrArg List.length hs4; simp at this; omega
                have hfl : (foundsOf homes nds.length).length = homes.length := by simp [foundsOf]
                have hfs : (foundsOf homes nds.length)[s]? = some (if homes[s] = (nds.length : Int) then (2, 1) else (0, 0)) := by simp [foundsOf, hslt]
                have hrep : List.replicate (homes.length - s) ((0 : Int), (0 : Int)) = (0, 0) :: List.replicate (homes.length - (s + 1)) (0, 0) := by
                  rw [show homes.length - s = (homes.length - (s + 1)) + 1 by omega]; rfl
                have htl : ((foundsOf homes nds.length).take s).length = s := by rw [List.length_take]; omega
                repeat' (first | refine step ?_ | refine knowI fun hk => ?_ | refine got rfl ?_ | refine And.intro rfl ?_ | (refine And.intro (fun hc => ?_) (fun hc => ?_) <;> (try (exfalso; first | omega | (simp only [List.length_nil, List.length_cons] at hc; omega)))) | (refine And.intro ?_ ?_; focus omega) | (refine And.intro ?_ ?_; focus (simp only [List.length_map, List.length_set, List.length_replicate, List.length_append, List.length_range, List.length_cons, List.length_nil, Nat.blt_eq, Nat.ble_eq]; omega)) | refine anyB fun b => ?_ | refine got (nth_rowI rfl) ?_ | refine got (nth_row0 rfl) ?_ | refine got (nth_row2 rfl) ?_ | fail)
                · rw [hc] at hfs
                  rw [if_pos rfl] at hfs
                  have hz : sv[s].2 = (0, 0) := by
                    have := congrArg (fun z => z[s]?) hs5
                    simp only [List.getElem?_map, List.getElem?_eq_getElem (show s < sv.length by omega), Option.map_some] at this
                    rw [List.getElem?_append_right (by omega), htl, Nat.sub_self, hrep] at this
                    simpa using this
                  refine NodeFound_new (k := s) (List.getElem?_eq_getElem (show s < sv.length by omega)) hz (by omega) (by omega) (by omega) (.there .here) ?_
                  repeat' (first | refine step ?_ | refine knowI fun hk => ?_ | refine got rfl ?_ | refine And.intro rfl ?_ | (refine And.intro (fun hc => ?_) (fun hc => ?_) <;> (try (exfalso; first | omega | (simp only [List.length_nil, List.length_cons] at hc; omega)))) | (refine And.intro ?_ ?_; focus omega) | (refine And.intro ?_ ?_; focus (simp only [List.length_map, List.length_set, List.length_replicate, List.length_append, List.length_range, List.length_cons, List.length_nil, Nat.blt_eq, Nat.ble_eq]; omega)) | refine anyB fun b => ?_ | refine got (nth_rowI rfl) ?_ | refine got (nth_row0 rfl) ?_ | refine got (nth_row2 rfl) ?_ | fail)
                  refine Run.sub ?_ (Run.ent ?_ (ih5 (s + 1, sv.set s (sv[s].1, 2, 1)) ⟨by dsimp only; omega, ?_, ?_⟩ (by dsimp only; omega)))
                  · exact (by repeat (first | exact Sub.nil _ | refine Sub.cons rfl ?_ | refine Sub.ci rfl (by omega) ?_))
                  · exact Ent.trans (foldSl bl pre junk hlen' hcap hjunk) fin
                  · dsimp only
                    rw [List.map_set, ← hs4]
                    apply List.ext_getElem (by simp)
                    intro i h1 h2
                    rw [List.getElem_set]
                    split
                    · subst_vars; simp
                    · rfl
                  · dsimp only
                    rw [List.map_set, hs5, hrep, List.set_append_right _ _ (by omega), htl, Nat.sub_self, List.set_cons_zero, List.take_add_one, hfs, List.append_assoc]; rfl
                · rw [if_neg hc] at hfs
                  refine Run.sub ?_ (Run.ent ?_ (ih5 (s + 1, sv) ⟨by dsimp only; omega, hs4, ?_⟩ (by dsimp only; omega)))
                  · exact (by repeat (first | exact Sub.nil _ | refine Sub.cons rfl ?_ | refine Sub.ci rfl (by omega) ?_))
                  · exact Ent.trans (foldSl bl pre junk hlen' hcap hjunk) fin
                  · dsimp only
                    rw [hs5, hrep, List.take_add_one, hfs, List.append_assoc]; rfl
              · obtain rfl : s = homes.length := by omega
                have hfl : (foundsOf homes nds.length).length = homes.length := by simp [foundsOf]
                rw [Nat.sub_self, List.replicate_zero, List.append_nil, List.take_of_length_le (by omega)] at hs5
                have hds : ds = sv.map fun s => s.1.2 := by
                  rw [← hs1]
                  have := congrArg (List.map Prod.snd) hs4
                  simpa [List.map_map, Function.comp_def] using this.symm
                repeat' (first | refine step ?_ | refine knowI fun hk => ?_ | refine got rfl ?_ | refine And.intro rfl ?_ | (refine And.intro (fun hc => ?_) (fun hc => ?_) <;> (try (exfalso; first | omega | (simp only [List.length_nil, List.length_cons] at hc; omega)))) | (refine And.intro ?_ ?_; focus omega) | (refine And.intro ?_ ?_; focus (simp only [List.length_map, List.length_set, List.length_replicate, List.length_append, List.length_range, List.length_cons, List.length_nil, Nat.blt_eq, Nat.ble_eq]; omega)) | refine anyB fun b => ?_ | refine got (nth_rowI rfl) ?_ | refine got (nth_row0 rfl) ?_ | refine got (nth_row2 rfl) ?_ | fail)
                refine appendG rfl (by decide) (by omega) fun b2 e2 => ?_
                repeat' (first | refine step ?_ | refine knowI fun hk => ?_ | refine got rfl ?_ | refine And.intro rfl ?_ | (refine And.intro (fun hc => ?_) (fun hc => ?_) <;> (try (exfalso; first | omega | (simp only [List.length_nil, List.length_cons] at hc; omega)))) | (refine And.intro ?_ ?_; focus omega) | (refine And.intro ?_ ?_; focus (simp only [List.length_map, List.length_set, List.length_replicate, List.length_append, List.length_range, List.length_cons, List.length_nil, Nat.blt_eq, Nat.ble_eq]; omega)) | refine anyB fun b => ?_ | refine got (nth_rowI rfl) ?_ | refine got (nth_row0 rfl) ?_ | refine got (nth_row2 rfl) ?_ | fail)
                refine Run.sub ?_ (Run.ent ?_ (ih3 ((nds.length + 1, nds ++ [(np, (da, dcap), sv)]), (b1, e1), (b2, e2)) ⟨by dsimp only; omega, by simp, ⟨?_⟩⟩ (by dsimp only; omega)))
                · exact (by repeat (first | exact Sub.nil _ | refine Sub.cons rfl ?_ | refine Sub.ci rfl (by omega) ?_))
                · subst hds
                  simp only [List.length_map] at *
                  have hnd : Ent (NodeA np c.dim c.blocks.toNat sv :: SlR (.slice da sv.length dcap) 74 1 sv.length ((sv.map fun s => s.1.2).map pt) ::
                    cells x [iv c.nodes, iv c.shards, iv c.dim, iv c.clients, iv c.blocks, iv c.tries, iv c.wait, pt r, .slice b1 (nds.length + 1) e1, .slice b2 (nds.length + 1) e2, pt rd, .slice a3 c.clients.toNat c3, nilS, nilS, iv 0] 193 ::
                    all (nds.map (ndA c.dim c.blocks.toNat)) :: Router0 r c homes :: cells rd (road0 c.nodes) 260 :: SlR (.slice b1 (nds.length + 1) e1) 38 1 (nds.length + 1) (nds.map Nd.row ++ [.slice da sv.length dcap]) ::
                    SlR (.slice b2 (nds.length + 1) e2) 39 1 (nds.length + 1) ((nds.map fun x => pt x.1) ++ [pt np]) :: SlR (.slice a3 c.clients.toNat c3) 199 2 c.clients.toNat (cl0 c.clients.toNat) ::
                    cells fb [iv 1, .slice fa homes.length fcap] 183 :: Ints (.slice fa homes.length fcap) homes :: cells cb c.row 23 :: l)
                    (ndA c.dim c.blocks.toNat (np, (da, dcap), sv) :: all (nds.map (ndA c.dim c.blocks.toNat)) :: 
                    cells x [iv c.nodes, iv c.shards, iv c.dim, iv c.clients, iv c.blocks, iv c.tries, iv c.wait, pt r, .slice b1 (nds.length + 1) e1, .slice b2 (nds.length + 1) e2, pt rd, .slice a3 c.clients.toNat c3, nilS, nilS, iv 0] 193 ::
                    Router0 r c homes :: cells rd (road0 c.nodes) 260 :: SlR (.slice b1 (nds.length + 1) e1) 38 1 (nds.length + 1) (nds.map Nd.row ++ [.slice da sv.length dcap]) ::
                    SlR (.slice b2 (nds.length + 1) e2) 39 1 (nds.length + 1) ((nds.map fun x => pt x.1) ++ [pt np]) :: SlR (.slice a3 c.clients.toNat c3) 199 2 c.clients.toNat (cl0 c.clients.toNat) ::
                    cells fb [iv 1, .slice fa homes.length fcap] 183 :: Ints (.slice fa homes.length fcap) homes :: cells cb c.row 23 :: l) := by
                    rw [List.map_map]
                    refine Ent.trans (ent_all' [NodeA np c.dim c.blocks.toNat sv, SlR (.slice da sv.length dcap) 74 1 sv.length (sv.map fun s => pt s.1.2)] _) (Ent.cons _ ?_)
                    exact fin
                  dsimp only [ClusterR]
                  rw [show (nds ++ [((np, (da, dcap), sv) : Nd)]).length = nds.length + 1 by simp]
                  refine Ent.trans ?_ (hnd.trans ((alls_snoc (f := ndA c.dim c.blocks.toNat) nds _ _).trans ?_))
                  · exact fin
                  simp only [List.map_append, List.map_cons, List.map_nil]
                  exact fin
                · intro k nd hk
                  dsimp only at hk
                  by_cases hkl : k < nds.length
                  · rw [List.getElem?_append_left hkl] at hk; exact hok.st k nd hk
                  · have hke : k = nds.length := by
                      have := (List.getElem?_eq_some_iff.1 hk).1; simp at this; omega
                    subst hke
                    simp at hk
                    subst hk; exact hs5
          · repeat' (first | refine step ?_ | refine knowI fun hk => ?_ | refine got rfl ?_ | refine And.intro rfl ?_ | (refine And.intro (fun hc => ?_) (fun hc => ?_) <;> (try (exfalso; first | omega | (simp only [List.length_nil, List.length_cons] at hc; omega)))) | (refine And.intro ?_ ?_; focus omega) | (refine And.intro ?_ ?_; focus (simp only [List.length_map, List.length_set, List.length_replicate, List.length_append, List.length_range, List.length_cons, List.length_nil, Nat.blt_eq, Nat.ble_eq]; omega)) | refine anyB fun b => ?_ | refine got (nth_rowI rfl) ?_ | refine got (nth_row0 rfl) ?_ | refine got (nth_row2 rfl) ?_ | fail)
            refine retG Tryz.func68 rfl ?_
            repeat' (first | refine step ?_ | refine knowI fun hk => ?_ | refine got rfl ?_ | refine And.intro rfl ?_ | (refine And.intro (fun hc => ?_) (fun hc => ?_) <;> (try (exfalso; first | omega | (simp only [List.length_nil, List.length_cons] at hc; omega)))) | (refine And.intro ?_ ?_; focus omega) | (refine And.intro ?_ ?_; focus (simp only [List.length_map, List.length_set, List.length_replicate, List.length_append, List.length_range, List.length_cons, List.length_nil, Nat.blt_eq, Nat.ble_eq]; omega)) | refine anyB fun b => ?_ | refine got (nth_rowI rfl) ?_ | refine got (nth_row0 rfl) ?_ | refine got (nth_row2 rfl) ?_ | fail)
            have hk2 : k = c.nodes.toNat := by omega
            subst hk2
            refine Wk.mk fin (hgood hm x homes pl r rd a1 a2 a3 c1 c2 c3 nds hring (by rw [hm1]; exact hhomes) (by omega) hok)
      · refine RouterNew_bad hm ?_
        repeat' (first | refine step ?_ | refine knowI fun hk => ?_ | refine got rfl ?_ | refine And.intro rfl ?_ | (refine And.intro (fun hc => ?_) (fun hc => ?_) <;> (try (exfalso; first | omega | (simp only [List.length_nil, List.length_cons] at hc; omega)))) | (refine And.intro ?_ ?_; focus omega) | (refine And.intro ?_ ?_; focus (simp only [List.length_map, List.length_set, List.length_replicate, List.length_append, List.length_range, List.length_cons, List.length_nil, Nat.blt_eq, Nat.ble_eq]; omega)) | refine anyB fun b => ?_ | refine got (nth_rowI rfl) ?_ | refine got (nth_row0 rfl) ?_ | refine got (nth_row2 rfl) ?_ | fail)
        refine retG Tryz.func68 rfl ?_
        repeat' (first | refine step ?_ | refine knowI fun hk => ?_ | refine got rfl ?_ | refine And.intro rfl ?_ | (refine And.intro (fun hc => ?_) (fun hc => ?_) <;> (try (exfalso; first | omega | (simp only [List.length_nil, List.length_cons] at hc; omega)))) | (refine And.intro ?_ ?_; focus omega) | (refine And.intro ?_ ?_; focus (simp only [List.length_map, List.length_set, List.length_replicate, List.length_append, List.length_range, List.length_cons, List.length_nil, Nat.blt_eq, Nat.ble_eq]; omega)) | refine anyB fun b => ?_ | refine got (nth_rowI rfl) ?_ | refine got (nth_row0 rfl) ?_ | refine got (nth_row2 rfl) ?_ | fail)
        exact Wk.mk fin (hbad hm)
end
end Go.Sl
