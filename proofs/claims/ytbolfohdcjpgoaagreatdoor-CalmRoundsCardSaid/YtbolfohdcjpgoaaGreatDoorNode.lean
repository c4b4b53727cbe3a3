/- A node (package node) on disks that are new: may, New, of, Found. -/
import Derived.Test.YtbolfohdcjpgoaaGreatDoorShard4
set_option linter.unusedSimpArgs false
set_option linter.unusedVariables false
set_option linter.unusedSectionVars false
open Go Go.RowKit
namespace Go.Sl
open Go.Proofs
/-- a shard that was never written to, or was found just now -/
structure ShOk (st : Int) (n : Nat) (recs : List Bytes) (c : Bytes) (now : List Bytes) : Prop where
  len : now.length = n
  lays : Lays now (fromOf n 0) (toOf n 0) c
  few : recs.length ≤ 1
  size : c.length ≤ 200
  zero : st = 0 → c = [] ∧ recs = []
def ShN (p d : Nat) (dim st ep : Int) (n : Nat) : HP := ex fun x : (Nat × Nat × Nat) × List Bytes × Bytes × List Bytes =>
  all [pur (ShOk st n x.2.1 x.2.2.1 x.2.2.2), ShC p x.1.1 dim st ep 0 0 (pt x.1.2.1) (pt x.1.2.2) (.slice none 0 0), Tree0 x.1.2.1 dim, cells x.1.2.2 dedup0 270, LogA x.1.1 d 0 0 x.2.1 x.2.2.1 x.2.2.2]
section
variable {w0 : World} {l F F1 : HL} {K : Value → HL → Prop}
theorem shn_open {p d n : Nat} {dim st ep : Int} {f : FuncId} {args : Array Value} (hp : Rem l (ShN p d dim st ep n) F)
    (h : ∀ pl t tb recs c now, ShOk st n recs c now → CallG Tryz.prog w0 f args (ShC p pl dim st ep 0 0 (pt t) (pt tb) (.slice none 0 0) :: Tree0 t dim :: cells tb dedup0 270 :: LogA pl d 0 0 recs c now :: F) K) : CallG Tryz.prog w0 f args l K := by
  intro w hs
  obtain ⟨⟨⟨pl, t, tb⟩, recs, c, now⟩, hs⟩ := (hs.ent hp.ent).ex
  have hs := hs.ent (ent_all _ _)
  obtain ⟨hok, hs⟩ := Sat.pur hs
  exact h pl t tb recs c now hok w hs
theorem shn_close {p d n : Nat} {dim st ep : Int} (pl t tb : Nat) (recs : List Bytes) (c : Bytes) (now : List Bytes) (h : ShOk st n recs c now) :
    Ent (ShC p pl dim st ep 0 0 (pt t) (pt tb) (.slice none 0 0) :: Tree0 t dim :: cells tb dedup0 270 :: LogA pl d 0 0 recs c now :: F) (ShN p d dim st ep n :: F) := by
  refine Ent.trans ?_ (ent_ex _ ((pl, t, tb), recs, c, now) F)
  exact (ent_pur h _).trans (ent_all' [pur (ShOk st n recs c now), ShC p pl dim st ep 0 0 (pt t) (pt tb) (.slice none 0 0), Tree0 t dim, cells tb dedup0 270, LogA pl d 0 0 recs c now] F)
theorem lays_nil {now : List Bytes} {fr to : Nat} (h : ∀ k, fr ≤ k → k < to → now[k]? = some []) : Lays now fr to [] := by
  intro k h1 h2; rw [h k h1 h2]; simp
theorem ShOpen_new [Laid w0] {d n : Nat} {dim : Int} (h0 : 1 ≤ dim) (h1 : dim ≤ 16) (hn : 16 ≤ n ∧ n ≤ 16384) (hp : Rem l (Disk d (List.replicate n []) []) F)
    (h : ∀ p, K (.tuple #[pt p, .int .i64 0]) (ShN p d dim 0 0 n :: F)) : CallG Tryz.prog w0 61 [pt d, .int .i64 dim].toArray l K := by
  refine CallG.weak (ShardOpen_new h0 h1 (by omega) hp fun p pl t tb => ?_)
  refine Wk.mk ?_ (h p)
  refine Ent.trans ?_ (shn_close pl t tb [] [] ((List.replicate n []).set 0 (headB 0 0)) ⟨by simp, lays_nil ?_, by simp, by simp, fun _ => ⟨rfl, rfl⟩⟩)
  · refine Ent.cons _ (Ent.cons _ (Ent.cons _ ?_))
    refine Ent.trans ?_ (loga_close none 0)
    refine Ent.cons _ (Ent.cons _ ?_)
    exact slr_nil 9 1 _
  · intro k h1 h2
    unfold fromOf at h1
    unfold toOf at h2
    simp only [if_true] at h1 h2
    rw [List.getElem?_set_ne (by omega), List.getElem?_replicate, if_pos (by omega)]
theorem frms_len1 {st ep mv : Int} (hin : InR st ∧ InR ep ∧ InR mv) : (frm (textI standsB [st, ep, mv])).length ≤ 200 := by
  have := frm_length (textI standsB [st, ep, mv]); have := stands_len hin; omega
theorem ShFound_new [Laid w0] {p d n : Nat} {dim ep' : Int} (h1 : 1 ≤ ep') (h2 : ep' ≤ 1099511627776) (hn : 16 ≤ n ∧ n ≤ 16384) (hp : Rem l (ShN p d dim 0 0 n) F)
    (h : K (.int .i64 0) (ShN p d dim 2 ep' n :: F)) : CallG Tryz.prog w0 45 [pt p, .int .i64 ep'].toArray l K := by
  refine shn_open hp fun pl t tb recs c now hok => ?_
  have hl := frms_len1 (st := 2) (ep := ep') (mv := 0) ⟨by omega, by omega, by omega⟩
  obtain ⟨hc, hr⟩ := hok.zero rfl
  have hc0 : c.length = 0 := by rw [hc]; rfl
  have hr0 : recs.length = 0 := by rw [hr]; rfl
  clear hc hr
  refine CallG.weak (Found_spec ⟨by unfold InR; omega, by unfold InR; omega⟩ h1 h2 (by omega) (by omega) (by rw [hok.len]; omega) (by rw [hok.len]; exact hok.lays) ?_ .here (.there (.there .here)) fun now' i1 i2 i3 => ?_)
  · rw [hok.len, hc0]; simp only [fromOf, toOf, if_true]; omega
  · refine Wk.mk ?_ h
    rw [hok.len] at i1 i2
    refine Ent.trans ?_ (shn_close pl t tb (recs ++ [textI standsB [2, ep', 0]]) (c ++ frm (textI standsB [2, ep', 0])) now' ⟨i1, i2, by rw [List.length_append, hr0]; exact Nat.le_refl _, by rw [List.length_append, hc0, Nat.zero_add]; exact hl, fun h => absurd h (by decide)⟩)
    exact fin
theorem mayIn_spec {n a b : Int} (h : K (.bool (decide (a ≤ n ∧ n ≤ b))) l) : CallG Tryz.prog w0 89 [iv n, iv a, iv b].toArray l K := by
  refine CallG.enter Tryz.func89 rfl rfl fun cs => ?_
  repeat' (first | refine step ?_ | refine knowI fun hk => ?_ | refine got rfl ?_ | refine And.intro rfl ?_ | (refine And.intro (fun hc => ?_) (fun hc => ?_) <;> (try (exfalso; first | omega | (simp only [List.length_nil, List.length_cons] at hc; omega)))) | (refine And.intro ?_ ?_; focus omega) | (refine And.intro ?_ ?_; focus (simp only [List.length_map, List.length_set, List.length_replicate, List.length_append, List.length_range, List.length_cons, List.length_nil, Nat.blt_eq, Nat.ble_eq]; omega)) | refine anyB fun b => ?_ | refine got (nth_rowI rfl) ?_ | refine got (nth_row0 rfl) ?_ | refine got (nth_row2 rfl) ?_ | fail)
  · refine retG Tryz.func89 rfl ?_
    repeat' (first | refine step ?_ | refine knowI fun hk => ?_ | refine got rfl ?_ | refine And.intro rfl ?_ | (refine And.intro (fun hc => ?_) (fun hc => ?_) <;> (try (exfalso; first | omega | (simp only [List.length_nil, List.length_cons] at hc; omega)))) | (refine And.intro ?_ ?_; focus omega) | (refine And.intro ?_ ?_; focus (simp only [List.length_map, List.length_set, List.length_replicate, List.length_append, List.length_range, List.length_cons, List.length_nil, Nat.blt_eq, Nat.ble_eq]; omega)) | refine anyB fun b => ?_ | refine got (nth_rowI rfl) ?_ | refine got (nth_row0 rfl) ?_ | refine got (nth_row2 rfl) ?_ | fail)
    simpa [one, hc] using h
  · refine retG Tryz.func89 rfl ?_
    repeat' (first | refine step ?_ | refine knowI fun hk => ?_ | refine got rfl ?_ | refine And.intro rfl ?_ | (refine And.intro (fun hc => ?_) (fun hc => ?_) <;> (try (exfalso; first | omega | (simp only [List.length_nil, List.length_cons] at hc; omega)))) | (refine And.intro ?_ ?_; focus omega) | (refine And.intro ?_ ?_; focus (simp only [List.length_map, List.length_set, List.length_replicate, List.length_append, List.length_range, List.length_cons, List.length_nil, Nat.blt_eq, Nat.ble_eq]; omega)) | refine anyB fun b => ?_ | refine got (nth_rowI rfl) ?_ | refine got (nth_row0 rfl) ?_ | refine got (nth_row2 rfl) ?_ | fail)
    simpa [one, hc] using h
/-- a config -/
structure Cfg where
  nodes : Int
  shards : Int
  dim : Int
  clients : Int
  blocks : Int
  tries : Int
  wait : Int
abbrev Cfg.row (c : Cfg) : List Value := [iv c.nodes, iv c.shards, iv c.dim, iv c.clients, iv c.blocks, iv c.tries, iv c.wait]
def Cfg.May (c : Cfg) : Prop := (1 ≤ c.nodes ∧ c.nodes ≤ 8) ∧ (1 ≤ c.shards ∧ c.shards ≤ 16) ∧ (1 ≤ c.dim ∧ c.dim ≤ 16) ∧ (1 ≤ c.clients ∧ c.clients ≤ 8) ∧ (16 ≤ c.blocks ∧ c.blocks ≤ 16384) ∧ (1 ≤ c.tries ∧ c.tries ≤ 1000) ∧ (1 ≤ c.wait ∧ c.wait ≤ 1000)
instance (c : Cfg) : Decidable c.May := by unfold Cfg.May; infer_instance
theorem nmay_spec {c : Cfg} (h : K (.bool (decide c.May)) l) : CallG Tryz.prog w0 60 [.agg c.row.toArray].toArray l K := by
  refine CallG.weak (CallG.enter Tryz.func60 rfl rfl fun cs => ?_)
  repeat' (first | refine step ?_ | refine knowI fun hk => ?_ | refine got rfl ?_ | refine And.intro rfl ?_ | (refine And.intro (fun hc => ?_) (fun hc => ?_) <;> (try (exfalso; first | omega | (simp only [List.length_nil, List.length_cons] at hc; omega)))) | (refine And.intro ?_ ?_; focus omega) | (refine And.intro ?_ ?_; focus (simp only [List.length_map, List.length_set, List.length_replicate, List.length_append, List.length_range, List.length_cons, List.length_nil, Nat.blt_eq, Nat.ble_eq]; omega)) | refine anyB fun b => ?_ | refine got (nth_rowI rfl) ?_ | refine got (nth_row0 rfl) ?_ | refine got (nth_row2 rfl) ?_ | fail)
  any_goals (refine mayIn_spec ?_; repeat' (first | refine step ?_ | refine knowI fun hk => ?_ | refine got rfl ?_ | refine And.intro rfl ?_ | (refine And.intro (fun hc => ?_) (fun hc => ?_) <;> (try (exfalso; first | omega | (simp only [List.length_nil, List.length_cons] at hc; omega)))) | (refine And.intro ?_ ?_; focus omega) | (refine And.intro ?_ ?_; focus (simp only [List.length_map, List.length_set, List.length_replicate, List.length_append, List.length_range, List.length_cons, List.length_nil, Nat.blt_eq, Nat.ble_eq]; omega)) | refine anyB fun b => ?_ | refine got (nth_rowI rfl) ?_ | refine got (nth_row0 rfl) ?_ | refine got (nth_row2 rfl) ?_ | fail))
  any_goals (refine mayIn_spec ?_; repeat' (first | refine step ?_ | refine knowI fun hk => ?_ | refine got rfl ?_ | refine And.intro rfl ?_ | (refine And.intro (fun hc => ?_) (fun hc => ?_) <;> (try (exfalso; first | omega | (simp only [List.length_nil, List.length_cons] at hc; omega)))) | (refine And.intro ?_ ?_; focus omega) | (refine And.intro ?_ ?_; focus (simp only [List.length_map, List.length_set, List.length_replicate, List.length_append, List.length_range, List.length_cons, List.length_nil, Nat.blt_eq, Nat.ble_eq]; omega)) | refine anyB fun b => ?_ | refine got (nth_rowI rfl) ?_ | refine got (nth_row0 rfl) ?_ | refine got (nth_row2 rfl) ?_ | fail))
  any_goals (refine mayIn_spec ?_; repeat' (first | refine step ?_ | refine knowI fun hk => ?_ | refine got rfl ?_ | refine And.intro rfl ?_ | (refine And.intro (fun hc => ?_) (fun hc => ?_) <;> (try (exfalso; first | omega | (simp only [List.length_nil, List.length_cons] at hc; omega)))) | (refine And.intro ?_ ?_; focus omega) | (refine And.intro ?_ ?_; focus (simp only [List.length_map, List.length_set, List.length_replicate, List.length_append, List.length_range, List.length_cons, List.length_nil, Nat.blt_eq, Nat.ble_eq]; omega)) | refine anyB fun b => ?_ | refine got (nth_rowI rfl) ?_ | refine got (nth_row0 rfl) ?_ | refine got (nth_row2 rfl) ?_ | fail))
  any_goals (refine mayIn_spec ?_; repeat' (first | refine step ?_ | refine knowI fun hk => ?_ | refine got rfl ?_ | refine And.intro rfl ?_ | (refine And.intro (fun hc => ?_) (fun hc => ?_) <;> (try (exfalso; first | omega | (simp only [List.length_nil, List.length_cons] at hc; omega)))) | (refine And.intro ?_ ?_; focus omega) | (refine And.intro ?_ ?_; focus (simp only [List.length_map, List.length_set, List.length_replicate, List.length_append, List.length_range, List.length_cons, List.length_nil, Nat.blt_eq, Nat.ble_eq]; omega)) | refine anyB fun b => ?_ | refine got (nth_rowI rfl) ?_ | refine got (nth_row0 rfl) ?_ | refine got (nth_row2 rfl) ?_ | fail))
  any_goals (refine mayIn_spec ?_; repeat' (first | refine step ?_ | refine knowI fun hk => ?_ | refine got rfl ?_ | refine And.intro rfl ?_ | (refine And.intro (fun hc => ?_) (fun hc => ?_) <;> (try (exfalso; first | omega | (simp only [List.length_nil, List.length_cons] at hc; omega)))) | (refine And.intro ?_ ?_; focus omega) | (refine And.intro ?_ ?_; focus (simp only [List.length_map, List.length_set, List.length_replicate, List.length_append, List.length_range, List.length_cons, List.length_nil, Nat.blt_eq, Nat.ble_eq]; omega)) | refine anyB fun b => ?_ | refine got (nth_rowI rfl) ?_ | refine got (nth_row0 rfl) ?_ | refine got (nth_row2 rfl) ?_ | fail))
  any_goals (refine mayIn_spec ?_; repeat' (first | refine step ?_ | refine knowI fun hk => ?_ | refine got rfl ?_ | refine And.intro rfl ?_ | (refine And.intro (fun hc => ?_) (fun hc => ?_) <;> (try (exfalso; first | omega | (simp only [List.length_nil, List.length_cons] at hc; omega)))) | (refine And.intro ?_ ?_; focus omega) | (refine And.intro ?_ ?_; focus (simp only [List.length_map, List.length_set, List.length_replicate, List.length_append, List.length_range, List.length_cons, List.length_nil, Nat.blt_eq, Nat.ble_eq]; omega)) | refine anyB fun b => ?_ | refine got (nth_rowI rfl) ?_ | refine got (nth_row0 rfl) ?_ | refine got (nth_row2 rfl) ?_ | fail))
  any_goals (refine mayIn_spec ?_; repeat' (first | refine step ?_ | refine knowI fun hk => ?_ | refine got rfl ?_ | refine And.intro rfl ?_ | (refine And.intro (fun hc => ?_) (fun hc => ?_) <;> (try (exfalso; first | omega | (simp only [List.length_nil, List.length_cons] at hc; omega)))) | (refine And.intro ?_ ?_; focus omega) | (refine And.intro ?_ ?_; focus (simp only [List.length_map, List.length_set, List.length_replicate, List.length_append, List.length_range, List.length_cons, List.length_nil, Nat.blt_eq, Nat.ble_eq]; omega)) | refine anyB fun b => ?_ | refine got (nth_rowI rfl) ?_ | refine got (nth_row0 rfl) ?_ | refine got (nth_row2 rfl) ?_ | fail))
  all_goals (refine retG Tryz.func60 rfl ?_)
  all_goals repeat' (first | refine step ?_ | refine knowI fun hk => ?_ | refine got rfl ?_ | refine And.intro rfl ?_ | (refine And.intro (fun hc => ?_) (fun hc => ?_) <;> (try (exfalso; first | omega | (simp only [List.length_nil, List.length_cons] at hc; omega)))) | (refine And.intro ?_ ?_; focus omega) | (refine And.intro ?_ ?_; focus (simp only [List.length_map, List.length_set, List.length_replicate, List.length_append, List.length_range, List.length_cons, List.length_nil, Nat.blt_eq, Nat.ble_eq]; omega)) | refine anyB fun b => ?_ | refine got (nth_rowI rfl) ?_ | refine got (nth_row0 rfl) ?_ | refine got (nth_row2 rfl) ?_ | fail)
  all_goals (refine Wk.mk (Ent.tail _ _) ?_)
  · have e : decide c.May = decide (1 ≤ c.wait ∧ c.wait ≤ 1000) := decide_eq_decide.2 (by unfold Cfg.May; omega)
    rw [e] at h; exact h
  all_goals (rw [show decide c.May = false from decide_eq_false (by unfold Cfg.May; omega)] at h; exact h)
end
end Go.Sl
/- A node (package node) on disks that are new: New, of, Found. -/
open Go Go.RowKit
namespace Go.Sl
open Go.Proofs
/-- a shard of a node: where it is, its disk, its state and epoch -/
abbrev Shd := (Nat × Nat) × Int × Int
abbrev shdA (dim : Int) (n : Nat) (s : Shd) : HP := ShN s.1.1 s.1.2 dim s.2.1 s.2.2 n
abbrev NodeR (np : Nat) (dim : Int) (n : Nat) (ss : List Shd) (a : Option Addr) (cap : Nat) (F : HL) : HL :=
  cells np [.slice a ss.length cap, .slice none 0 0] 83 :: SlR (.slice a ss.length cap) 113 1 ss.length (ss.map fun s => pt s.1.1) :: all (ss.map (shdA dim n)) :: F
def NodeA (np : Nat) (dim : Int) (n : Nat) (ss : List Shd) : HP := ex fun x : Option Addr × Nat => all (NodeR np dim n ss x.1 x.2 [])
section
variable {w0 : World} {l F F1 : HL} {K : Value → HL → Prop}
theorem node_open {np n : Nat} {dim : Int} {ss : List Shd} {f : FuncId} {args : Array Value} (hp : Rem l (NodeA np dim n ss) F)
    (h : ∀ a cap, CallG Tryz.prog w0 f args (NodeR np dim n ss a cap F) K) : CallG Tryz.prog w0 f args l K := by
  intro w hs
  obtain ⟨⟨a, cap⟩, hs⟩ := (hs.ent hp.ent).ex
  exact h a cap w (hs.ent (ent_all _ _))
theorem node_close {np n : Nat} {dim : Int} {ss : List Shd} (a : Option Addr) (cap : Nat) : Ent (NodeR np dim n ss a cap F) (NodeA np dim n ss :: F) :=
  (ent_all' (NodeR np dim n ss a cap []) F).trans (ent_ex (fun x : Option Addr × Nat => all (NodeR np dim n ss x.1 x.2 [])) (a, cap) F)
set_option maxRecDepth 8000 in
theorem NodeNew_new [Laid w0] {c : Cfg} {n : Nat} {ds : List Nat} {v : Value} (hm : c.May) (hn : 16 ≤ n ∧ n ≤ 16384) (hlen : (ds.length : Int) = c.shards)
    (hp : Rem l (SlR v 74 1 ds.length (ds.map pt)) F1) (hp2 : Rem F1 (all (ds.map fun d => Disk d (List.replicate n []) [])) F)
    (h : ∀ np ss, ss.map (·.1.2) = ds → (∀ s ∈ ss, s.2 = (0, 0)) → K (.tuple #[pt np, .int .i64 0]) (NodeA np c.dim n ss :: SlR v 74 1 ds.length (ds.map pt) :: F)) :
    CallG Tryz.prog w0 27 [.agg c.row.toArray, v].toArray l K := by
  have hm0 := hm
  unfold Cfg.May at hm0
  refine CallG.ent (hp.ent.trans (Ent.cons _ hp2.ent)) ?_
  refine CallG.weak (CallG.enter Tryz.func27 rfl rfl fun cs => ?_)
  refine Run.know (p := ∃ a cap, v = .slice a ds.length cap) (fun w hs => (slr_len hs).2) ?_
  rintro ⟨da, dcap, rfl⟩
  repeat' (first | refine step ?_ | refine knowI fun hk => ?_ | refine got rfl ?_ | refine And.intro rfl ?_ | (refine And.intro (fun hc => ?_) (fun hc => ?_) <;> (try (exfalso; first | omega | (simp only [List.length_nil, List.length_cons] at hc; omega)))) | (refine And.intro ?_ ?_; focus omega) | (refine And.intro ?_ ?_; focus (simp only [List.length_map, List.length_set, List.length_replicate, List.length_append, List.length_range, List.length_cons, List.length_nil, Nat.blt_eq, Nat.ble_eq]; omega)) | refine anyB fun b => ?_ | refine got (nth_rowI rfl) ?_ | refine got (nth_row0 rfl) ?_ | refine got (nth_row2 rfl) ?_ | fail)
  refine nmay_spec ?_
  rw [decide_eq_true hm]
  repeat' (first | refine step ?_ | refine knowI fun hk => ?_ | refine got rfl ?_ | refine And.intro rfl ?_ | (refine And.intro (fun hc => ?_) (fun hc => ?_) <;> (try (exfalso; first | omega | (simp only [List.length_nil, List.length_cons] at hc; omega)))) | (refine And.intro ?_ ?_; focus omega) | (refine And.intro ?_ ?_; focus (simp only [List.length_map, List.length_set, List.length_replicate, List.length_append, List.length_range, List.length_cons, List.length_nil, Nat.blt_eq, Nat.ble_eq]; omega)) | refine anyB fun b => ?_ | refine got (nth_rowI rfl) ?_ | refine got (nth_row0 rfl) ?_ | refine got (nth_row2 rfl) ?_ | fail)
  rename_i cb
  have hnp : ∃ np, np = b := ⟨_, rfl⟩
  obtain ⟨np, rfl⟩ := hnp
  refine Run.loop (fun x : Nat × List Shd × Option Addr × Nat => [(1, .slice da ds.length dcap), (2, pt cb), (6, pt np), (23, .slice da ds.length dcap), (24, .int .i64 ds.length), (25, .int .i64 x.1)])
    (fun x => NodeR np c.dim n x.2.1 x.2.2.1 x.2.2.2 (SlR (.slice da ds.length dcap) 74 1 ds.length (ds.map pt) :: all ((ds.drop x.1).map fun d => Disk d (List.replicate n []) []) :: cells cb c.row 23 :: F))
    (fun x => x.1 ≤ ds.length ∧ x.2.1.length = x.1 ∧ x.2.1.map (·.1.2) = ds.take x.1 ∧ ∀ s ∈ x.2.1, s.2 = (0, 0)) (fun x => ds.length - x.1) (0, [], none, 0) ⟨Nat.zero_le _, rfl, rfl, by simp⟩ (by repeat (first | exact Sub.nil _ | refine Sub.cons rfl ?_ | refine Sub.ci rfl (by omega) ?_)) ?_ ?_
  · simp only [NodeR, List.length_nil, List.map_nil, List.drop_zero]
    exact Ent.trans (Ent.trans (slr_nil 113 1 _) (ent_all' [] _)) fin
  rintro ⟨k, ss, a, cap⟩ ⟨h1, h2, h3, h4⟩ ih
  dsimp only at h1 h2 h3 h4 ih ⊢
  subst h2
  by_cases hlt : ss.length < ds.length
  · haveI : RowAt ds ss.length ds[ss.length] := ⟨List.getElem?_eq_getElem hlt⟩
    refine openSl (.slice da ds.length dcap) (fun _ h0 _ => by omega) fun bl pre junk cap' hv hcap hjunk hlen' => ?_
    obtain ⟨rfl, rfl⟩ : da = some ⟨bl, pre.length, none⟩ ∧ dcap = cap' := by simpa using hv
    have e1 : ds.drop ss.length = ds[ss.length] :: ds.drop (ss.length + 1) := List.drop_eq_getElem_cons hlt
    rw [e1]
    repeat' (first | refine step ?_ | refine knowI fun hk => ?_ | refine got rfl ?_ | refine And.intro rfl ?_ | (refine And.intro (fun hc => ?_) (fun hc => ?_) <;> (try (exfalso; first | omega | (simp only [List.length_nil, List.length_cons] at hc; omega)))) | (refine And.intro ?_ ?_; focus omega) | (refine And.intro ?_ ?_; focus (simp only [List.length_map, List.length_set, List.length_replicate, List.length_append, List.length_range, List.length_cons, List.length_nil, Nat.blt_eq, Nat.ble_eq]; omega)) | refine anyB fun b => ?_ | refine got (nth_rowI rfl) ?_ | refine got (nth_row0 rfl) ?_ | refine got (nth_row2 rfl) ?_ | fail)
    refine CallG.ent (l' := Disk ds[ss.length] (List.replicate n []) [] :: all ((ds.drop (ss.length + 1)).map fun d => Disk d (List.replicate n []) []) :: cells bl (pre ++ ds.map pt ++ junk) 74 :: NodeR np c.dim n ss a cap (cells cb c.row 23 :: F)) (Ent.trans fin (alls_uncons (f := fun d => Disk d (List.replicate n []) []) _ _ _)) ?_
    refine ShOpen_new hm0.2.2.1.1 hm0.2.2.1.2 hn .here fun p => ?_
    repeat' (first | refine step ?_ | refine knowI fun hk => ?_ | refine got rfl ?_ | refine And.intro rfl ?_ | (refine And.intro (fun hc => ?_) (fun hc => ?_) <;> (try (exfalso; first | omega | (simp only [List.length_nil, List.length_cons] at hc; omega)))) | (refine And.intro ?_ ?_; focus omega) | (refine And.intro ?_ ?_; focus (simp only [List.length_map, List.length_set, List.length_replicate, List.length_append, List.length_range, List.length_cons, List.length_nil, Nat.blt_eq, Nat.ble_eq]; omega)) | refine anyB fun b => ?_ | refine got (nth_rowI rfl) ?_ | refine got (nth_row0 rfl) ?_ | refine got (nth_row2 rfl) ?_ | fail)
    refine appendG rfl (by decide) (by omega) fun a' cp' => ?_
    repeat' (first | refine step ?_ | refine knowI fun hk => ?_ | refine got rfl ?_ | refine And.intro rfl ?_ | (refine And.intro (fun hc => ?_) (fun hc => ?_) <;> (try (exfalso; first | omega | (simp only [List.length_nil, List.length_cons] at hc; omega)))) | (refine And.intro ?_ ?_; focus omega) | (refine And.intro ?_ ?_; focus (simp only [List.length_map, List.length_set, List.length_replicate, List.length_append, List.length_range, List.length_cons, List.length_nil, Nat.blt_eq, Nat.ble_eq]; omega)) | refine anyB fun b => ?_ | refine got (nth_rowI rfl) ?_ | refine got (nth_row0 rfl) ?_ | refine got (nth_row2 rfl) ?_ | fail)
    refine Run.sub ?_ (Run.ent ?_ (ih (ss.length + 1, ss ++ [((p, ds[ss.length]), 0, 0)], a', cp') ⟨by dsimp only; omega, by simp, by simp only [List.map_append, List.map_cons, List.map_nil, h3]; rw [List.take_add_one, List.getElem?_eq_getElem hlt]; rfl, ?_⟩ (by dsimp only; omega)))
    · exact (by repeat (first | exact Sub.nil _ | refine Sub.cons rfl ?_ | refine Sub.ci rfl (by omega) ?_))
    · dsimp only [NodeR]
      rw [show (ss ++ [((p, ds[ss.length]), ((0 : Int), (0 : Int)))]).length = ss.length + 1 by simp]
      refine Ent.trans (b := shdA c.dim n ((p, ds[ss.length]), 0, 0) :: all (ss.map (shdA c.dim n)) :: cells np [.slice a' (ss.length + 1) cp', .slice none 0 0] 83 :: SlR (.slice a' (ss.length + 1) cp') 113 1 (ss.length + 1) ((ss.map fun s => pt s.1.1) ++ [pt p]) ::
        cells bl (pre ++ ds.map pt ++ junk) 74 :: all ((ds.drop (ss.length + 1)).map fun d => Disk d (List.replicate n []) []) :: cells cb c.row 23 :: F) fin ?_
      refine (alls_snoc ss _ _).trans ?_
      rw [show (ss ++ [((p, ds[ss.length]), ((0 : Int), (0 : Int)))]).map (fun s => pt s.1.1) = (ss.map fun s => pt s.1.1) ++ [pt p] by simp]
      exact Ent.trans (foldSl bl pre junk hlen' hcap hjunk) fin
    · intro s hs
      dsimp only at hs
      rw [List.mem_append, List.mem_singleton] at hs
      rcases hs with hs | rfl
      · exact h4 s hs
      · rfl
  · have e : ss.length = ds.length := by omega
    repeat' (first | refine step ?_ | refine knowI fun hk => ?_ | refine got rfl ?_ | refine And.intro rfl ?_ | (refine And.intro (fun hc => ?_) (fun hc => ?_) <;> (try (exfalso; first | omega | (simp only [List.length_nil, List.length_cons] at hc; omega)))) | (refine And.intro ?_ ?_; focus omega) | (refine And.intro ?_ ?_; focus (simp only [List.length_map, List.length_set, List.length_replicate, List.length_append, List.length_range, List.length_cons, List.length_nil, Nat.blt_eq, Nat.ble_eq]; omega)) | refine anyB fun b => ?_ | refine got (nth_rowI rfl) ?_ | refine got (nth_row0 rfl) ?_ | refine got (nth_row2 rfl) ?_ | fail)
    refine retG Tryz.func27 rfl ?_
    repeat' (first | refine step ?_ | refine knowI fun hk => ?_ | refine got rfl ?_ | refine And.intro rfl ?_ | (refine And.intro (fun hc => ?_) (fun hc => ?_) <;> (try (exfalso; first | omega | (simp only [List.length_nil, List.length_cons] at hc; omega)))) | (refine And.intro ?_ ?_; focus omega) | (refine And.intro ?_ ?_; focus (simp only [List.length_map, List.length_set, List.length_replicate, List.length_append, List.length_range, List.length_cons, List.length_nil, Nat.blt_eq, Nat.ble_eq]; omega)) | refine anyB fun b => ?_ | refine got (nth_rowI rfl) ?_ | refine got (nth_row0 rfl) ?_ | refine got (nth_row2 rfl) ?_ | fail)
    rw [e, List.take_length] at h3
    refine Wk.mk (Ent.trans (b := NodeR np c.dim n ss a cap (SlR (.slice da ds.length dcap) 74 1 ds.length (ds.map pt) :: F)) fin (node_close a cap)) (h np ss h3 h4)
theorem of_spec {np n : Nat} {dim : Int} {ss : List Shd} {k : Nat} {s : Shd} (hk : ss[k]? = some s) (hp : Rem l (NodeA np dim n ss) F) (h : K (pt s.1.1) (NodeA np dim n ss :: F)) :
    CallG Tryz.prog w0 44 [pt np, .int .i64 k].toArray l K := by
  obtain ⟨hlt, rfl⟩ := List.getElem?_eq_some_iff.1 hk
  refine node_open hp fun a cap => ?_
  refine CallG.weak (CallG.enter Tryz.func44 rfl rfl fun cs => ?_)
  refine openSl (.slice a ss.length cap) (fun _ h0 _ => by omega) fun bl pre junk cap' hv hcap hjunk hlen => ?_
  obtain ⟨rfl, rfl⟩ : a = some ⟨bl, pre.length, none⟩ ∧ cap = cap' := by simpa using hv
  haveI : RowAt ss k ss[k] := ⟨List.getElem?_eq_getElem hlt⟩
  repeat' (first | refine step ?_ | refine knowI fun hk => ?_ | refine got rfl ?_ | refine And.intro rfl ?_ | (refine And.intro (fun hc => ?_) (fun hc => ?_) <;> (try (exfalso; first | omega | (simp only [List.length_nil, List.length_cons] at hc; omega)))) | (refine And.intro ?_ ?_; focus omega) | (refine And.intro ?_ ?_; focus (simp only [List.length_map, List.length_set, List.length_replicate, List.length_append, List.length_range, List.length_cons, List.length_nil, Nat.blt_eq, Nat.ble_eq]; omega)) | refine anyB fun b => ?_ | refine got (nth_rowI rfl) ?_ | refine got (nth_row0 rfl) ?_ | refine got (nth_row2 rfl) ?_ | fail)
  refine retG Tryz.func44 rfl ?_
  repeat' (first | refine step ?_ | refine knowI fun hk => ?_ | refine got rfl ?_ | refine And.intro rfl ?_ | (refine And.intro (fun hc => ?_) (fun hc => ?_) <;> (try (exfalso; first | omega | (simp only [List.length_nil, List.length_cons] at hc; omega)))) | (refine And.intro ?_ ?_; focus omega) | (refine And.intro ?_ ?_; focus (simp only [List.length_map, List.length_set, List.length_replicate, List.length_append, List.length_range, List.length_cons, List.length_nil, Nat.blt_eq, Nat.ble_eq]; omega)) | refine anyB fun b => ?_ | refine got (nth_rowI rfl) ?_ | refine got (nth_row0 rfl) ?_ | refine got (nth_row2 rfl) ?_ | fail)
  exact Wk.mk (Ent.trans (foldSl bl pre junk hlen hcap hjunk) (Ent.trans (b := NodeR np dim n ss (some ⟨bl, pre.length, none⟩) cap F) fin (node_close _ cap))) h
theorem NodeFound_new [Laid w0] {np n : Nat} {dim ep : Int} {ss : List Shd} {k : Nat} {s : Shd} (hk : ss[k]? = some s) (hz : s.2 = (0, 0)) (h1 : 1 ≤ ep) (h2 : ep ≤ 1099511627776) (hn : 16 ≤ n ∧ n ≤ 16384) (hp : Rem l (NodeA np dim n ss) F)
    (h : K (.int .i64 0) (NodeA np dim n (ss.set k (s.1, 2, ep)) :: F)) : CallG Tryz.prog w0 18 [pt np, .int .i64 k, .int .i64 ep].toArray l K := by
  obtain ⟨hlt, rfl⟩ := List.getElem?_eq_some_iff.1 hk
  refine CallG.ent hp.ent ?_
  refine CallG.weak (CallG.enter Tryz.func18 rfl rfl fun cs => ?_)
  repeat' (first | refine step ?_ | refine knowI fun hk => ?_ | refine got rfl ?_ | refine And.intro rfl ?_ | (refine And.intro (fun hc => ?_) (fun hc => ?_) <;> (try (exfalso; first | omega | (simp only [List.length_nil, List.length_cons] at hc; omega)))) | (refine And.intro ?_ ?_; focus omega) | (refine And.intro ?_ ?_; focus (simp only [List.length_map, List.length_set, List.length_replicate, List.length_append, List.length_range, List.length_cons, List.length_nil, Nat.blt_eq, Nat.ble_eq]; omega)) | refine anyB fun b => ?_ | refine got (nth_rowI rfl) ?_ | refine got (nth_row0 rfl) ?_ | refine got (nth_row2 rfl) ?_ | fail)
  refine of_spec hk .here ?_
  repeat' (first | refine step ?_ | refine knowI fun hk => ?_ | refine got rfl ?_ | refine And.intro rfl ?_ | (refine And.intro (fun hc => ?_) (fun hc => ?_) <;> (try (exfalso; first | omega | (simp only [List.length_nil, List.length_cons] at hc; omega)))) | (refine And.intro ?_ ?_; focus omega) | (refine And.intro ?_ ?_; focus (simp only [List.length_map, List.length_set, List.length_replicate, List.length_append, List.length_range, List.length_cons, List.length_nil, Nat.blt_eq, Nat.ble_eq]; omega)) | refine anyB fun b => ?_ | refine got (nth_rowI rfl) ?_ | refine got (nth_row0 rfl) ?_ | refine got (nth_row2 rfl) ?_ | fail)
  refine node_open .here fun a cap => ?_
  have e : ss[k] = (ss[k].1, 0, 0) := by rw [← hz]
  refine CallG.ent (l' := shdA dim n (ss[k].1, 0, 0) :: all ((ss.eraseIdx k).map (shdA dim n)) :: cells np [.slice a ss.length cap, .slice none 0 0] 83 :: SlR (.slice a ss.length cap) 113 1 ss.length (ss.map fun s => pt s.1.1) :: F) (Ent.trans (b := all (ss.map (shdA dim n)) :: cells np [.slice a ss.length cap, .slice none 0 0] 83 :: SlR (.slice a ss.length cap) 113 1 ss.length (ss.map fun s => pt s.1.1) :: F) fin ?_) ?_
  · refine Ent.trans (alls_out hk _) ?_
    rw [← e]; exact .refl _
  refine ShFound_new h1 h2 hn .here ?_
  repeat' (first | refine step ?_ | refine knowI fun hk => ?_ | refine got rfl ?_ | refine And.intro rfl ?_ | (refine And.intro (fun hc => ?_) (fun hc => ?_) <;> (try (exfalso; first | omega | (simp only [List.length_nil, List.length_cons] at hc; omega)))) | (refine And.intro ?_ ?_; focus omega) | (refine And.intro ?_ ?_; focus (simp only [List.length_map, List.length_set, List.length_replicate, List.length_append, List.length_range, List.length_cons, List.length_nil, Nat.blt_eq, Nat.ble_eq]; omega)) | refine anyB fun b => ?_ | refine got (nth_rowI rfl) ?_ | refine got (nth_row0 rfl) ?_ | refine got (nth_row2 rfl) ?_ | fail)
  refine retG Tryz.func18 rfl ?_
  repeat' (first | refine step ?_ | refine knowI fun hk => ?_ | refine got rfl ?_ | refine And.intro rfl ?_ | (refine And.intro (fun hc => ?_) (fun hc => ?_) <;> (try (exfalso; first | omega | (simp only [List.length_nil, List.length_cons] at hc; omega)))) | (refine And.intro ?_ ?_; focus omega) | (refine And.intro ?_ ?_; focus (simp only [List.length_map, List.length_set, List.length_replicate, List.length_append, List.length_range, List.length_cons, List.length_nil, Nat.blt_eq, Nat.ble_eq]; omega)) | refine anyB fun b => ?_ | refine got (nth_rowI rfl) ?_ | refine got (nth_row0 rfl) ?_ | refine got (nth_row2 rfl) ?_ | fail)
  refine Wk.mk ?_ h
  refine Ent.trans (alls_in (f := shdA dim n) (l := ss) (k := k) (ss[k].1, 2, ep) hlt _) ?_
  refine Ent.trans ?_ (node_close a cap)
  have e3 : (ss.set k (ss[k].1, 2, ep)).map (fun s => pt s.1.1) = ss.map fun s => pt s.1.1 := by
    rw [List.map_set]
    apply List.ext_getElem (by simp)
    intro i h1 h2
    rw [List.getElem_set]
    split
    · subst_vars; simp
    · rfl
  dsimp only [NodeR]
  rw [e3, List.length_set]
  exact fin
end
end Go.Sl
