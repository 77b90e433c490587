/- Written for this claim by a program of this session: the functions that the law reaches, each with its contract. -/
import Derived.Test.YtnbkdfnlggmopaaPFnExactSketchMovex0
namespace Go.Proofs.Ytnbkdfnlggmopaa.PFnExactSketchMove
open Go.RowKit Go.Proofs.YtnbkdfnlggmopaaW.PrintWords Go.Proofs.YtnbkdfnlggmopaaW.PrintLast Go.Proofs.YtnbkdfnlggmopaaW.PrintMore
open Go.Proofs.YtnbkdfnlggmopaaW.PrintWords.Aside0 renaming mk → zA
open Go.Proofs.YtnbkdfnlggmopaaW.PrintWords.Kd renaming R_drewN → zE, R_alloc → zF, R_drew → zG, C_drewN → zH, C_alloc → zI, R_reads' → zK, R_below → zL
open Go.Proofs.YtnbkdfnlggmopaaW.PrintWords renaming blk_drewN → zM, blk_drew → zN, blk_alloc → zO, below_set → zS, below_size → zT, blk_below → zU
attribute [local go_sem] i64_w max2_int min2_int max_two min_two max_three min_three max_four min_four
set_option linter.unusedVariables false
set_option linter.unusedSimpArgs false

mutual
def impl_lows.l0 : Nat → Int → List Bool → Int → List (S81) → Int → Int → List (S35) → Option ((List (S81)))
 | 0, _, _, _, _, _, _, _ => none
 | k + 1, x1, x2, x7, x8, x10, x133000, x133001 => if x10 < x7 then ((some (([(⟨x7, x10, 0⟩ : S81), (⟨x10, x7, (-100000)⟩ : S81)] : List (S81)) : List (S81))).bind fun y133 => (if x8.length + y133.length < 5864062014805 then (impl_lows.l0 k x1 x2 x7 (x8 ++ y133) (wrap64 (x10 + 1)) x133000 x133001) else (none))) else (impl_lows.l1 k x1 x2 x7 x8 x133001 (x133001.length : Int) 0)
def impl_lows.l1 : Nat → Int → List Bool → Int → List (S81) → List (S35) → Int → Int → Option ((List (S81)))
 | 0, _, _, _, _, _, _, _ => none
 | k + 1, x1, x2, x7, x8, x31, x32, x33 => if x33 < x32 then (if 0 ≤ x33 then (if x33 < (x31.length : Int) then (if x33 < (x2.length : Int) then (if rdOf false x2 x33 = true then (if ((rd_T35 x31 x33).f0) = (wrap64 (1 + x1)) then ((some (([(⟨x7, (rd_T35 x31 x33).f1, (rd_T35 x31 x33).f3⟩ : S81), (⟨(rd_T35 x31 x33).f1, x7, wrap64 (-((rd_T35 x31 x33).f3))⟩ : S81)] : List (S81)) : List (S81))).bind fun y142 => (if x8.length + y142.length < 5864062014805 then (impl_lows.l1 k x1 x2 x7 (x8 ++ y142) x31 x32 (wrap64 (x33 + 1))) else (none))) else (if ((rd_T35 x31 x33).f0) = (wrap64 (3 + x1)) then ((some (([(⟨(rd_T35 x31 x33).f1, (rd_T35 x31 x33).f2, (rd_T35 x31 x33).f3⟩ : S81), (⟨(rd_T35 x31 x33).f2, (rd_T35 x31 x33).f1, wrap64 (-((rd_T35 x31 x33).f3))⟩ : S81)] : List (S81)) : List (S81))).bind fun y148 => (if x8.length + y148.length < 5864062014805 then (impl_lows.l1 k x1 x2 x7 (x8 ++ y148) x31 x32 (wrap64 (x33 + 1))) else (none))) else (if ((rd_T35 x31 x33).f0) = (wrap64 (5 + x1)) then (if x8.length < 5864062014805 then (impl_lows.l1 k x1 x2 x7 (x8 ++ [(⟨(rd_T35 x31 x33).f1, (rd_T35 x31 x33).f2, (rd_T35 x31 x33).f3⟩ : S81)]) x31 x32 (wrap64 (x33 + 1))) else (none)) else (if ((rd_T35 x31 x33).f0) = (wrap64 (7 + x1)) then ((some (([(⟨(rd_T35 x31 x33).f1, (rd_T35 x31 x33).f2, 0⟩ : S81), (⟨(rd_T35 x31 x33).f2, (rd_T35 x31 x33).f1, -0⟩ : S81)] : List (S81)) : List (S81))).bind fun y157 => (if x8.length + y157.length < 5864062014805 then (impl_lows.l1 k x1 x2 x7 (x8 ++ y157) x31 x32 (wrap64 (x33 + 1))) else (none))) else (if ((rd_T35 x31 x33).f0) = 9 then ((some (([(⟨(rd_T35 x31 x33).f1, (rd_T35 x31 x33).f2, 0⟩ : S81), (⟨(rd_T35 x31 x33).f2, (rd_T35 x31 x33).f1, -0⟩ : S81)] : List (S81)) : List (S81))).bind fun y163 => (if x8.length + y163.length < 5864062014805 then (impl_lows.l1 k x1 x2 x7 (x8 ++ y163) x31 x32 (wrap64 (x33 + 1))) else (none))) else (impl_lows.l1 k x1 x2 x7 x8 x31 x32 (wrap64 (x33 + 1)))))))) else (impl_lows.l1 k x1 x2 x7 x8 x31 x32 (wrap64 (x33 + 1)))) else (none)) else (none)) else (none)) else (some x8)
end
def impl_lows.f (k : Nat) (a0_0 : Int) (l0_1 : List (S35)) (a1 : Int) (l2 : List Bool) : Option ((List (S81))) := impl_lows.l0 k a1 l2 a0_0 ([] : List (S81)) 0 a0_0 l0_1
theorem impl_lows.mono_l : ∀ k, (∀ y0 y1 y2 y3 y4 y5 y6, LeO (impl_lows.l0 k y0 y1 y2 y3 y4 y5 y6) (impl_lows.l0 (k + 1) y0 y1 y2 y3 y4 y5 y6)) ∧ (∀ y0 y1 y2 y3 y4 y5 y6, LeO (impl_lows.l1 k y0 y1 y2 y3 y4 y5 y6) (impl_lows.l1 (k + 1) y0 y1 y2 y3 y4 y5 y6))
 | 0 => ⟨fun _ _ _ _ _ _ _ r h => by simp [impl_lows.l0] at h, fun _ _ _ _ _ _ _ r h => by simp [impl_lows.l1] at h⟩
 | k + 1 => by
  obtain ⟨ih0, ih1⟩ := impl_lows.mono_l k
  refine ⟨?_, ?_⟩
  ·intro y0 y1 y2 y3 y4 y5 y6
   unfold impl_lows.l0
   repeat' first
   | (with_reducible exact ih0 _ _ _ _ _ _ _)
   | (with_reducible exact ih1 _ _ _ _ _ _ _)
   | (with_reducible exact LeO.refl _)
   | (with_reducible exact LeO.none _)
   | (with_reducible refine LeO.ite ?_ ?_)
   | (with_reducible refine LeO.bind ?_ (fun _ => ?_))
   | exact ih0 _ _ _ _ _ _ _
   | exact ih1 _ _ _ _ _ _ _
   | exact LeO.none _
   | refine LeO.ite ?_ ?_
   | refine LeO.bind ?_ (fun _ => ?_)
  ·intro y0 y1 y2 y3 y4 y5 y6
   unfold impl_lows.l1
   repeat' first
   | (with_reducible exact ih0 _ _ _ _ _ _ _)
   | (with_reducible exact ih1 _ _ _ _ _ _ _)
   | (with_reducible exact LeO.refl _)
   | (with_reducible exact LeO.none _)
   | (with_reducible refine LeO.ite ?_ ?_)
   | (with_reducible refine LeO.bind ?_ (fun _ => ?_))
   | exact ih0 _ _ _ _ _ _ _
   | exact ih1 _ _ _ _ _ _ _
   | exact LeO.none _
   | refine LeO.ite ?_ ?_
   | refine LeO.bind ?_ (fun _ => ?_)
theorem impl_lows.mono : ∀ a0 a1 a2 a3 k, LeO (impl_lows.f k a0 a1 a2 a3) (impl_lows.f (k + 1) a0 a1 a2 a3) := by
 intro a0 a1 a2 a3 k
 obtain ⟨ih0, ih1⟩ := impl_lows.mono_l k
 unfold impl_lows.f
 repeat' first
   | (with_reducible exact ih0 _ _ _ _ _ _ _)
   | (with_reducible exact ih1 _ _ _ _ _ _ _)
   | (with_reducible exact LeO.refl _)
   | (with_reducible exact LeO.none _)
   | (with_reducible refine LeO.ite ?_ ?_)
   | (with_reducible refine LeO.bind ?_ (fun _ => ?_))
   | exact ih0 _ _ _ _ _ _ _
   | exact ih1 _ _ _ _ _ _ _
   | exact LeO.none _
   | refine LeO.ite ?_ ?_
   | refine LeO.bind ?_ (fun _ => ?_)
set_option maxHeartbeats 8000000 in
set_option maxRecDepth 100000 in
theorem lows_same.calls (g : Nat) (a b d : Int) (v : Value) (L : List S81) (w0 w : World) (hB : Below w0.heap.size w0 w) (hge : w0.heap.size ≤ g) (hk : w.heap[g]? = some (.cells #[v] 78 (0, 0)))
  (ho : Kd.R k81 81 w w0.heap.size (fun _ => True) v L) (hl : L.length + 2 < 5864062014805) :
  Calls Try.prog 55 #[.int .i64 a, .int .i64 b, .int .i64 d, .pointer (some ⟨g, 0, none⟩)] w fun e w' => e = .returned (.tuple #[]) ∧ ∃ v',
   Kd.R k81 81 w' w0.heap.size (fun _ => True) v' (L ++ [⟨a, b, d⟩, ⟨b, a, wrap64 (-d)⟩]) ∧ w'.heap[g]? = some (.cells #[v'] 78 (0, 0)) ∧ Below w0.heap.size w0 w' ∧
   (∀ h cs t, t ≠ 81 → h ≠ g → w.heap[h]? = some (.cells cs t (0, 0)) → w'.heap[h]? = some (.cells cs t (0, 0))) := by
 have hu81 := Try.underlying81
 have HB := zA hB
 have HO_8 := zA ho
 have BKL := zA hk
 have KEEP : Aside0 (∀ h cs t, t ≠ 81 → h ≠ g → w.heap[h]? = some (.cells cs t (0, 0)) → w.heap[h]? = some (.cells cs t (0, 0))) := ⟨fun _ _ _ _ _ h => h⟩
 have hczl : w.cell? ⟨g, 0, none⟩ = some v := (blk_cell hk 0).trans rfl
 have hfzl := blk_frozen hk 0
 obtain ⟨y105, hy105⟩ : ∃ y_ : List (S81), y_ = (([(⟨a, b, d⟩ : S81), (⟨b, a, wrap64 (-d)⟩ : S81)] : List (S81))) := ⟨_, rfl⟩
 have Ny105 := zA hy105
 obtain ⟨y108, hy108⟩ : ∃ y_ : List (S81), y_ = (L ++ y105) := ⟨_, rfl⟩
 have Ny108 := zA hy108
 have HY : L ++ [⟨a, b, d⟩, ⟨b, a, wrap64 (-d)⟩] = y108 := by rw [hy108, hy105]
 have LM : L.length + y105.length < 5864062014805 := by rw [hy105]; exact hl
 have LMc7 := zA LM
 rw [HY]
 clear LM HY hy105 hy108 hk ho
 have GE := zA hge
 clear hB hge hl
 go_enter Try.func55, Try.ntmps55
 go_wp2_with (first | ((with_reducible refine gate_dst (N := 17) rfl ?_); refine Kd.R_lit k81 _ 81 ?hg (N := 17) ?hd (xs := ([(⟨a, b, d⟩ : S81), (⟨b, a, wrap64 (-d)⟩ : S81)] : List (S81))) (inner := [.int .i64 a, .int .i64 b, .int .i64 d, .int .i64 b, .int .i64 a, .int .i64 (wrap64 (-d))]) (ok := fun _ => True) (okp := fun _ => True) ?hr ?hp (fun _ hk => hk) trivial (Below.refl _ _) (Nat.le_refl _) (by simp) ?_; (case hd => rfl); (case hg => rfl); (case hr => first | (go_simp; done) | (go_simp; rfl)); (case hp => exact (Reps.c3 (show Kd.M k81 _ _ _ (⟨a, b, d⟩ : S81) [.int .i64 a, .int .i64 b, .int .i64 d] from (k81_mkM _ _ _ (⟨a, b, d⟩ : S81) )) (Reps.c3 (show Kd.M k81 _ _ _ (⟨b, a, wrap64 (-d)⟩ : S81) [.int .i64 b, .int .i64 a, .int .i64 (wrap64 (-d))] from (k81_mkM _ _ _ (⟨b, a, wrap64 (-d)⟩ : S81) )) (Reps.none _ _)))); intro v106 w8 ho9 hb hg_ hnew_; clear hnew_; rw [← Ny105.out] at ho9; have n0_ := zA (Kd.R_elder' (bC_ HO_8) (Kd.R_base ho9) hb); have n1_ := zA (Kd.R_lower (Kd.R_new' ho9 (Kd.R_lt (bC_ HO_8))) (zT (bB_ HB))); have n2_ := zA (zU BKL.out hb); have n3_ := zA (below_step (bB_ HB) hb); have n4_ := zA (show ∀ h cs t, t ≠ 81 → h ≠ g → w.heap[h]? = some (.cells cs t (0, 0)) → w8.heap[h]? = some (.cells cs t (0, 0)) from fun h_ cs_ t_ ht_ hg2_ hh_ => zU hh_ hb); clear HO_8 BKL HB KEEP hg_; have HO_8 := n0_; have HO107 := n1_; have BKL := n2_; have HB := n3_; have KEEP := n4_; clear n0_ n1_ n2_ n3_ n4_; clear hb ho9; obtain ⟨Ao11, co11, eo11⟩ := Kd.R_slice HO107.out; subst eo11) | ((with_reducible refine gate_builtin (b := .append) (xs := #[.tmp 7, .tmp 17]) rfl ?_); at_builtin; refine Kd.R_append_rows k81 (w0 := w0) w0.heap.size rfl (.tmp 7) (.tmp 17) 78 81 (.agg #[(.int .i64 0), (.int .i64 0), (.int .i64 0)]) 24 rfl Try.underlying78 info81 rfl (by decide) (by omega) v L y105 _ _ _ (fun k_ => some k_ ≠ (.slice Ao11 y105.length co11 : Value).ownBlock) (fun _ => False) rfl rfl ?aO ?aR (fun _ _ h => h) (fun _ h => h.elim) ?aF ?aB ?aS ?aL ?_; (case aR => repeat (first | exact (zK HO107.out).2.2 | (with_reducible refine zI ?_ _) | (with_reducible refine zH ?_ _) | (with_reducible refine Kd.C_drew ?_))); (case aB => exact (bB_ HB)); (case aF => exact (fun k_ hk => Kd.fresh' (Kd.R_lt (bC_ HO107)) k_ hk)); (case aO => exact (by (with_reducible repeat (first | apply zF | apply zE | apply zG)); exact Kd.R_mono HO_8.out (fun _ hk => hk.2))); (case aS => exact (zT (bB_ HB))); (case aL => have := LMc7.out; omega); intro v109 w10 ho hb hg hat; rw [← Ny108.out] at ho; have n0_ := zA (blk_grown BKL.out hg (Kd.R_ne HO_8.out BKL.out (by decide))); have n1_ := zA (show ∀ h cs t, t ≠ 81 → h ≠ g → w.heap[h]? = some (.cells cs t (0, 0)) → w10.heap[h]? = some (.cells cs t (0, 0)) from fun h_ cs_ t_ ht_ hg2_ hh_ => blk_grown (KEEP.out h_ cs_ t_ ht_ hg2_ hh_) hg (Kd.R_ne HO_8.out (KEEP.out h_ cs_ t_ ht_ hg2_ hh_) (Ne.symm ht_))); have n2_ := zA hb; have n3_ := zA (Kd.R_mono ho (ok' := fun _ => True) (fun _ _ => trivial)); clear BKL KEEP HB HO107 HO_8; have BKL := n0_; have KEEP := n1_; have HB := n2_; have HO_8 := n3_; clear n0_ n1_ n2_ n3_; clear ho hb hg hat; have hczm : w10.cell? ⟨g, 0, none⟩ = some v := (blk_cell BKL.out 0).trans rfl; have hfzm := blk_frozen BKL.out 0; obtain ⟨Ao12, co12, eo12⟩ := Kd.R_slice HO_8.out; subst eo12))
 refine bodyPost_end (results_none rfl _ _ _) rfl ?_
 refine ⟨rfl, _, Kd.R_mono (Kd.R_far (p := ⟨g, 0, none⟩) (Kd.R_types HO_8.out BKL.out (by decide)) (fun _ hk => hk.2) _) (fun _ _ => trivial), blk_put (cs := #[v]) BKL.out 0 _ rfl, zS HB.out GE.out, fun h_ cs_ t_ ht_ hg_ hh_ => blk_far (KEEP.out h_ cs_ t_ ht_ hg_ hh_) hg_ _⟩
set_option maxHeartbeats 8000000 in
set_option maxRecDepth 100000 in
theorem impl_lows.calls (k : Nat) (a0_0 : Int) (A0_1 : Option Addr) (c0_1 : Nat) (l0_1 : List (S35)) (a1 : Int) (A2 : Option Addr) (c2 : Nat) (l2 : List Bool) (r : List (S81)) (w : World) (hr0_1 : Kd.C k35 w A0_1 l0_1.length l0_1) (hc0_1 : l0_1.length ≤ c0_1) (hr2 : Kd.C Kd.bool w A2 l2.length l2) (hc2 : l2.length ≤ c2) (h : impl_lows.f k a0_0 l0_1 a1 l2 = some r) :
  Calls Try.prog 48 #[.agg #[.int .i64 a0_0, .slice A0_1 l0_1.length c0_1], .int .i64 a1, .slice A2 l2.length c2] w fun e w' => ∃ v0_ : Value, e = .returned (v0_) ∧ Kd.R k81 81 w' w.heap.size (fun _ => True) v0_ r ∧ Below w.heap.size w w' := by
 have hu25 := Try.underlying25
 have hu81 := Try.underlying81
 have hu35 := Try.underlying35
 have HR0_1 := zA hr0_1
 have HC0_1 := zA hc0_1
 clear hr0_1 hc0_1
 have HR2 := zA hr2
 have HC2 := zA hc2
 clear hr2 hc2
 have HB := zA (Below.refl w.heap.size w)
 have H : (impl_lows.l0 k a1 l2 a0_0 ([] : List (S81)) 0 a0_0 l0_1) = some r := h
 clear h
 have H' := zA H
 clear H
 go_enter Try.func48, Try.ntmps48
 have hmf : ∀ (fn : Fn) (first cap : Array Value) (w : World), (Instr.makeFunc fn first cap).run Try.prog w = .ok (.func fn first cap) w := fun _ _ _ _ => rfl
 go_wp2_with (first | ((with_reducible refine gate_dst (N := 3) rfl ?_); refine box_event ?hg (N := 3) ?hd (cs := #[.int .i64 a0_0, .slice A0_1 l0_1.length c0_1]) (t := 25) ?hr ?_; (case hd => rfl); (case hg => rfl); (case hr => first | (go_simp; done) | (go_simp; rfl)); intro gb104 hg w4 hbox hb; have n0_ := zA (below_step (bB_ HB) hb); have n1_ := zA (hbox); have n2_ := zA ((by rw [hg]; exact (zT (bB_ HB)) : w.heap.size ≤ gb104)); have n3_ := zA ((by rw [hg]; exact (zT (bB_ HB)) : w.heap.size ≤ gb104)); clear HB; have HB := n0_; have BK104 := n1_; have GW104 := n2_; have GE104 := n3_; clear n0_ n1_ n2_ n3_; clear hb hbox hg; have hcz5_0 : w4.cell? ⟨gb104, 0, none⟩ = some (.int .i64 a0_0) := (blk_cell BK104.out 0).trans rfl; have hcz5_1 : w4.cell? ⟨gb104, 1, none⟩ = some (.slice A0_1 l0_1.length c0_1) := (blk_cell BK104.out 1).trans rfl; have hfz5_0 := blk_frozen BK104.out 0; have hfz5_1 := blk_frozen BK104.out 1) | ((with_reducible refine gate_dst (N := 8) rfl ?_); refine box_event ?hg (N := 8) ?hd (cs := #[.slice none 0 0]) (t := 78) ?hr ?_; (case hd => rfl); (case hg => rfl); (case hr => first | (go_simp; done) | (go_simp; rfl)); intro gbL hg wL hbox hb; have n0_ := zA (below_step HB.out hb); have n1_ := zA hbox; have n2_ := zA ((by rw [hg]; exact zT HB.out) : w.heap.size ≤ gbL); have n3_ := zA (zU BK104.out hb); have n4_ := zA ((by rw [hg]; exact Nat.ne_of_lt (blk_lt BK104.out)) : gb104 ≠ gbL); clear HB BK104; have HB := n0_; have BKL := n1_; have GEL := n2_; have BK104 := n3_; have NB104_L := n4_; clear n0_ n1_ n2_ n3_ n4_; clear hb hbox hg))
 go_loopg [10] k (fun kq v10 w' => ∃ (v8 : Value) (x8_1 : List (S81)) (x10_1 : Int), v10 = .int .i64 x10_1 ∧ Aside0 (impl_lows.l0 kq a1 l2 a0_0 x8_1 x10_1 a0_0 l0_1 = some r) ∧ Aside0 (kq ≤ k) ∧ Aside0 (Kd.R k81 81 w' w.heap.size (fun _ => True) v8 x8_1) ∧ Aside0 (w'.heap[gb104]? = some (.cells #[.int .i64 a0_0, (.slice A0_1 l0_1.length c0_1)] 25 (0, 0))) ∧ Aside0 (w'.heap[gbL]? = some (.cells #[v8] 78 (0, 0))) ∧ Aside0 (Below w.heap.size w w'))
 case atStart => exact ⟨_, (([] : List (S81))), (0), (by first | rfl | (simp; done) | (simp [*]; done)), H', ⟨Nat.le_refl _⟩, ⟨by first | exact Kd.R_nil _ _ _ _ _ | exact Kd.N_nil _ _ _ _ _ | exact Kd.V_nil _ _ _ _ _ | exact Kd.Q_nil _ _ _ _ _ | exact Kd.S_nil _ _ _ _ _⟩, ⟨bA_ BK104⟩, ⟨bA_ BKL⟩, ⟨bB_ HB⟩⟩
 case round =>
  clear H'
  try clear c2
  try clear p2
  try clear c4
  try clear hcz5_0
  try clear hcz5_1
  try clear hfz5_0
  try clear hfz5_1
  obtain ⟨v8, x8_1, x10_1, rfl, HA, HK1, HO_8, BK104, BKL, HB⟩ := hrel
  have hczl : wr.cell? ⟨gbL, 0, none⟩ = some v8 := (blk_cell BKL.out 0).trans rfl
  have hfzl := blk_frozen BKL.out 0
  cases gk with
  | zero => exact absurd HA.out (by simp [impl_lows.l0])
  | succ k1 =>
   have H := HA.out
   clear HA
   simp only [impl_lows.l0] at H
   by_cases c6 : x10_1 < a0_0
   ·rw [if_pos c6] at H
    have c6b0 : decide (x10_1 < a0_0) = true := decide_eq_true c6
    clear c6
    obtain ⟨y133, hy133⟩ : ∃ y_ : List (S81), y_ = (([(⟨a0_0, x10_1, 0⟩ : S81), (⟨x10_1, a0_0, (-100000)⟩ : S81)] : List (S81))) := ⟨_, rfl⟩
    replace H : (if x8_1.length + y133.length < 5864062014805 then (impl_lows.l0 k1 a1 l2 a0_0 (x8_1 ++ y133) (wrap64 (x10_1 + 1)) a0_0 l0_1) else (none)) = some r := by first | (rw [hy133]; with_reducible exact H) | (have H2_ := (Option.bind_some _ _).symm.trans H; rw [hy133]; with_reducible exact H2_) | (have H2_ := (Option.bind_some _ _).symm.trans H; with_reducible exact H2_) | with_reducible exact H | (rw [hy133]; exact H) | exact H
    have Ny133 := zA hy133
    clear hy133
    by_cases c7 : x8_1.length + y133.length < 5864062014805
    ·rw [if_pos c7] at H
     have LMc7 := zA c7
     clear c7
     obtain ⟨y136, hy136⟩ : ∃ y_ : List (S81), y_ = (x8_1 ++ y133) := ⟨_, rfl⟩
     replace H : (impl_lows.l0 k1 a1 l2 a0_0 y136 (wrap64 (x10_1 + 1)) a0_0 l0_1) = some r := by first | (rw [hy136]; with_reducible exact H) | (have H2_ := (Option.bind_some _ _).symm.trans H; rw [hy136]; with_reducible exact H2_) | (have H2_ := (Option.bind_some _ _).symm.trans H; with_reducible exact H2_) | with_reducible exact H | (rw [hy136]; exact H) | exact H
     have Ny136 := zA hy136
     clear hy136
     have H' := zA H
     clear H
     go_wp2_with (first | ((with_reducible refine gate_dst (N := 28) rfl ?_); refine Kd.R_lit k81 _ 81 ?hg (N := 28) ?hd (xs := ([(⟨a0_0, x10_1, 0⟩ : S81), (⟨x10_1, a0_0, (-100000)⟩ : S81)] : List (S81))) (inner := [.int .i64 a0_0, .int .i64 x10_1, .int .i64 0, .int .i64 x10_1, .int .i64 a0_0, .int .i64 (-100000)]) (ok := fun _ => True) (okp := fun _ => True) ?hr ?hp (fun _ hk => hk) trivial (Below.refl _ _) (Nat.le_refl _) (by simp) ?_; (case hd => rfl); (case hg => rfl); (case hr => first | (go_simp; done) | (go_simp; rfl)); (case hp => exact (Reps.c3 (show Kd.M k81 _ _ _ (⟨a0_0, x10_1, 0⟩ : S81) [.int .i64 a0_0, .int .i64 x10_1, .int .i64 0] from (k81_mkM _ _ _ (⟨a0_0, x10_1, 0⟩ : S81) )) (Reps.c3 (show Kd.M k81 _ _ _ (⟨x10_1, a0_0, (-100000)⟩ : S81) [.int .i64 x10_1, .int .i64 a0_0, .int .i64 (-100000)] from (k81_mkM _ _ _ (⟨x10_1, a0_0, (-100000)⟩ : S81) )) (Reps.none _ _)))); intro v134 w8 ho9 hb hg_ hnew_; clear hg_ hnew_; (first | rw [← Ny133.out] at ho9 | (simp only [Int.reduceToNat] at ho9; rw [← Ny133.out] at ho9)); have n0_ := zA (Kd.R_elder' (bC_ HO_8) (Kd.R_base ho9) hb); have n1_ := zA (Kd.R_lower (Kd.R_new' ho9 (Kd.R_lt (bC_ HO_8))) (zT (bB_ HB))); have n2_ := zA (zU (g := gb104) (o := .cells #[.int .i64 a0_0, .slice A0_1 l0_1.length c0_1] 25 (0, 0)) (bA_ BK104) hb); have ln2_ := zA (zU (g := gbL) (o := .cells #[v8] 78 (0, 0)) (bA_ BKL) hb); have n3_ := zA (below_step (bB_ HB) hb); clear HO_8; clear BK104; clear BKL; clear HB; have HO_8 := n0_; have HO135 := n1_; have BK104 := n2_; have BKL := ln2_; have HB := n3_; clear n0_ n1_ n2_ n3_; clear ln2_; clear hb ho9; obtain ⟨Ao11, co11, eo11⟩ := Kd.R_slice HO135.out; subst eo11) | ((with_reducible refine gate_builtin (b := .append) (xs := #[.tmp 21, .tmp 28]) rfl ?_); at_builtin; refine Kd.R_append_rows k81 (w0 := w) w.heap.size rfl (.tmp 21) (.tmp 28) 78 81 (.agg #[(.int .i64 0), (.int .i64 0), (.int .i64 0)]) 24 rfl Try.underlying78 info81 rfl (by decide) (by omega) v8 x8_1 y133 _ _ _ (fun k_ => some k_ ≠ (.slice Ao11 y133.length co11 : Value).ownBlock) (fun _ => False) rfl rfl ?aO ?aR (fun _ _ h => h) (fun _ h => h.elim) ?aF ?aB ?aS ?aL ?_; (case aR => repeat (first | exact (zK HO135.out).2.2 | (with_reducible refine zI ?_ _) | (with_reducible refine zH ?_ _) | (with_reducible refine Kd.C_drew ?_))); (case aB => exact (bB_ HB)); (case aF => exact (fun k_ hk => Kd.fresh' (Kd.R_lt (bC_ HO135)) k_ hk)); (case aO => exact (by (with_reducible repeat (first | apply zF | apply zE | apply zG)); exact Kd.R_mono HO_8.out (fun _ hk => hk.2))); (case aS => exact (zT (bB_ HB))); (case aL => have := LMc7.out; omega); intro v137 w10 ho hb hg hat; rw [← Ny136.out] at ho; have n0_ := zA (blk_grown (g := gb104) (o := .cells #[.int .i64 a0_0, .slice A0_1 l0_1.length c0_1] 25 (0, 0)) (bA_ BK104) hg (Kd.R_ne HO_8.out BK104.out (by decide))); have ln0_ := zA (blk_grown (g := gbL) (o := .cells #[v8] 78 (0, 0)) (bA_ BKL) hg (Kd.R_ne HO_8.out BKL.out (by decide))); have n1_ := zA (Kd.R_after (ok := (fun _ => True)) (bC_ HO135) hg hat); have n2_ := zA (hb); have n3_ := zA (ho); clear BK104; clear BKL; clear HO135; clear HB; clear HO_8; have BK104 := n0_; have BKL := ln0_; have HO135 := n1_; have HB := n2_; have HO138 := n3_; clear n0_ n1_ n2_ n3_; clear ln0_; clear ho hb hg hat; have hczm : w10.cell? ⟨gbL, 0, none⟩ = some v8 := (blk_cell BKL.out 0).trans rfl; have hfzm := blk_frozen BKL.out 0; obtain ⟨AoL, coL, eoL⟩ := Kd.R_slice HO138.out; subst eoL))
     go_roundg k1
     case measure => have := HK1.out; omega
     case rel => exact ⟨_, (y136), (wrap64 (x10_1 + 1)), (by first | rfl | (simp; done) | (simp [*]; done)), H', ⟨by have := HK1.out; omega⟩, ⟨Kd.R_mono (Kd.R_far (p := ⟨gbL, 0, none⟩) (Kd.R_types HO138.out BKL.out (by decide)) (fun _ hk => hk.2) _) (fun _ _ => trivial)⟩, ⟨blk_far BK104.out NB104_L.out _⟩, ⟨blk_put (cs := #[v8]) BKL.out 0 _ rfl⟩, ⟨zS HB.out GEL.out⟩⟩
    ·rw [if_neg c7] at H
     exact absurd H (by simp)
   ·rw [if_neg c6] at H
    have c6b0 : decide (x10_1 < a0_0) = false := decide_eq_false c6
    clear c6
    have H' := zA H
    clear H
    have hcz12_0 : wr.cell? ⟨gb104, 0, none⟩ = some (.int .i64 a0_0) := (blk_cell BK104.out 0).trans rfl
    have hczL12 : wr.cell? ⟨gbL, 0, none⟩ = some v8 := (blk_cell BKL.out 0).trans rfl
    have hfzL12 := blk_frozen BKL.out 0
    have hcz12_1 : wr.cell? ⟨gb104, 1, none⟩ = some (.slice A0_1 l0_1.length c0_1) := (blk_cell BK104.out 1).trans rfl
    have hfz12_0 := blk_frozen BK104.out 0
    have hfz12_1 := blk_frozen BK104.out 1
    go_wp2
    go_loopg [33] k1 (fun kq v33 w' => ∃ (v8 : Value) (x8_2 : List (S81)) (x33_2 : Int), v33 = .int .i64 x33_2 ∧ Aside0 (impl_lows.l1 kq a1 l2 a0_0 x8_2 l0_1 (l0_1.length : Int) x33_2 = some r) ∧ Aside0 (kq ≤ k1) ∧ Aside0 (Kd.R k81 81 w' w.heap.size (fun _ => True) v8 x8_2) ∧ Aside0 (w'.heap[gb104]? = some (.cells #[.int .i64 a0_0, (.slice A0_1 l0_1.length c0_1)] 25 (0, 0))) ∧ Aside0 (w'.heap[gbL]? = some (.cells #[v8] 78 (0, 0))) ∧ Aside0 (Below w.heap.size w w'))
    case atStart => exact ⟨_, (x8_1), (0), (by first | rfl | (simp; done) | (simp [*]; done)), H', ⟨Nat.le_refl _⟩, ⟨bC_ HO_8⟩, ⟨bA_ BK104⟩, ⟨bA_ BKL⟩, ⟨bB_ HB⟩⟩
    case round =>
     clear H'
     try clear c2
     try clear p2
     try clear c3
     try clear c4
     try clear c6
     try clear c6b0
     try clear p6
     try clear c7
     try clear hcz12_0
     try clear hcz12_1
     try clear hcz5_0
     try clear hcz5_1
     try clear hfz12_0
     try clear hfz12_1
     try clear hfz5_0
     try clear hfz5_1
     try clear p2
     obtain ⟨v8, x8_2, x33_2, rfl, HA, HK2, HO_8, BK104, BKL, HB⟩ := hrel
     have hczl : wr.cell? ⟨gbL, 0, none⟩ = some v8 := (blk_cell BKL.out 0).trans rfl
     have hfzl := blk_frozen BKL.out 0
     cases gk with
     | zero => exact absurd HA.out (by simp [impl_lows.l1])
     | succ k2 =>
      have H := HA.out
      clear HA
      simp only [impl_lows.l1] at H
      by_cases c13 : x33_2 < (l0_1.length : Int)
      ·rw [if_pos c13] at H
       have c13b0 : decide (x33_2 < (l0_1.length : Int)) = true := decide_eq_true c13
       clear c13
       by_cases c14 : 0 ≤ x33_2
       ·rw [if_pos c14] at H
        have c14b0 : decide (0 ≤ x33_2) = true := decide_eq_true c14
        clear c14
        by_cases c15 : x33_2 < (l0_1.length : Int)
        ·rw [if_pos c15] at H
         have c15b0 : decide (x33_2 < (l0_1.length : Int)) = true := decide_eq_true c15
         clear c15
         by_cases c16 : x33_2 < (l2.length : Int)
         ·rw [if_pos c16] at H
          have c16b0 : decide (x33_2 < (l2.length : Int)) = true := decide_eq_true c16
          clear c16
          obtain ⟨bq17, hbq17⟩ : ∃ b_ : Bool, b_ = (rdOf false l2 x33_2) := ⟨_, rfl⟩
          replace H : (if bq17 = true then (if ((rd_T35 l0_1 x33_2).f0) = (wrap64 (1 + a1)) then ((some (([(⟨a0_0, (rd_T35 l0_1 x33_2).f1, (rd_T35 l0_1 x33_2).f3⟩ : S81), (⟨(rd_T35 l0_1 x33_2).f1, a0_0, wrap64 (-((rd_T35 l0_1 x33_2).f3))⟩ : S81)] : List (S81)) : List (S81))).bind fun y142 => (if x8_2.length + y142.length < 5864062014805 then (impl_lows.l1 k2 a1 l2 a0_0 (x8_2 ++ y142) l0_1 (l0_1.length : Int) (wrap64 (x33_2 + 1))) else (none))) else (if ((rd_T35 l0_1 x33_2).f0) = (wrap64 (3 + a1)) then ((some (([(⟨(rd_T35 l0_1 x33_2).f1, (rd_T35 l0_1 x33_2).f2, (rd_T35 l0_1 x33_2).f3⟩ : S81), (⟨(rd_T35 l0_1 x33_2).f2, (rd_T35 l0_1 x33_2).f1, wrap64 (-((rd_T35 l0_1 x33_2).f3))⟩ : S81)] : List (S81)) : List (S81))).bind fun y148 => (if x8_2.length + y148.length < 5864062014805 then (impl_lows.l1 k2 a1 l2 a0_0 (x8_2 ++ y148) l0_1 (l0_1.length : Int) (wrap64 (x33_2 + 1))) else (none))) else (if ((rd_T35 l0_1 x33_2).f0) = (wrap64 (5 + a1)) then (if x8_2.length < 5864062014805 then (impl_lows.l1 k2 a1 l2 a0_0 (x8_2 ++ [(⟨(rd_T35 l0_1 x33_2).f1, (rd_T35 l0_1 x33_2).f2, (rd_T35 l0_1 x33_2).f3⟩ : S81)]) l0_1 (l0_1.length : Int) (wrap64 (x33_2 + 1))) else (none)) else (if ((rd_T35 l0_1 x33_2).f0) = (wrap64 (7 + a1)) then ((some (([(⟨(rd_T35 l0_1 x33_2).f1, (rd_T35 l0_1 x33_2).f2, 0⟩ : S81), (⟨(rd_T35 l0_1 x33_2).f2, (rd_T35 l0_1 x33_2).f1, -0⟩ : S81)] : List (S81)) : List (S81))).bind fun y157 => (if x8_2.length + y157.length < 5864062014805 then (impl_lows.l1 k2 a1 l2 a0_0 (x8_2 ++ y157) l0_1 (l0_1.length : Int) (wrap64 (x33_2 + 1))) else (none))) else (if ((rd_T35 l0_1 x33_2).f0) = 9 then ((some (([(⟨(rd_T35 l0_1 x33_2).f1, (rd_T35 l0_1 x33_2).f2, 0⟩ : S81), (⟨(rd_T35 l0_1 x33_2).f2, (rd_T35 l0_1 x33_2).f1, -0⟩ : S81)] : List (S81)) : List (S81))).bind fun y163 => (if x8_2.length + y163.length < 5864062014805 then (impl_lows.l1 k2 a1 l2 a0_0 (x8_2 ++ y163) l0_1 (l0_1.length : Int) (wrap64 (x33_2 + 1))) else (none))) else (impl_lows.l1 k2 a1 l2 a0_0 x8_2 l0_1 (l0_1.length : Int) (wrap64 (x33_2 + 1)))))))) else (impl_lows.l1 k2 a1 l2 a0_0 x8_2 l0_1 (l0_1.length : Int) (wrap64 (x33_2 + 1)))) = some r := by rw [← hbq17] at H; exact H
          have Nbq17 := zA hbq17
          clear hbq17
          by_cases c18 : bq17 = true
          ·subst c18
           have H1 : (if ((rd_T35 l0_1 x33_2).f0) = (wrap64 (1 + a1)) then ((some (([(⟨a0_0, (rd_T35 l0_1 x33_2).f1, (rd_T35 l0_1 x33_2).f3⟩ : S81), (⟨(rd_T35 l0_1 x33_2).f1, a0_0, wrap64 (-((rd_T35 l0_1 x33_2).f3))⟩ : S81)] : List (S81)) : List (S81))).bind fun y142 => (if x8_2.length + y142.length < 5864062014805 then (impl_lows.l1 k2 a1 l2 a0_0 (x8_2 ++ y142) l0_1 (l0_1.length : Int) (wrap64 (x33_2 + 1))) else (none))) else (if ((rd_T35 l0_1 x33_2).f0) = (wrap64 (3 + a1)) then ((some (([(⟨(rd_T35 l0_1 x33_2).f1, (rd_T35 l0_1 x33_2).f2, (rd_T35 l0_1 x33_2).f3⟩ : S81), (⟨(rd_T35 l0_1 x33_2).f2, (rd_T35 l0_1 x33_2).f1, wrap64 (-((rd_T35 l0_1 x33_2).f3))⟩ : S81)] : List (S81)) : List (S81))).bind fun y148 => (if x8_2.length + y148.length < 5864062014805 then (impl_lows.l1 k2 a1 l2 a0_0 (x8_2 ++ y148) l0_1 (l0_1.length : Int) (wrap64 (x33_2 + 1))) else (none))) else (if ((rd_T35 l0_1 x33_2).f0) = (wrap64 (5 + a1)) then (if x8_2.length < 5864062014805 then (impl_lows.l1 k2 a1 l2 a0_0 (x8_2 ++ [(⟨(rd_T35 l0_1 x33_2).f1, (rd_T35 l0_1 x33_2).f2, (rd_T35 l0_1 x33_2).f3⟩ : S81)]) l0_1 (l0_1.length : Int) (wrap64 (x33_2 + 1))) else (none)) else (if ((rd_T35 l0_1 x33_2).f0) = (wrap64 (7 + a1)) then ((some (([(⟨(rd_T35 l0_1 x33_2).f1, (rd_T35 l0_1 x33_2).f2, 0⟩ : S81), (⟨(rd_T35 l0_1 x33_2).f2, (rd_T35 l0_1 x33_2).f1, -0⟩ : S81)] : List (S81)) : List (S81))).bind fun y157 => (if x8_2.length + y157.length < 5864062014805 then (impl_lows.l1 k2 a1 l2 a0_0 (x8_2 ++ y157) l0_1 (l0_1.length : Int) (wrap64 (x33_2 + 1))) else (none))) else (if ((rd_T35 l0_1 x33_2).f0) = 9 then ((some (([(⟨(rd_T35 l0_1 x33_2).f1, (rd_T35 l0_1 x33_2).f2, 0⟩ : S81), (⟨(rd_T35 l0_1 x33_2).f2, (rd_T35 l0_1 x33_2).f1, -0⟩ : S81)] : List (S81)) : List (S81))).bind fun y163 => (if x8_2.length + y163.length < 5864062014805 then (impl_lows.l1 k2 a1 l2 a0_0 (x8_2 ++ y163) l0_1 (l0_1.length : Int) (wrap64 (x33_2 + 1))) else (none))) else (impl_lows.l1 k2 a1 l2 a0_0 x8_2 l0_1 (l0_1.length : Int) (wrap64 (x33_2 + 1)))))))) = some r := by rw [if_pos rfl] at H; exact H
           clear H
           have H := H1
           clear H1
           by_cases c19 : ((rd_T35 l0_1 x33_2).f0) = (wrap64 (1 + a1))
           ·rw [if_pos c19] at H
            have c19b0 : (((rd_T35 l0_1 x33_2).f0) == (wrap64 (1 + a1))) = true := beq_iff_eq.mpr c19
            have c19b1 : (((rd_T35 l0_1 x33_2).f0) != (wrap64 (1 + a1))) = false := bne_eq_false_iff_eq.mpr c19
            clear c19
            obtain ⟨y142, hy142⟩ : ∃ y_ : List (S81), y_ = (([(⟨a0_0, (rd_T35 l0_1 x33_2).f1, (rd_T35 l0_1 x33_2).f3⟩ : S81), (⟨(rd_T35 l0_1 x33_2).f1, a0_0, wrap64 (-((rd_T35 l0_1 x33_2).f3))⟩ : S81)] : List (S81))) := ⟨_, rfl⟩
            replace H : (if x8_2.length + y142.length < 5864062014805 then (impl_lows.l1 k2 a1 l2 a0_0 (x8_2 ++ y142) l0_1 (l0_1.length : Int) (wrap64 (x33_2 + 1))) else (none)) = some r := by first | (rw [hy142]; with_reducible exact H) | (have H2_ := (Option.bind_some _ _).symm.trans H; rw [hy142]; with_reducible exact H2_) | (have H2_ := (Option.bind_some _ _).symm.trans H; with_reducible exact H2_) | with_reducible exact H | (rw [hy142]; exact H) | exact H
            have Ny142 := zA hy142
            clear hy142
            by_cases c20 : x8_2.length + y142.length < 5864062014805
            ·rw [if_pos c20] at H
             have LMc20 := zA c20
             clear c20
             obtain ⟨y145, hy145⟩ : ∃ y_ : List (S81), y_ = (x8_2 ++ y142) := ⟨_, rfl⟩
             replace H : (impl_lows.l1 k2 a1 l2 a0_0 y145 l0_1 (l0_1.length : Int) (wrap64 (x33_2 + 1))) = some r := by first | (rw [hy145]; with_reducible exact H) | (have H2_ := (Option.bind_some _ _).symm.trans H; rw [hy145]; with_reducible exact H2_) | (have H2_ := (Option.bind_some _ _).symm.trans H; with_reducible exact H2_) | with_reducible exact H | (rw [hy145]; exact H) | exact H
             have Ny145 := zA hy145
             clear hy145
             have H' := zA H
             clear H
             have p139 : 0 ≤ (x33_2 : Int) := of_decide_eq_true (by first | (with_reducible assumption) | assumption)
             have q139 : x33_2 < (l0_1.length : Int) := of_decide_eq_true (by first | (with_reducible assumption) | assumption)
             obtain ⟨ad139, e139, hx139_0, hx139_1, hx139_2, hx139_3⟩ := at_T35 HR0_1.out x33_2 p139 q139
             cases e139
             replace hx139_0 := hb_ HB.out hx139_0
             replace hx139_1 := hb_ HB.out hx139_1
             replace hx139_2 := hb_ HB.out hx139_2
             replace hx139_3 := hb_ HB.out hx139_3
             replace p139 := eq_true p139
             replace q139 := eq_true q139
             go_wp2_with (first | ((with_reducible refine gate_dst (N := 12) rfl ?_); refine box_event ?hg (N := 12) ?hd (cs := #[.int .i64 0, .int .i64 0, .int .i64 0, .int .i64 0]) (t := 35) ?hr ?_; (case hd => rfl); (case hg => rfl); (case hr => first | (go_simp; done) | (go_simp; rfl)); intro gb112 hg w21 hbox hb; have n0_ := zA (zL (bC_ HO_8) hb); have n1_ := zA (zU (g := gb104) (o := .cells #[.int .i64 a0_0, .slice (some ad139) l0_1.length c0_1] 25 (0, 0)) (bA_ BK104) hb); have ln1_ := zA (zU (g := gbL) (o := .cells #[v8] 78 (0, 0)) (bA_ BKL) hb); have n2_ := zA (below_step (bB_ HB) hb); have n3_ := zA (hbox); have n4_ := zA ((by rw [hg]; exact (zT (bB_ HB)) : w.heap.size ≤ gb112)); have n5_ := zA ((by rw [hg]; exact (zT (bB_ HB)) : w.heap.size ≤ gb112)); have n6_ := zA ((by rw [hg]; exact Nat.ne_of_lt (blk_lt (g := gb104) (o := .cells #[.int .i64 a0_0, .slice (some ad139) l0_1.length c0_1] 25 (0, 0)) (bA_ BK104)) : gb104 ≠ gb112)); have ln6_ := zA ((by rw [hg]; exact Nat.ne_of_lt (blk_lt (g := gbL) (o := .cells #[v8] 78 (0, 0)) (bA_ BKL)) : gbL ≠ gb112)); have n7_ := zA ((by rw [hg]; exact Nat.ne_of_gt (blk_lt (g := gb104) (o := .cells #[.int .i64 a0_0, .slice (some ad139) l0_1.length c0_1] 25 (0, 0)) (bA_ BK104)) : gb112 ≠ gb104)); have ln7_ := zA ((by rw [hg]; exact Nat.ne_of_gt (blk_lt (g := gbL) (o := .cells #[v8] 78 (0, 0)) (bA_ BKL)) : gb112 ≠ gbL)); clear HO_8; clear BK104; clear BKL; clear HB; have HO_8 := n0_; have BK104 := n1_; have BKL := ln1_; have HB := n2_; have BK112 := n3_; have GW112 := n4_; have GE112 := n5_; have NB104_112 := n6_; have NBL_112 := ln6_; have NB112_104 := n7_; have NB112_L := ln7_; clear n0_ n1_ n2_ n3_ n4_ n5_ n6_ n7_; clear ln1_ ln6_ ln7_; clear hb hbox hg; have hnb22 := NB112_104.out; have hnc22 := NB104_112.out; have hcz23_0 : w21.cell? ⟨gb112, 0, none⟩ = some (.int .i64 0) := (blk_cell BK112.out 0).trans rfl; have hcz23_1 : w21.cell? ⟨gb112, 1, none⟩ = some (.int .i64 0) := (blk_cell BK112.out 1).trans rfl; have hcz23_2 : w21.cell? ⟨gb112, 2, none⟩ = some (.int .i64 0) := (blk_cell BK112.out 2).trans rfl; have hcz23_3 : w21.cell? ⟨gb112, 3, none⟩ = some (.int .i64 0) := (blk_cell BK112.out 3).trans rfl; have hfz23_0 := blk_frozen BK112.out 0; have hfz23_1 := blk_frozen BK112.out 1; have hfz23_2 := blk_frozen BK112.out 2; have hfz23_3 := blk_frozen BK112.out 3; have p141 : 0 ≤ (x33_2 : Int) := of_decide_eq_true (by first | (with_reducible assumption) | assumption); have q141 : x33_2 < (l2.length : Int) := of_decide_eq_true (by first | (with_reducible assumption) | assumption); obtain ⟨ad141, e141, hx141_0⟩ := Kd.at_bool HR2.out x33_2 p141 q141; (try rw [← Nbq17.out] at hx141_0); cases e141; have hn141_0 : ad141.block ≠ gb112 := Nat.ne_of_lt (Nat.lt_of_lt_of_le (by have := World.block_lt_of_cell? _ _ hx141_0; first | rwa [add_block] at this | exact this) GW112.out); have hn141_1 : ad141.block ≠ gb112 := Nat.ne_of_lt (Nat.lt_of_lt_of_le (by have := World.block_lt_of_cell? _ _ hx141_0; first | rwa [add_block] at this | exact this) GW112.out); have hn141_2 : ad141.block ≠ gb112 := Nat.ne_of_lt (Nat.lt_of_lt_of_le (by have := World.block_lt_of_cell? _ _ hx141_0; first | rwa [add_block] at this | exact this) GW112.out); have hn141_3 : ad141.block ≠ gb112 := Nat.ne_of_lt (Nat.lt_of_lt_of_le (by have := World.block_lt_of_cell? _ _ hx141_0; first | rwa [add_block] at this | exact this) GW112.out); replace hx141_0 := hb_ HB.out hx141_0; replace hx141_0 := (cell_far (p := ⟨gb112, 0, none⟩) (by first | (rw [add_block]; exact hn141_0) | (show (Addr.add _ _).block ≠ _; rw [add_block]; exact hn141_0) | exact hn141_0) (.int .i64 ((rd_T35 l0_1 x33_2).f0))).trans hx141_0; replace hx141_0 := (cell_far (p := ⟨gb112, 1, none⟩) (by first | (rw [add_block]; exact hn141_1) | (show (Addr.add _ _).block ≠ _; rw [add_block]; exact hn141_1) | exact hn141_1) (.int .i64 ((rd_T35 l0_1 x33_2).f1))).trans hx141_0; replace hx141_0 := (cell_far (p := ⟨gb112, 2, none⟩) (by first | (rw [add_block]; exact hn141_2) | (show (Addr.add _ _).block ≠ _; rw [add_block]; exact hn141_2) | exact hn141_2) (.int .i64 ((rd_T35 l0_1 x33_2).f2))).trans hx141_0; replace hx141_0 := (cell_far (p := ⟨gb112, 3, none⟩) (by first | (rw [add_block]; exact hn141_3) | (show (Addr.add _ _).block ≠ _; rw [add_block]; exact hn141_3) | exact hn141_3) (.int .i64 ((rd_T35 l0_1 x33_2).f3))).trans hx141_0; clear hn141_0; clear hn141_1; clear hn141_2; clear hn141_3; replace p141 := eq_true p141; replace q141 := eq_true q141) | (go_at_call 55; refine (lows_same.calls gbL a0_0 ((rd_T35 l0_1 x33_2).f1) ((rd_T35 l0_1 x33_2).f3) v8 x8_2 w _ ?sB GEL.out ?sK ?sO ?sL).mono ?_; (case sB => exact (bB_ HB)); (case sK => exact (bD_ BKL)); (case sO => exact (by (with_reducible repeat (first | apply zF | apply zE | apply zG)); exact (Kd.R_mono (Kd.R_far (p := ⟨gb112, 3, none⟩) (Kd.R_far (p := ⟨gb112, 2, none⟩) (Kd.R_far (p := ⟨gb112, 1, none⟩) (Kd.R_far (p := ⟨gb112, 0, none⟩) (Kd.R_types HO_8.out BK112.out (by decide)) (fun _ hk => hk.2) (.int .i64 ((rd_T35 l0_1 x33_2).f0))) (fun _ hk => hk.2) (.int .i64 ((rd_T35 l0_1 x33_2).f1))) (fun _ hk => hk.2) (.int .i64 ((rd_T35 l0_1 x33_2).f2))) (fun _ hk => hk.2) (.int .i64 ((rd_T35 l0_1 x33_2).f3))) (fun _ h_ => h_.1)))); (case sL => have h_ := LMc20.out; rw [Ny142.out] at h_; exact h_); rintro e_ wS ⟨rfl, vS, hoS, hkS, hbS, hkeepS⟩; (first | rw [← Ny142.out, ← Ny145.out] at hoS | (rw [show wrap64 (-(0 : Int)) = -0 from by unfold wrap64; omega] at hoS; rw [← Ny142.out, ← Ny145.out] at hoS)); have n0_ := zA (hkeepS gb104 #[.int .i64 a0_0, .slice (some ad139) l0_1.length c0_1] 25 (by decide) NB104_L.out (bD_ BK104)); have n1_ := zA hoS; have n2_ := zA hkS; have n3_ := zA hbS; clear HB BK104 BK112 BKL HO_8; have BK104 := n0_; have HO_8 := n1_; have BKL := n2_; have HB := n3_; clear n0_ n1_ n2_ n3_; clear hoS hkS hbS hkeepS))
             go_roundg k2
             case measure => have := HK1.out; have := HK2.out; omega
             case rel => exact ⟨_, (y145), (wrap64 (x33_2 + 1)), (by first | rfl | (simp; done) | (simp [*]; done)), H', ⟨by have := HK1.out; have := HK2.out; omega⟩, ⟨HO_8.out⟩, ⟨BK104.out⟩, ⟨BKL.out⟩, ⟨HB.out⟩⟩
            ·rw [if_neg c20] at H
             exact absurd H (by simp)
           ·rw [if_neg c19] at H
            have c19b0 : (((rd_T35 l0_1 x33_2).f0) == (wrap64 (1 + a1))) = false := beq_eq_false_iff_ne.mpr c19
            have c19b1 : (((rd_T35 l0_1 x33_2).f0) != (wrap64 (1 + a1))) = true := bne_iff_ne.mpr c19
            by_cases c28 : ((rd_T35 l0_1 x33_2).f0) = (wrap64 (3 + a1))
            ·rw [if_pos c28] at H
             have c28b0 : (((rd_T35 l0_1 x33_2).f0) == (wrap64 (3 + a1))) = true := beq_iff_eq.mpr c28
             have c28b1 : (((rd_T35 l0_1 x33_2).f0) != (wrap64 (3 + a1))) = false := bne_eq_false_iff_eq.mpr c28
             clear c28
             obtain ⟨y148, hy148⟩ : ∃ y_ : List (S81), y_ = (([(⟨(rd_T35 l0_1 x33_2).f1, (rd_T35 l0_1 x33_2).f2, (rd_T35 l0_1 x33_2).f3⟩ : S81), (⟨(rd_T35 l0_1 x33_2).f2, (rd_T35 l0_1 x33_2).f1, wrap64 (-((rd_T35 l0_1 x33_2).f3))⟩ : S81)] : List (S81))) := ⟨_, rfl⟩
             replace H : (if x8_2.length + y148.length < 5864062014805 then (impl_lows.l1 k2 a1 l2 a0_0 (x8_2 ++ y148) l0_1 (l0_1.length : Int) (wrap64 (x33_2 + 1))) else (none)) = some r := by first | (rw [hy148]; with_reducible exact H) | (have H2_ := (Option.bind_some _ _).symm.trans H; rw [hy148]; with_reducible exact H2_) | (have H2_ := (Option.bind_some _ _).symm.trans H; with_reducible exact H2_) | with_reducible exact H | (rw [hy148]; exact H) | exact H
             have Ny148 := zA hy148
             clear hy148
             by_cases c29 : x8_2.length + y148.length < 5864062014805
             ·rw [if_pos c29] at H
              have LMc29 := zA c29
              clear c29
              obtain ⟨y151, hy151⟩ : ∃ y_ : List (S81), y_ = (x8_2 ++ y148) := ⟨_, rfl⟩
              replace H : (impl_lows.l1 k2 a1 l2 a0_0 y151 l0_1 (l0_1.length : Int) (wrap64 (x33_2 + 1))) = some r := by first | (rw [hy151]; with_reducible exact H) | (have H2_ := (Option.bind_some _ _).symm.trans H; rw [hy151]; with_reducible exact H2_) | (have H2_ := (Option.bind_some _ _).symm.trans H; with_reducible exact H2_) | with_reducible exact H | (rw [hy151]; exact H) | exact H
              have Ny151 := zA hy151
              clear hy151
              have H' := zA H
              clear H
              have p139 : 0 ≤ (x33_2 : Int) := of_decide_eq_true (by first | (with_reducible assumption) | assumption)
              have q139 : x33_2 < (l0_1.length : Int) := of_decide_eq_true (by first | (with_reducible assumption) | assumption)
              obtain ⟨ad139, e139, hx139_0, hx139_1, hx139_2, hx139_3⟩ := at_T35 HR0_1.out x33_2 p139 q139
              cases e139
              replace hx139_0 := hb_ HB.out hx139_0
              replace hx139_1 := hb_ HB.out hx139_1
              replace hx139_2 := hb_ HB.out hx139_2
              replace hx139_3 := hb_ HB.out hx139_3
              replace p139 := eq_true p139
              replace q139 := eq_true q139
              go_wp2_with (first | ((with_reducible refine gate_dst (N := 12) rfl ?_); refine box_event ?hg (N := 12) ?hd (cs := #[.int .i64 0, .int .i64 0, .int .i64 0, .int .i64 0]) (t := 35) ?hr ?_; (case hd => rfl); (case hg => rfl); (case hr => first | (go_simp; done) | (go_simp; rfl)); intro gb112 hg w30 hbox hb; have n0_ := zA (zL (bC_ HO_8) hb); have n1_ := zA (zU (g := gb104) (o := .cells #[.int .i64 a0_0, .slice (some ad139) l0_1.length c0_1] 25 (0, 0)) (bA_ BK104) hb); have ln1_ := zA (zU (g := gbL) (o := .cells #[v8] 78 (0, 0)) (bA_ BKL) hb); have n2_ := zA (below_step (bB_ HB) hb); have n3_ := zA (hbox); have n4_ := zA ((by rw [hg]; exact (zT (bB_ HB)) : w.heap.size ≤ gb112)); have n5_ := zA ((by rw [hg]; exact (zT (bB_ HB)) : w.heap.size ≤ gb112)); have n6_ := zA ((by rw [hg]; exact Nat.ne_of_lt (blk_lt (g := gb104) (o := .cells #[.int .i64 a0_0, .slice (some ad139) l0_1.length c0_1] 25 (0, 0)) (bA_ BK104)) : gb104 ≠ gb112)); have ln6_ := zA ((by rw [hg]; exact Nat.ne_of_lt (blk_lt (g := gbL) (o := .cells #[v8] 78 (0, 0)) (bA_ BKL)) : gbL ≠ gb112)); have n7_ := zA ((by rw [hg]; exact Nat.ne_of_gt (blk_lt (g := gb104) (o := .cells #[.int .i64 a0_0, .slice (some ad139) l0_1.length c0_1] 25 (0, 0)) (bA_ BK104)) : gb112 ≠ gb104)); have ln7_ := zA ((by rw [hg]; exact Nat.ne_of_gt (blk_lt (g := gbL) (o := .cells #[v8] 78 (0, 0)) (bA_ BKL)) : gb112 ≠ gbL)); clear HO_8; clear BK104; clear BKL; clear HB; have HO_8 := n0_; have BK104 := n1_; have BKL := ln1_; have HB := n2_; have BK112 := n3_; have GW112 := n4_; have GE112 := n5_; have NB104_112 := n6_; have NBL_112 := ln6_; have NB112_104 := n7_; have NB112_L := ln7_; clear n0_ n1_ n2_ n3_ n4_ n5_ n6_ n7_; clear ln1_ ln6_ ln7_; clear hb hbox hg; have hnb31 := NB112_104.out; have hnc31 := NB104_112.out; have hcz32_0 : w30.cell? ⟨gb112, 0, none⟩ = some (.int .i64 0) := (blk_cell BK112.out 0).trans rfl; have hcz32_1 : w30.cell? ⟨gb112, 1, none⟩ = some (.int .i64 0) := (blk_cell BK112.out 1).trans rfl; have hcz32_2 : w30.cell? ⟨gb112, 2, none⟩ = some (.int .i64 0) := (blk_cell BK112.out 2).trans rfl; have hcz32_3 : w30.cell? ⟨gb112, 3, none⟩ = some (.int .i64 0) := (blk_cell BK112.out 3).trans rfl; have hfz32_0 := blk_frozen BK112.out 0; have hfz32_1 := blk_frozen BK112.out 1; have hfz32_2 := blk_frozen BK112.out 2; have hfz32_3 := blk_frozen BK112.out 3; have p141 : 0 ≤ (x33_2 : Int) := of_decide_eq_true (by first | (with_reducible assumption) | assumption); have q141 : x33_2 < (l2.length : Int) := of_decide_eq_true (by first | (with_reducible assumption) | assumption); obtain ⟨ad141, e141, hx141_0⟩ := Kd.at_bool HR2.out x33_2 p141 q141; (try rw [← Nbq17.out] at hx141_0); cases e141; have hn141_0 : ad141.block ≠ gb112 := Nat.ne_of_lt (Nat.lt_of_lt_of_le (by have := World.block_lt_of_cell? _ _ hx141_0; first | rwa [add_block] at this | exact this) GW112.out); have hn141_1 : ad141.block ≠ gb112 := Nat.ne_of_lt (Nat.lt_of_lt_of_le (by have := World.block_lt_of_cell? _ _ hx141_0; first | rwa [add_block] at this | exact this) GW112.out); have hn141_2 : ad141.block ≠ gb112 := Nat.ne_of_lt (Nat.lt_of_lt_of_le (by have := World.block_lt_of_cell? _ _ hx141_0; first | rwa [add_block] at this | exact this) GW112.out); have hn141_3 : ad141.block ≠ gb112 := Nat.ne_of_lt (Nat.lt_of_lt_of_le (by have := World.block_lt_of_cell? _ _ hx141_0; first | rwa [add_block] at this | exact this) GW112.out); replace hx141_0 := hb_ HB.out hx141_0; replace hx141_0 := (cell_far (p := ⟨gb112, 0, none⟩) (by first | (rw [add_block]; exact hn141_0) | (show (Addr.add _ _).block ≠ _; rw [add_block]; exact hn141_0) | exact hn141_0) (.int .i64 ((rd_T35 l0_1 x33_2).f0))).trans hx141_0; replace hx141_0 := (cell_far (p := ⟨gb112, 1, none⟩) (by first | (rw [add_block]; exact hn141_1) | (show (Addr.add _ _).block ≠ _; rw [add_block]; exact hn141_1) | exact hn141_1) (.int .i64 ((rd_T35 l0_1 x33_2).f1))).trans hx141_0; replace hx141_0 := (cell_far (p := ⟨gb112, 2, none⟩) (by first | (rw [add_block]; exact hn141_2) | (show (Addr.add _ _).block ≠ _; rw [add_block]; exact hn141_2) | exact hn141_2) (.int .i64 ((rd_T35 l0_1 x33_2).f2))).trans hx141_0; replace hx141_0 := (cell_far (p := ⟨gb112, 3, none⟩) (by first | (rw [add_block]; exact hn141_3) | (show (Addr.add _ _).block ≠ _; rw [add_block]; exact hn141_3) | exact hn141_3) (.int .i64 ((rd_T35 l0_1 x33_2).f3))).trans hx141_0; clear hn141_0; clear hn141_1; clear hn141_2; clear hn141_3; replace p141 := eq_true p141; replace q141 := eq_true q141) | (go_at_call 55; refine (lows_same.calls gbL ((rd_T35 l0_1 x33_2).f1) ((rd_T35 l0_1 x33_2).f2) ((rd_T35 l0_1 x33_2).f3) v8 x8_2 w _ ?sB GEL.out ?sK ?sO ?sL).mono ?_; (case sB => exact (bB_ HB)); (case sK => exact (bD_ BKL)); (case sO => exact (by (with_reducible repeat (first | apply zF | apply zE | apply zG)); exact (Kd.R_mono (Kd.R_far (p := ⟨gb112, 3, none⟩) (Kd.R_far (p := ⟨gb112, 2, none⟩) (Kd.R_far (p := ⟨gb112, 1, none⟩) (Kd.R_far (p := ⟨gb112, 0, none⟩) (Kd.R_types HO_8.out BK112.out (by decide)) (fun _ hk => hk.2) (.int .i64 ((rd_T35 l0_1 x33_2).f0))) (fun _ hk => hk.2) (.int .i64 ((rd_T35 l0_1 x33_2).f1))) (fun _ hk => hk.2) (.int .i64 ((rd_T35 l0_1 x33_2).f2))) (fun _ hk => hk.2) (.int .i64 ((rd_T35 l0_1 x33_2).f3))) (fun _ h_ => h_.1)))); (case sL => have h_ := LMc29.out; rw [Ny148.out] at h_; exact h_); rintro e_ wS ⟨rfl, vS, hoS, hkS, hbS, hkeepS⟩; (first | rw [← Ny148.out, ← Ny151.out] at hoS | (rw [show wrap64 (-(0 : Int)) = -0 from by unfold wrap64; omega] at hoS; rw [← Ny148.out, ← Ny151.out] at hoS)); have n0_ := zA (hkeepS gb104 #[.int .i64 a0_0, .slice (some ad139) l0_1.length c0_1] 25 (by decide) NB104_L.out (bD_ BK104)); have n1_ := zA hoS; have n2_ := zA hkS; have n3_ := zA hbS; clear HB BK104 BK112 BKL HO_8; have BK104 := n0_; have HO_8 := n1_; have BKL := n2_; have HB := n3_; clear n0_ n1_ n2_ n3_; clear hoS hkS hbS hkeepS))
              go_roundg k2
              case measure => have := HK1.out; have := HK2.out; omega
              case rel => exact ⟨_, (y151), (wrap64 (x33_2 + 1)), (by first | rfl | (simp; done) | (simp [*]; done)), H', ⟨by have := HK1.out; have := HK2.out; omega⟩, ⟨HO_8.out⟩, ⟨BK104.out⟩, ⟨BKL.out⟩, ⟨HB.out⟩⟩
             ·rw [if_neg c29] at H
              exact absurd H (by simp)
            ·rw [if_neg c28] at H
             have c28b0 : (((rd_T35 l0_1 x33_2).f0) == (wrap64 (3 + a1))) = false := beq_eq_false_iff_ne.mpr c28
             have c28b1 : (((rd_T35 l0_1 x33_2).f0) != (wrap64 (3 + a1))) = true := bne_iff_ne.mpr c28
             by_cases c37 : ((rd_T35 l0_1 x33_2).f0) = (wrap64 (5 + a1))
             ·rw [if_pos c37] at H
              have c37b0 : (((rd_T35 l0_1 x33_2).f0) == (wrap64 (5 + a1))) = true := beq_iff_eq.mpr c37
              have c37b1 : (((rd_T35 l0_1 x33_2).f0) != (wrap64 (5 + a1))) = false := bne_eq_false_iff_eq.mpr c37
              clear c37
              by_cases c38 : x8_2.length < 5864062014805
              ·rw [if_pos c38] at H
               have LMc38 := zA c38
               clear c38
               obtain ⟨y154, hy154⟩ : ∃ y_ : List (S81), y_ = (x8_2 ++ [(⟨(rd_T35 l0_1 x33_2).f1, (rd_T35 l0_1 x33_2).f2, (rd_T35 l0_1 x33_2).f3⟩ : S81)]) := ⟨_, rfl⟩
               replace H : (impl_lows.l1 k2 a1 l2 a0_0 y154 l0_1 (l0_1.length : Int) (wrap64 (x33_2 + 1))) = some r := by first | (rw [hy154]; with_reducible exact H) | (have H2_ := (Option.bind_some _ _).symm.trans H; rw [hy154]; with_reducible exact H2_) | (have H2_ := (Option.bind_some _ _).symm.trans H; with_reducible exact H2_) | with_reducible exact H | (rw [hy154]; exact H) | exact H
               have Ny154 := zA hy154
               clear hy154
               have H' := zA H
               clear H
               have p139 : 0 ≤ (x33_2 : Int) := of_decide_eq_true (by first | (with_reducible assumption) | assumption)
               have q139 : x33_2 < (l0_1.length : Int) := of_decide_eq_true (by first | (with_reducible assumption) | assumption)
               obtain ⟨ad139, e139, hx139_0, hx139_1, hx139_2, hx139_3⟩ := at_T35 HR0_1.out x33_2 p139 q139
               cases e139
               replace hx139_0 := hb_ HB.out hx139_0
               replace hx139_1 := hb_ HB.out hx139_1
               replace hx139_2 := hb_ HB.out hx139_2
               replace hx139_3 := hb_ HB.out hx139_3
               replace p139 := eq_true p139
               replace q139 := eq_true q139
               go_wp2_with (first | ((with_reducible refine gate_dst (N := 12) rfl ?_); refine box_event ?hg (N := 12) ?hd (cs := #[.int .i64 0, .int .i64 0, .int .i64 0, .int .i64 0]) (t := 35) ?hr ?_; (case hd => rfl); (case hg => rfl); (case hr => first | (go_simp; done) | (go_simp; rfl)); intro gb112 hg w39 hbox hb; have n0_ := zA (zL (bC_ HO_8) hb); have n1_ := zA (zU (g := gb104) (o := .cells #[.int .i64 a0_0, .slice (some ad139) l0_1.length c0_1] 25 (0, 0)) (bA_ BK104) hb); have ln1_ := zA (zU (g := gbL) (o := .cells #[v8] 78 (0, 0)) (bA_ BKL) hb); have n2_ := zA (below_step (bB_ HB) hb); have n3_ := zA (hbox); have n4_ := zA ((by rw [hg]; exact (zT (bB_ HB)) : w.heap.size ≤ gb112)); have n5_ := zA ((by rw [hg]; exact (zT (bB_ HB)) : w.heap.size ≤ gb112)); have n6_ := zA ((by rw [hg]; exact Nat.ne_of_lt (blk_lt (g := gb104) (o := .cells #[.int .i64 a0_0, .slice (some ad139) l0_1.length c0_1] 25 (0, 0)) (bA_ BK104)) : gb104 ≠ gb112)); have ln6_ := zA ((by rw [hg]; exact Nat.ne_of_lt (blk_lt (g := gbL) (o := .cells #[v8] 78 (0, 0)) (bA_ BKL)) : gbL ≠ gb112)); have n7_ := zA ((by rw [hg]; exact Nat.ne_of_gt (blk_lt (g := gb104) (o := .cells #[.int .i64 a0_0, .slice (some ad139) l0_1.length c0_1] 25 (0, 0)) (bA_ BK104)) : gb112 ≠ gb104)); have ln7_ := zA ((by rw [hg]; exact Nat.ne_of_gt (blk_lt (g := gbL) (o := .cells #[v8] 78 (0, 0)) (bA_ BKL)) : gb112 ≠ gbL)); clear HO_8; clear BK104; clear BKL; clear HB; have HO_8 := n0_; have BK104 := n1_; have BKL := ln1_; have HB := n2_; have BK112 := n3_; have GW112 := n4_; have GE112 := n5_; have NB104_112 := n6_; have NBL_112 := ln6_; have NB112_104 := n7_; have NB112_L := ln7_; clear n0_ n1_ n2_ n3_ n4_ n5_ n6_ n7_; clear ln1_ ln6_ ln7_; clear hb hbox hg; have hnb40 := NB112_104.out; have hnc40 := NB104_112.out; have hcz41_0 : w39.cell? ⟨gb112, 0, none⟩ = some (.int .i64 0) := (blk_cell BK112.out 0).trans rfl; have hcz41_1 : w39.cell? ⟨gb112, 1, none⟩ = some (.int .i64 0) := (blk_cell BK112.out 1).trans rfl; have hcz41_2 : w39.cell? ⟨gb112, 2, none⟩ = some (.int .i64 0) := (blk_cell BK112.out 2).trans rfl; have hcz41_3 : w39.cell? ⟨gb112, 3, none⟩ = some (.int .i64 0) := (blk_cell BK112.out 3).trans rfl; have hfz41_0 := blk_frozen BK112.out 0; have hfz41_1 := blk_frozen BK112.out 1; have hfz41_2 := blk_frozen BK112.out 2; have hfz41_3 := blk_frozen BK112.out 3; have p141 : 0 ≤ (x33_2 : Int) := of_decide_eq_true (by first | (with_reducible assumption) | assumption); have q141 : x33_2 < (l2.length : Int) := of_decide_eq_true (by first | (with_reducible assumption) | assumption); obtain ⟨ad141, e141, hx141_0⟩ := Kd.at_bool HR2.out x33_2 p141 q141; (try rw [← Nbq17.out] at hx141_0); cases e141; have hn141_0 : ad141.block ≠ gb112 := Nat.ne_of_lt (Nat.lt_of_lt_of_le (by have := World.block_lt_of_cell? _ _ hx141_0; first | rwa [add_block] at this | exact this) GW112.out); have hn141_1 : ad141.block ≠ gb112 := Nat.ne_of_lt (Nat.lt_of_lt_of_le (by have := World.block_lt_of_cell? _ _ hx141_0; first | rwa [add_block] at this | exact this) GW112.out); have hn141_2 : ad141.block ≠ gb112 := Nat.ne_of_lt (Nat.lt_of_lt_of_le (by have := World.block_lt_of_cell? _ _ hx141_0; first | rwa [add_block] at this | exact this) GW112.out); have hn141_3 : ad141.block ≠ gb112 := Nat.ne_of_lt (Nat.lt_of_lt_of_le (by have := World.block_lt_of_cell? _ _ hx141_0; first | rwa [add_block] at this | exact this) GW112.out); replace hx141_0 := hb_ HB.out hx141_0; replace hx141_0 := (cell_far (p := ⟨gb112, 0, none⟩) (by first | (rw [add_block]; exact hn141_0) | (show (Addr.add _ _).block ≠ _; rw [add_block]; exact hn141_0) | exact hn141_0) (.int .i64 ((rd_T35 l0_1 x33_2).f0))).trans hx141_0; replace hx141_0 := (cell_far (p := ⟨gb112, 1, none⟩) (by first | (rw [add_block]; exact hn141_1) | (show (Addr.add _ _).block ≠ _; rw [add_block]; exact hn141_1) | exact hn141_1) (.int .i64 ((rd_T35 l0_1 x33_2).f1))).trans hx141_0; replace hx141_0 := (cell_far (p := ⟨gb112, 2, none⟩) (by first | (rw [add_block]; exact hn141_2) | (show (Addr.add _ _).block ≠ _; rw [add_block]; exact hn141_2) | exact hn141_2) (.int .i64 ((rd_T35 l0_1 x33_2).f2))).trans hx141_0; replace hx141_0 := (cell_far (p := ⟨gb112, 3, none⟩) (by first | (rw [add_block]; exact hn141_3) | (show (Addr.add _ _).block ≠ _; rw [add_block]; exact hn141_3) | exact hn141_3) (.int .i64 ((rd_T35 l0_1 x33_2).f3))).trans hx141_0; clear hn141_0; clear hn141_1; clear hn141_2; clear hn141_3; replace p141 := eq_true p141; replace q141 := eq_true q141; have hczb : w39.cell? ⟨gbL, 0, none⟩ = some v8 := (blk_cell BKL.out 0).trans rfl; have hfzb := blk_frozen BKL.out 0; have hnbL := NBL_112.out; have hncL := Ne.symm NBL_112.out) | ((with_reducible refine gate_builtin (b := .append) (xs := #[.tmp 76, .tmp 84]) rfl ?_); at_builtin; refine Kd.R_append k81 (w0 := w) w.heap.size rfl (.tmp 76) (.tmp 84) 78 81 (.agg #[(.int .i64 0), (.int .i64 0), (.int .i64 0)]) 24 rfl Try.underlying78 info81 rfl (by decide) (by omega) v8 x8_2 (⟨(rd_T35 l0_1 x33_2).f1, (rd_T35 l0_1 x33_2).f2, (rd_T35 l0_1 x33_2).f3⟩ : S81) [.int .i64 ((rd_T35 l0_1 x33_2).f1), .int .i64 ((rd_T35 l0_1 x33_2).f2), .int .i64 ((rd_T35 l0_1 x33_2).f3)] (fun _ => True) (fun _ => False) rfl (by first | (go_simp; done) | (go_simp; rfl)) ?aP (fun _ hk => hk.elim) ?aF ?aO ?aB ?aS ?aL ?_; (case aP => exact k81_mkM _ _ _ (⟨(rd_T35 l0_1 x33_2).f1, (rd_T35 l0_1 x33_2).f2, (rd_T35 l0_1 x33_2).f3⟩ : S81)); (case aB => exact (bB_ HB)); (case aF => exact (fun _ _ => trivial)); (case aO => exact (by (with_reducible repeat (first | apply zF | apply zE | apply zG)); exact Kd.R_mono (Kd.R_far (p := ⟨gb112, 3, none⟩) (Kd.R_far (p := ⟨gb112, 2, none⟩) (Kd.R_far (p := ⟨gb112, 1, none⟩) (Kd.R_far (p := ⟨gb112, 0, none⟩) (Kd.R_types HO_8.out BK112.out (by decide)) (fun _ hk => hk.2) (.int .i64 ((rd_T35 l0_1 x33_2).f0))) (fun _ hk => hk.2) (.int .i64 ((rd_T35 l0_1 x33_2).f1))) (fun _ hk => hk.2) (.int .i64 ((rd_T35 l0_1 x33_2).f2))) (fun _ hk => hk.2) (.int .i64 ((rd_T35 l0_1 x33_2).f3))) (fun _ hk => trivial))); (case aS => exact (zT (bB_ HB))); (case aL => have := LMc38.out; omega); intro v155 w42 ho hb hg hat; rw [← Ny154.out] at ho; have n0_ := zA (blk_grown (g := gb104) (o := .cells #[.int .i64 a0_0, .slice (some ad139) l0_1.length c0_1] 25 (0, 0)) (bD_ BK104) hg (Kd.R_ne HO_8.out BK104.out (by decide))); have ln0_ := zA (blk_grown (g := gbL) (o := .cells #[v8] 78 (0, 0)) (bD_ BKL) hg (Kd.R_ne HO_8.out BKL.out (by decide))); have n1_ := zA (blk_grown (g := gb112) (o := .cells #[.int .i64 ((rd_T35 l0_1 x33_2).f0), .int .i64 ((rd_T35 l0_1 x33_2).f1), .int .i64 ((rd_T35 l0_1 x33_2).f2), .int .i64 ((rd_T35 l0_1 x33_2).f3)] 35 (0, 0)) (by (with_reducible repeat (first | refine zM ?_ _ | refine zN ?_ | refine zO ?_ _)); refine blk_put (cs := #[.int .i64 ((rd_T35 l0_1 x33_2).f0), .int .i64 ((rd_T35 l0_1 x33_2).f1), .int .i64 ((rd_T35 l0_1 x33_2).f2), .int .i64 0]) ?_ 3 _ rfl; (with_reducible repeat (first | refine zM ?_ _ | refine zN ?_ | refine zO ?_ _)); refine blk_put (cs := #[.int .i64 ((rd_T35 l0_1 x33_2).f0), .int .i64 ((rd_T35 l0_1 x33_2).f1), .int .i64 0, .int .i64 0]) ?_ 2 _ rfl; (with_reducible repeat (first | refine zM ?_ _ | refine zN ?_ | refine zO ?_ _)); refine blk_put (cs := #[.int .i64 ((rd_T35 l0_1 x33_2).f0), .int .i64 0, .int .i64 0, .int .i64 0]) ?_ 1 _ rfl; (with_reducible repeat (first | refine zM ?_ _ | refine zN ?_ | refine zO ?_ _)); refine blk_put (cs := #[.int .i64 0, .int .i64 0, .int .i64 0, .int .i64 0]) ?_ 0 _ rfl; (with_reducible repeat (first | refine zM ?_ _ | refine zN ?_ | refine zO ?_ _)); exact BK112.out) hg (Kd.R_ne HO_8.out BK112.out (by decide))); have n2_ := zA (hb); have n3_ := zA (ho); clear BK104; clear BKL; clear BK112; clear HB; clear HO_8; have BK104 := n0_; have BKL := ln0_; have BK112 := n1_; have HB := n2_; have HO156 := n3_; clear n0_ n1_ n2_ n3_; clear ln0_; clear ho hb hg hat; have hczm : w42.cell? ⟨gbL, 0, none⟩ = some v8 := (blk_cell BKL.out 0).trans rfl; have hfzm := blk_frozen BKL.out 0; obtain ⟨AoL, coL, eoL⟩ := Kd.R_slice HO156.out; subst eoL))
               go_roundg k2
               case measure => have := HK1.out; have := HK2.out; omega
               case rel => exact ⟨_, (y154), (wrap64 (x33_2 + 1)), (by first | rfl | (simp; done) | (simp [*]; done)), H', ⟨by have := HK1.out; have := HK2.out; omega⟩, ⟨Kd.R_mono (Kd.R_far (p := ⟨gbL, 0, none⟩) (Kd.R_types HO156.out BKL.out (by decide)) (fun _ hk => hk.2) _) (fun _ _ => trivial)⟩, ⟨blk_far BK104.out NB104_L.out _⟩, ⟨blk_put (cs := #[v8]) BKL.out 0 _ rfl⟩, ⟨zS HB.out GEL.out⟩⟩
              ·rw [if_neg c38] at H
               exact absurd H (by simp)
             ·rw [if_neg c37] at H
              have c37b0 : (((rd_T35 l0_1 x33_2).f0) == (wrap64 (5 + a1))) = false := beq_eq_false_iff_ne.mpr c37
              have c37b1 : (((rd_T35 l0_1 x33_2).f0) != (wrap64 (5 + a1))) = true := bne_iff_ne.mpr c37
              by_cases c43 : ((rd_T35 l0_1 x33_2).f0) = (wrap64 (7 + a1))
              ·rw [if_pos c43] at H
               have c43b0 : (((rd_T35 l0_1 x33_2).f0) == (wrap64 (7 + a1))) = true := beq_iff_eq.mpr c43
               have c43b1 : (((rd_T35 l0_1 x33_2).f0) != (wrap64 (7 + a1))) = false := bne_eq_false_iff_eq.mpr c43
               clear c43
               obtain ⟨y157, hy157⟩ : ∃ y_ : List (S81), y_ = (([(⟨(rd_T35 l0_1 x33_2).f1, (rd_T35 l0_1 x33_2).f2, 0⟩ : S81), (⟨(rd_T35 l0_1 x33_2).f2, (rd_T35 l0_1 x33_2).f1, -0⟩ : S81)] : List (S81))) := ⟨_, rfl⟩
               replace H : (if x8_2.length + y157.length < 5864062014805 then (impl_lows.l1 k2 a1 l2 a0_0 (x8_2 ++ y157) l0_1 (l0_1.length : Int) (wrap64 (x33_2 + 1))) else (none)) = some r := by first | (rw [hy157]; with_reducible exact H) | (have H2_ := (Option.bind_some _ _).symm.trans H; rw [hy157]; with_reducible exact H2_) | (have H2_ := (Option.bind_some _ _).symm.trans H; with_reducible exact H2_) | with_reducible exact H | (rw [hy157]; exact H) | exact H
               have Ny157 := zA hy157
               clear hy157
               by_cases c44 : x8_2.length + y157.length < 5864062014805
               ·rw [if_pos c44] at H
                have LMc44 := zA c44
                clear c44
                obtain ⟨y160, hy160⟩ : ∃ y_ : List (S81), y_ = (x8_2 ++ y157) := ⟨_, rfl⟩
                replace H : (impl_lows.l1 k2 a1 l2 a0_0 y160 l0_1 (l0_1.length : Int) (wrap64 (x33_2 + 1))) = some r := by first | (rw [hy160]; with_reducible exact H) | (have H2_ := (Option.bind_some _ _).symm.trans H; rw [hy160]; with_reducible exact H2_) | (have H2_ := (Option.bind_some _ _).symm.trans H; with_reducible exact H2_) | with_reducible exact H | (rw [hy160]; exact H) | exact H
                have Ny160 := zA hy160
                clear hy160
                have H' := zA H
                clear H
                have p139 : 0 ≤ (x33_2 : Int) := of_decide_eq_true (by first | (with_reducible assumption) | assumption)
                have q139 : x33_2 < (l0_1.length : Int) := of_decide_eq_true (by first | (with_reducible assumption) | assumption)
                obtain ⟨ad139, e139, hx139_0, hx139_1, hx139_2, hx139_3⟩ := at_T35 HR0_1.out x33_2 p139 q139
                cases e139
                replace hx139_0 := hb_ HB.out hx139_0
                replace hx139_1 := hb_ HB.out hx139_1
                replace hx139_2 := hb_ HB.out hx139_2
                replace hx139_3 := hb_ HB.out hx139_3
                replace p139 := eq_true p139
                replace q139 := eq_true q139
                go_wp2_with (first | ((with_reducible refine gate_dst (N := 12) rfl ?_); refine box_event ?hg (N := 12) ?hd (cs := #[.int .i64 0, .int .i64 0, .int .i64 0, .int .i64 0]) (t := 35) ?hr ?_; (case hd => rfl); (case hg => rfl); (case hr => first | (go_simp; done) | (go_simp; rfl)); intro gb112 hg w45 hbox hb; have n0_ := zA (zL (bC_ HO_8) hb); have n1_ := zA (zU (g := gb104) (o := .cells #[.int .i64 a0_0, .slice (some ad139) l0_1.length c0_1] 25 (0, 0)) (bA_ BK104) hb); have ln1_ := zA (zU (g := gbL) (o := .cells #[v8] 78 (0, 0)) (bA_ BKL) hb); have n2_ := zA (below_step (bB_ HB) hb); have n3_ := zA (hbox); have n4_ := zA ((by rw [hg]; exact (zT (bB_ HB)) : w.heap.size ≤ gb112)); have n5_ := zA ((by rw [hg]; exact (zT (bB_ HB)) : w.heap.size ≤ gb112)); have n6_ := zA ((by rw [hg]; exact Nat.ne_of_lt (blk_lt (g := gb104) (o := .cells #[.int .i64 a0_0, .slice (some ad139) l0_1.length c0_1] 25 (0, 0)) (bA_ BK104)) : gb104 ≠ gb112)); have ln6_ := zA ((by rw [hg]; exact Nat.ne_of_lt (blk_lt (g := gbL) (o := .cells #[v8] 78 (0, 0)) (bA_ BKL)) : gbL ≠ gb112)); have n7_ := zA ((by rw [hg]; exact Nat.ne_of_gt (blk_lt (g := gb104) (o := .cells #[.int .i64 a0_0, .slice (some ad139) l0_1.length c0_1] 25 (0, 0)) (bA_ BK104)) : gb112 ≠ gb104)); have ln7_ := zA ((by rw [hg]; exact Nat.ne_of_gt (blk_lt (g := gbL) (o := .cells #[v8] 78 (0, 0)) (bA_ BKL)) : gb112 ≠ gbL)); clear HO_8; clear BK104; clear BKL; clear HB; have HO_8 := n0_; have BK104 := n1_; have BKL := ln1_; have HB := n2_; have BK112 := n3_; have GW112 := n4_; have GE112 := n5_; have NB104_112 := n6_; have NBL_112 := ln6_; have NB112_104 := n7_; have NB112_L := ln7_; clear n0_ n1_ n2_ n3_ n4_ n5_ n6_ n7_; clear ln1_ ln6_ ln7_; clear hb hbox hg; have hnb46 := NB112_104.out; have hnc46 := NB104_112.out; have hcz47_0 : w45.cell? ⟨gb112, 0, none⟩ = some (.int .i64 0) := (blk_cell BK112.out 0).trans rfl; have hcz47_1 : w45.cell? ⟨gb112, 1, none⟩ = some (.int .i64 0) := (blk_cell BK112.out 1).trans rfl; have hcz47_2 : w45.cell? ⟨gb112, 2, none⟩ = some (.int .i64 0) := (blk_cell BK112.out 2).trans rfl; have hcz47_3 : w45.cell? ⟨gb112, 3, none⟩ = some (.int .i64 0) := (blk_cell BK112.out 3).trans rfl; have hfz47_0 := blk_frozen BK112.out 0; have hfz47_1 := blk_frozen BK112.out 1; have hfz47_2 := blk_frozen BK112.out 2; have hfz47_3 := blk_frozen BK112.out 3; have p141 : 0 ≤ (x33_2 : Int) := of_decide_eq_true (by first | (with_reducible assumption) | assumption); have q141 : x33_2 < (l2.length : Int) := of_decide_eq_true (by first | (with_reducible assumption) | assumption); obtain ⟨ad141, e141, hx141_0⟩ := Kd.at_bool HR2.out x33_2 p141 q141; (try rw [← Nbq17.out] at hx141_0); cases e141; have hn141_0 : ad141.block ≠ gb112 := Nat.ne_of_lt (Nat.lt_of_lt_of_le (by have := World.block_lt_of_cell? _ _ hx141_0; first | rwa [add_block] at this | exact this) GW112.out); have hn141_1 : ad141.block ≠ gb112 := Nat.ne_of_lt (Nat.lt_of_lt_of_le (by have := World.block_lt_of_cell? _ _ hx141_0; first | rwa [add_block] at this | exact this) GW112.out); have hn141_2 : ad141.block ≠ gb112 := Nat.ne_of_lt (Nat.lt_of_lt_of_le (by have := World.block_lt_of_cell? _ _ hx141_0; first | rwa [add_block] at this | exact this) GW112.out); have hn141_3 : ad141.block ≠ gb112 := Nat.ne_of_lt (Nat.lt_of_lt_of_le (by have := World.block_lt_of_cell? _ _ hx141_0; first | rwa [add_block] at this | exact this) GW112.out); replace hx141_0 := hb_ HB.out hx141_0; replace hx141_0 := (cell_far (p := ⟨gb112, 0, none⟩) (by first | (rw [add_block]; exact hn141_0) | (show (Addr.add _ _).block ≠ _; rw [add_block]; exact hn141_0) | exact hn141_0) (.int .i64 ((rd_T35 l0_1 x33_2).f0))).trans hx141_0; replace hx141_0 := (cell_far (p := ⟨gb112, 1, none⟩) (by first | (rw [add_block]; exact hn141_1) | (show (Addr.add _ _).block ≠ _; rw [add_block]; exact hn141_1) | exact hn141_1) (.int .i64 ((rd_T35 l0_1 x33_2).f1))).trans hx141_0; replace hx141_0 := (cell_far (p := ⟨gb112, 2, none⟩) (by first | (rw [add_block]; exact hn141_2) | (show (Addr.add _ _).block ≠ _; rw [add_block]; exact hn141_2) | exact hn141_2) (.int .i64 ((rd_T35 l0_1 x33_2).f2))).trans hx141_0; replace hx141_0 := (cell_far (p := ⟨gb112, 3, none⟩) (by first | (rw [add_block]; exact hn141_3) | (show (Addr.add _ _).block ≠ _; rw [add_block]; exact hn141_3) | exact hn141_3) (.int .i64 ((rd_T35 l0_1 x33_2).f3))).trans hx141_0; clear hn141_0; clear hn141_1; clear hn141_2; clear hn141_3; replace p141 := eq_true p141; replace q141 := eq_true q141) | (go_at_call 55; refine (lows_same.calls gbL ((rd_T35 l0_1 x33_2).f1) ((rd_T35 l0_1 x33_2).f2) 0 v8 x8_2 w _ ?sB GEL.out ?sK ?sO ?sL).mono ?_; (case sB => exact (bB_ HB)); (case sK => exact (bD_ BKL)); (case sO => exact (by (with_reducible repeat (first | apply zF | apply zE | apply zG)); exact (Kd.R_mono (Kd.R_far (p := ⟨gb112, 3, none⟩) (Kd.R_far (p := ⟨gb112, 2, none⟩) (Kd.R_far (p := ⟨gb112, 1, none⟩) (Kd.R_far (p := ⟨gb112, 0, none⟩) (Kd.R_types HO_8.out BK112.out (by decide)) (fun _ hk => hk.2) (.int .i64 ((rd_T35 l0_1 x33_2).f0))) (fun _ hk => hk.2) (.int .i64 ((rd_T35 l0_1 x33_2).f1))) (fun _ hk => hk.2) (.int .i64 ((rd_T35 l0_1 x33_2).f2))) (fun _ hk => hk.2) (.int .i64 ((rd_T35 l0_1 x33_2).f3))) (fun _ h_ => h_.1)))); (case sL => have h_ := LMc44.out; rw [Ny157.out] at h_; exact h_); rintro e_ wS ⟨rfl, vS, hoS, hkS, hbS, hkeepS⟩; (first | rw [← Ny157.out, ← Ny160.out] at hoS | (rw [show wrap64 (-(0 : Int)) = -0 from by unfold wrap64; omega] at hoS; rw [← Ny157.out, ← Ny160.out] at hoS)); have n0_ := zA (hkeepS gb104 #[.int .i64 a0_0, .slice (some ad139) l0_1.length c0_1] 25 (by decide) NB104_L.out (bD_ BK104)); have n1_ := zA hoS; have n2_ := zA hkS; have n3_ := zA hbS; clear HB BK104 BK112 BKL HO_8; have BK104 := n0_; have HO_8 := n1_; have BKL := n2_; have HB := n3_; clear n0_ n1_ n2_ n3_; clear hoS hkS hbS hkeepS))
                go_roundg k2
                case measure => have := HK1.out; have := HK2.out; omega
                case rel => exact ⟨_, (y160), (wrap64 (x33_2 + 1)), (by first | rfl | (simp; done) | (simp [*]; done)), H', ⟨by have := HK1.out; have := HK2.out; omega⟩, ⟨HO_8.out⟩, ⟨BK104.out⟩, ⟨BKL.out⟩, ⟨HB.out⟩⟩
               ·rw [if_neg c44] at H
                exact absurd H (by simp)
              ·rw [if_neg c43] at H
               have c43b0 : (((rd_T35 l0_1 x33_2).f0) == (wrap64 (7 + a1))) = false := beq_eq_false_iff_ne.mpr c43
               have c43b1 : (((rd_T35 l0_1 x33_2).f0) != (wrap64 (7 + a1))) = true := bne_iff_ne.mpr c43
               by_cases c52 : ((rd_T35 l0_1 x33_2).f0) = 9
               ·rw [if_pos c52] at H
                have c52b0 : (((rd_T35 l0_1 x33_2).f0) == 9) = true := beq_iff_eq.mpr c52
                have c52b1 : (((rd_T35 l0_1 x33_2).f0) != 9) = false := bne_eq_false_iff_eq.mpr c52
                clear c52
                obtain ⟨y163, hy163⟩ : ∃ y_ : List (S81), y_ = (([(⟨(rd_T35 l0_1 x33_2).f1, (rd_T35 l0_1 x33_2).f2, 0⟩ : S81), (⟨(rd_T35 l0_1 x33_2).f2, (rd_T35 l0_1 x33_2).f1, -0⟩ : S81)] : List (S81))) := ⟨_, rfl⟩
                replace H : (if x8_2.length + y163.length < 5864062014805 then (impl_lows.l1 k2 a1 l2 a0_0 (x8_2 ++ y163) l0_1 (l0_1.length : Int) (wrap64 (x33_2 + 1))) else (none)) = some r := by first | (rw [hy163]; with_reducible exact H) | (have H2_ := (Option.bind_some _ _).symm.trans H; rw [hy163]; with_reducible exact H2_) | (have H2_ := (Option.bind_some _ _).symm.trans H; with_reducible exact H2_) | with_reducible exact H | (rw [hy163]; exact H) | exact H
                have Ny163 := zA hy163
                clear hy163
                by_cases c53 : x8_2.length + y163.length < 5864062014805
                ·rw [if_pos c53] at H
                 have LMc53 := zA c53
                 clear c53
                 obtain ⟨y166, hy166⟩ : ∃ y_ : List (S81), y_ = (x8_2 ++ y163) := ⟨_, rfl⟩
                 replace H : (impl_lows.l1 k2 a1 l2 a0_0 y166 l0_1 (l0_1.length : Int) (wrap64 (x33_2 + 1))) = some r := by first | (rw [hy166]; with_reducible exact H) | (have H2_ := (Option.bind_some _ _).symm.trans H; rw [hy166]; with_reducible exact H2_) | (have H2_ := (Option.bind_some _ _).symm.trans H; with_reducible exact H2_) | with_reducible exact H | (rw [hy166]; exact H) | exact H
                 have Ny166 := zA hy166
                 clear hy166
                 have H' := zA H
                 clear H
                 have p139 : 0 ≤ (x33_2 : Int) := of_decide_eq_true (by first | (with_reducible assumption) | assumption)
                 have q139 : x33_2 < (l0_1.length : Int) := of_decide_eq_true (by first | (with_reducible assumption) | assumption)
                 obtain ⟨ad139, e139, hx139_0, hx139_1, hx139_2, hx139_3⟩ := at_T35 HR0_1.out x33_2 p139 q139
                 cases e139
                 replace hx139_0 := hb_ HB.out hx139_0
                 replace hx139_1 := hb_ HB.out hx139_1
                 replace hx139_2 := hb_ HB.out hx139_2
                 replace hx139_3 := hb_ HB.out hx139_3
                 replace p139 := eq_true p139
                 replace q139 := eq_true q139
                 go_wp2_with (first | ((with_reducible refine gate_dst (N := 12) rfl ?_); refine box_event ?hg (N := 12) ?hd (cs := #[.int .i64 0, .int .i64 0, .int .i64 0, .int .i64 0]) (t := 35) ?hr ?_; (case hd => rfl); (case hg => rfl); (case hr => first | (go_simp; done) | (go_simp; rfl)); intro gb112 hg w54 hbox hb; have n0_ := zA (zL (bC_ HO_8) hb); have n1_ := zA (zU (g := gb104) (o := .cells #[.int .i64 a0_0, .slice (some ad139) l0_1.length c0_1] 25 (0, 0)) (bA_ BK104) hb); have ln1_ := zA (zU (g := gbL) (o := .cells #[v8] 78 (0, 0)) (bA_ BKL) hb); have n2_ := zA (below_step (bB_ HB) hb); have n3_ := zA (hbox); have n4_ := zA ((by rw [hg]; exact (zT (bB_ HB)) : w.heap.size ≤ gb112)); have n5_ := zA ((by rw [hg]; exact (zT (bB_ HB)) : w.heap.size ≤ gb112)); have n6_ := zA ((by rw [hg]; exact Nat.ne_of_lt (blk_lt (g := gb104) (o := .cells #[.int .i64 a0_0, .slice (some ad139) l0_1.length c0_1] 25 (0, 0)) (bA_ BK104)) : gb104 ≠ gb112)); have ln6_ := zA ((by rw [hg]; exact Nat.ne_of_lt (blk_lt (g := gbL) (o := .cells #[v8] 78 (0, 0)) (bA_ BKL)) : gbL ≠ gb112)); have n7_ := zA ((by rw [hg]; exact Nat.ne_of_gt (blk_lt (g := gb104) (o := .cells #[.int .i64 a0_0, .slice (some ad139) l0_1.length c0_1] 25 (0, 0)) (bA_ BK104)) : gb112 ≠ gb104)); have ln7_ := zA ((by rw [hg]; exact Nat.ne_of_gt (blk_lt (g := gbL) (o := .cells #[v8] 78 (0, 0)) (bA_ BKL)) : gb112 ≠ gbL)); clear HO_8; clear BK104; clear BKL; clear HB; have HO_8 := n0_; have BK104 := n1_; have BKL := ln1_; have HB := n2_; have BK112 := n3_; have GW112 := n4_; have GE112 := n5_; have NB104_112 := n6_; have NBL_112 := ln6_; have NB112_104 := n7_; have NB112_L := ln7_; clear n0_ n1_ n2_ n3_ n4_ n5_ n6_ n7_; clear ln1_ ln6_ ln7_; clear hb hbox hg; have hnb55 := NB112_104.out; have hnc55 := NB104_112.out; have hcz56_0 : w54.cell? ⟨gb112, 0, none⟩ = some (.int .i64 0) := (blk_cell BK112.out 0).trans rfl; have hcz56_1 : w54.cell? ⟨gb112, 1, none⟩ = some (.int .i64 0) := (blk_cell BK112.out 1).trans rfl; have hcz56_2 : w54.cell? ⟨gb112, 2, none⟩ = some (.int .i64 0) := (blk_cell BK112.out 2).trans rfl; have hcz56_3 : w54.cell? ⟨gb112, 3, none⟩ = some (.int .i64 0) := (blk_cell BK112.out 3).trans rfl; have hfz56_0 := blk_frozen BK112.out 0; have hfz56_1 := blk_frozen BK112.out 1; have hfz56_2 := blk_frozen BK112.out 2; have hfz56_3 := blk_frozen BK112.out 3; have p141 : 0 ≤ (x33_2 : Int) := of_decide_eq_true (by first | (with_reducible assumption) | assumption); have q141 : x33_2 < (l2.length : Int) := of_decide_eq_true (by first | (with_reducible assumption) | assumption); obtain ⟨ad141, e141, hx141_0⟩ := Kd.at_bool HR2.out x33_2 p141 q141; (try rw [← Nbq17.out] at hx141_0); cases e141; have hn141_0 : ad141.block ≠ gb112 := Nat.ne_of_lt (Nat.lt_of_lt_of_le (by have := World.block_lt_of_cell? _ _ hx141_0; first | rwa [add_block] at this | exact this) GW112.out); have hn141_1 : ad141.block ≠ gb112 := Nat.ne_of_lt (Nat.lt_of_lt_of_le (by have := World.block_lt_of_cell? _ _ hx141_0; first | rwa [add_block] at this | exact this) GW112.out); have hn141_2 : ad141.block ≠ gb112 := Nat.ne_of_lt (Nat.lt_of_lt_of_le (by have := World.block_lt_of_cell? _ _ hx141_0; first | rwa [add_block] at this | exact this) GW112.out); have hn141_3 : ad141.block ≠ gb112 := Nat.ne_of_lt (Nat.lt_of_lt_of_le (by have := World.block_lt_of_cell? _ _ hx141_0; first | rwa [add_block] at this | exact this) GW112.out); replace hx141_0 := hb_ HB.out hx141_0; replace hx141_0 := (cell_far (p := ⟨gb112, 0, none⟩) (by first | (rw [add_block]; exact hn141_0) | (show (Addr.add _ _).block ≠ _; rw [add_block]; exact hn141_0) | exact hn141_0) (.int .i64 ((rd_T35 l0_1 x33_2).f0))).trans hx141_0; replace hx141_0 := (cell_far (p := ⟨gb112, 1, none⟩) (by first | (rw [add_block]; exact hn141_1) | (show (Addr.add _ _).block ≠ _; rw [add_block]; exact hn141_1) | exact hn141_1) (.int .i64 ((rd_T35 l0_1 x33_2).f1))).trans hx141_0; replace hx141_0 := (cell_far (p := ⟨gb112, 2, none⟩) (by first | (rw [add_block]; exact hn141_2) | (show (Addr.add _ _).block ≠ _; rw [add_block]; exact hn141_2) | exact hn141_2) (.int .i64 ((rd_T35 l0_1 x33_2).f2))).trans hx141_0; replace hx141_0 := (cell_far (p := ⟨gb112, 3, none⟩) (by first | (rw [add_block]; exact hn141_3) | (show (Addr.add _ _).block ≠ _; rw [add_block]; exact hn141_3) | exact hn141_3) (.int .i64 ((rd_T35 l0_1 x33_2).f3))).trans hx141_0; clear hn141_0; clear hn141_1; clear hn141_2; clear hn141_3; replace p141 := eq_true p141; replace q141 := eq_true q141) | (go_at_call 55; refine (lows_same.calls gbL ((rd_T35 l0_1 x33_2).f1) ((rd_T35 l0_1 x33_2).f2) 0 v8 x8_2 w _ ?sB GEL.out ?sK ?sO ?sL).mono ?_; (case sB => exact (bB_ HB)); (case sK => exact (bD_ BKL)); (case sO => exact (by (with_reducible repeat (first | apply zF | apply zE | apply zG)); exact (Kd.R_mono (Kd.R_far (p := ⟨gb112, 3, none⟩) (Kd.R_far (p := ⟨gb112, 2, none⟩) (Kd.R_far (p := ⟨gb112, 1, none⟩) (Kd.R_far (p := ⟨gb112, 0, none⟩) (Kd.R_types HO_8.out BK112.out (by decide)) (fun _ hk => hk.2) (.int .i64 ((rd_T35 l0_1 x33_2).f0))) (fun _ hk => hk.2) (.int .i64 ((rd_T35 l0_1 x33_2).f1))) (fun _ hk => hk.2) (.int .i64 ((rd_T35 l0_1 x33_2).f2))) (fun _ hk => hk.2) (.int .i64 ((rd_T35 l0_1 x33_2).f3))) (fun _ h_ => h_.1)))); (case sL => have h_ := LMc53.out; rw [Ny163.out] at h_; exact h_); rintro e_ wS ⟨rfl, vS, hoS, hkS, hbS, hkeepS⟩; (first | rw [← Ny163.out, ← Ny166.out] at hoS | (rw [show wrap64 (-(0 : Int)) = -0 from by unfold wrap64; omega] at hoS; rw [← Ny163.out, ← Ny166.out] at hoS)); have n0_ := zA (hkeepS gb104 #[.int .i64 a0_0, .slice (some ad139) l0_1.length c0_1] 25 (by decide) NB104_L.out (bD_ BK104)); have n1_ := zA hoS; have n2_ := zA hkS; have n3_ := zA hbS; clear HB BK104 BK112 BKL HO_8; have BK104 := n0_; have HO_8 := n1_; have BKL := n2_; have HB := n3_; clear n0_ n1_ n2_ n3_; clear hoS hkS hbS hkeepS))
                 go_roundg k2
                 case measure => have := HK1.out; have := HK2.out; omega
                 case rel => exact ⟨_, (y166), (wrap64 (x33_2 + 1)), (by first | rfl | (simp; done) | (simp [*]; done)), H', ⟨by have := HK1.out; have := HK2.out; omega⟩, ⟨HO_8.out⟩, ⟨BK104.out⟩, ⟨BKL.out⟩, ⟨HB.out⟩⟩
                ·rw [if_neg c53] at H
                 exact absurd H (by simp)
               ·rw [if_neg c52] at H
                have c52b0 : (((rd_T35 l0_1 x33_2).f0) == 9) = false := beq_eq_false_iff_ne.mpr c52
                have c52b1 : (((rd_T35 l0_1 x33_2).f0) != 9) = true := bne_iff_ne.mpr c52
                have H' := zA H
                clear H
                have p139 : 0 ≤ (x33_2 : Int) := of_decide_eq_true (by first | (with_reducible assumption) | assumption)
                have q139 : x33_2 < (l0_1.length : Int) := of_decide_eq_true (by first | (with_reducible assumption) | assumption)
                obtain ⟨ad139, e139, hx139_0, hx139_1, hx139_2, hx139_3⟩ := at_T35 HR0_1.out x33_2 p139 q139
                cases e139
                replace hx139_0 := hb_ HB.out hx139_0
                replace hx139_1 := hb_ HB.out hx139_1
                replace hx139_2 := hb_ HB.out hx139_2
                replace hx139_3 := hb_ HB.out hx139_3
                replace p139 := eq_true p139
                replace q139 := eq_true q139
                go_wp2_with (first | ((with_reducible refine gate_dst (N := 12) rfl ?_); refine box_event ?hg (N := 12) ?hd (cs := #[.int .i64 0, .int .i64 0, .int .i64 0, .int .i64 0]) (t := 35) ?hr ?_; (case hd => rfl); (case hg => rfl); (case hr => first | (go_simp; done) | (go_simp; rfl)); intro gb112 hg w61 hbox hb; have n0_ := zA (zL (bC_ HO_8) hb); have n1_ := zA (zU (g := gb104) (o := .cells #[.int .i64 a0_0, .slice (some ad139) l0_1.length c0_1] 25 (0, 0)) (bA_ BK104) hb); have ln1_ := zA (zU (g := gbL) (o := .cells #[v8] 78 (0, 0)) (bA_ BKL) hb); have n2_ := zA (below_step (bB_ HB) hb); have n3_ := zA (hbox); have n4_ := zA ((by rw [hg]; exact (zT (bB_ HB)) : w.heap.size ≤ gb112)); have n5_ := zA ((by rw [hg]; exact (zT (bB_ HB)) : w.heap.size ≤ gb112)); have n6_ := zA ((by rw [hg]; exact Nat.ne_of_lt (blk_lt (g := gb104) (o := .cells #[.int .i64 a0_0, .slice (some ad139) l0_1.length c0_1] 25 (0, 0)) (bA_ BK104)) : gb104 ≠ gb112)); have ln6_ := zA ((by rw [hg]; exact Nat.ne_of_lt (blk_lt (g := gbL) (o := .cells #[v8] 78 (0, 0)) (bA_ BKL)) : gbL ≠ gb112)); have n7_ := zA ((by rw [hg]; exact Nat.ne_of_gt (blk_lt (g := gb104) (o := .cells #[.int .i64 a0_0, .slice (some ad139) l0_1.length c0_1] 25 (0, 0)) (bA_ BK104)) : gb112 ≠ gb104)); have ln7_ := zA ((by rw [hg]; exact Nat.ne_of_gt (blk_lt (g := gbL) (o := .cells #[v8] 78 (0, 0)) (bA_ BKL)) : gb112 ≠ gbL)); clear HO_8; clear BK104; clear BKL; clear HB; have HO_8 := n0_; have BK104 := n1_; have BKL := ln1_; have HB := n2_; have BK112 := n3_; have GW112 := n4_; have GE112 := n5_; have NB104_112 := n6_; have NBL_112 := ln6_; have NB112_104 := n7_; have NB112_L := ln7_; clear n0_ n1_ n2_ n3_ n4_ n5_ n6_ n7_; clear ln1_ ln6_ ln7_; clear hb hbox hg; have hnb62 := NB112_104.out; have hnc62 := NB104_112.out; have hcz63_0 : w61.cell? ⟨gb112, 0, none⟩ = some (.int .i64 0) := (blk_cell BK112.out 0).trans rfl; have hcz63_1 : w61.cell? ⟨gb112, 1, none⟩ = some (.int .i64 0) := (blk_cell BK112.out 1).trans rfl; have hcz63_2 : w61.cell? ⟨gb112, 2, none⟩ = some (.int .i64 0) := (blk_cell BK112.out 2).trans rfl; have hcz63_3 : w61.cell? ⟨gb112, 3, none⟩ = some (.int .i64 0) := (blk_cell BK112.out 3).trans rfl; have hfz63_0 := blk_frozen BK112.out 0; have hfz63_1 := blk_frozen BK112.out 1; have hfz63_2 := blk_frozen BK112.out 2; have hfz63_3 := blk_frozen BK112.out 3; have p141 : 0 ≤ (x33_2 : Int) := of_decide_eq_true (by first | (with_reducible assumption) | assumption); have q141 : x33_2 < (l2.length : Int) := of_decide_eq_true (by first | (with_reducible assumption) | assumption); obtain ⟨ad141, e141, hx141_0⟩ := Kd.at_bool HR2.out x33_2 p141 q141; (try rw [← Nbq17.out] at hx141_0); cases e141; have hn141_0 : ad141.block ≠ gb112 := Nat.ne_of_lt (Nat.lt_of_lt_of_le (by have := World.block_lt_of_cell? _ _ hx141_0; first | rwa [add_block] at this | exact this) GW112.out); have hn141_1 : ad141.block ≠ gb112 := Nat.ne_of_lt (Nat.lt_of_lt_of_le (by have := World.block_lt_of_cell? _ _ hx141_0; first | rwa [add_block] at this | exact this) GW112.out); have hn141_2 : ad141.block ≠ gb112 := Nat.ne_of_lt (Nat.lt_of_lt_of_le (by have := World.block_lt_of_cell? _ _ hx141_0; first | rwa [add_block] at this | exact this) GW112.out); have hn141_3 : ad141.block ≠ gb112 := Nat.ne_of_lt (Nat.lt_of_lt_of_le (by have := World.block_lt_of_cell? _ _ hx141_0; first | rwa [add_block] at this | exact this) GW112.out); replace hx141_0 := hb_ HB.out hx141_0; replace hx141_0 := (cell_far (p := ⟨gb112, 0, none⟩) (by first | (rw [add_block]; exact hn141_0) | (show (Addr.add _ _).block ≠ _; rw [add_block]; exact hn141_0) | exact hn141_0) (.int .i64 ((rd_T35 l0_1 x33_2).f0))).trans hx141_0; replace hx141_0 := (cell_far (p := ⟨gb112, 1, none⟩) (by first | (rw [add_block]; exact hn141_1) | (show (Addr.add _ _).block ≠ _; rw [add_block]; exact hn141_1) | exact hn141_1) (.int .i64 ((rd_T35 l0_1 x33_2).f1))).trans hx141_0; replace hx141_0 := (cell_far (p := ⟨gb112, 2, none⟩) (by first | (rw [add_block]; exact hn141_2) | (show (Addr.add _ _).block ≠ _; rw [add_block]; exact hn141_2) | exact hn141_2) (.int .i64 ((rd_T35 l0_1 x33_2).f2))).trans hx141_0; replace hx141_0 := (cell_far (p := ⟨gb112, 3, none⟩) (by first | (rw [add_block]; exact hn141_3) | (show (Addr.add _ _).block ≠ _; rw [add_block]; exact hn141_3) | exact hn141_3) (.int .i64 ((rd_T35 l0_1 x33_2).f3))).trans hx141_0; clear hn141_0; clear hn141_1; clear hn141_2; clear hn141_3; replace p141 := eq_true p141; replace q141 := eq_true q141))
                go_roundg k2
                case measure => have := HK1.out; have := HK2.out; omega
                case rel => exact ⟨_, (x8_2), (wrap64 (x33_2 + 1)), (by first | rfl | (simp; done) | (simp [*]; done)), H', ⟨by have := HK1.out; have := HK2.out; omega⟩, ⟨by (with_reducible repeat (first | apply zF | apply zE | apply zG)); exact Kd.R_mono (Kd.R_far (p := ⟨gb112, 3, none⟩) (Kd.R_far (p := ⟨gb112, 2, none⟩) (Kd.R_far (p := ⟨gb112, 1, none⟩) (Kd.R_far (p := ⟨gb112, 0, none⟩) (Kd.R_types HO_8.out BK112.out (by decide)) (fun _ hk => hk.2) (.int .i64 ((rd_T35 l0_1 x33_2).f0))) (fun _ hk => hk.2) (.int .i64 ((rd_T35 l0_1 x33_2).f1))) (fun _ hk => hk.2) (.int .i64 ((rd_T35 l0_1 x33_2).f2))) (fun _ hk => hk.2) (.int .i64 ((rd_T35 l0_1 x33_2).f3))) (fun _ hk => trivial)⟩, ⟨bD_ BK104⟩, ⟨bD_ BKL⟩, ⟨bB_ HB⟩⟩
          ·replace c18 := Bool.eq_false_iff.mpr c18
           subst c18
           have H1 : (impl_lows.l1 k2 a1 l2 a0_0 x8_2 l0_1 (l0_1.length : Int) (wrap64 (x33_2 + 1))) = some r := by rw [if_neg (show ¬ (false = true) by decide)] at H; exact H
           clear H
           have H := H1
           clear H1
           have H' := zA H
           clear H
           have p139 : 0 ≤ (x33_2 : Int) := of_decide_eq_true (by first | (with_reducible assumption) | assumption)
           have q139 : x33_2 < (l0_1.length : Int) := of_decide_eq_true (by first | (with_reducible assumption) | assumption)
           obtain ⟨ad139, e139, hx139_0, hx139_1, hx139_2, hx139_3⟩ := at_T35 HR0_1.out x33_2 p139 q139
           cases e139
           replace hx139_0 := hb_ HB.out hx139_0
           replace hx139_1 := hb_ HB.out hx139_1
           replace hx139_2 := hb_ HB.out hx139_2
           replace hx139_3 := hb_ HB.out hx139_3
           replace p139 := eq_true p139
           replace q139 := eq_true q139
           go_wp2_with (first | ((with_reducible refine gate_dst (N := 12) rfl ?_); refine box_event ?hg (N := 12) ?hd (cs := #[.int .i64 0, .int .i64 0, .int .i64 0, .int .i64 0]) (t := 35) ?hr ?_; (case hd => rfl); (case hg => rfl); (case hr => first | (go_simp; done) | (go_simp; rfl)); intro gb112 hg w64 hbox hb; have n0_ := zA (zL (bC_ HO_8) hb); have n1_ := zA (zU (g := gb104) (o := .cells #[.int .i64 a0_0, .slice (some ad139) l0_1.length c0_1] 25 (0, 0)) (bA_ BK104) hb); have ln1_ := zA (zU (g := gbL) (o := .cells #[v8] 78 (0, 0)) (bA_ BKL) hb); have n2_ := zA (below_step (bB_ HB) hb); have n3_ := zA (hbox); have n4_ := zA ((by rw [hg]; exact (zT (bB_ HB)) : w.heap.size ≤ gb112)); have n5_ := zA ((by rw [hg]; exact (zT (bB_ HB)) : w.heap.size ≤ gb112)); have n6_ := zA ((by rw [hg]; exact Nat.ne_of_lt (blk_lt (g := gb104) (o := .cells #[.int .i64 a0_0, .slice (some ad139) l0_1.length c0_1] 25 (0, 0)) (bA_ BK104)) : gb104 ≠ gb112)); have ln6_ := zA ((by rw [hg]; exact Nat.ne_of_lt (blk_lt (g := gbL) (o := .cells #[v8] 78 (0, 0)) (bA_ BKL)) : gbL ≠ gb112)); have n7_ := zA ((by rw [hg]; exact Nat.ne_of_gt (blk_lt (g := gb104) (o := .cells #[.int .i64 a0_0, .slice (some ad139) l0_1.length c0_1] 25 (0, 0)) (bA_ BK104)) : gb112 ≠ gb104)); have ln7_ := zA ((by rw [hg]; exact Nat.ne_of_gt (blk_lt (g := gbL) (o := .cells #[v8] 78 (0, 0)) (bA_ BKL)) : gb112 ≠ gbL)); clear HO_8; clear BK104; clear BKL; clear HB; have HO_8 := n0_; have BK104 := n1_; have BKL := ln1_; have HB := n2_; have BK112 := n3_; have GW112 := n4_; have GE112 := n5_; have NB104_112 := n6_; have NBL_112 := ln6_; have NB112_104 := n7_; have NB112_L := ln7_; clear n0_ n1_ n2_ n3_ n4_ n5_ n6_ n7_; clear ln1_ ln6_ ln7_; clear hb hbox hg; have hnb65 := NB112_104.out; have hnc65 := NB104_112.out; have hcz66_0 : w64.cell? ⟨gb112, 0, none⟩ = some (.int .i64 0) := (blk_cell BK112.out 0).trans rfl; have hcz66_1 : w64.cell? ⟨gb112, 1, none⟩ = some (.int .i64 0) := (blk_cell BK112.out 1).trans rfl; have hcz66_2 : w64.cell? ⟨gb112, 2, none⟩ = some (.int .i64 0) := (blk_cell BK112.out 2).trans rfl; have hcz66_3 : w64.cell? ⟨gb112, 3, none⟩ = some (.int .i64 0) := (blk_cell BK112.out 3).trans rfl; have hfz66_0 := blk_frozen BK112.out 0; have hfz66_1 := blk_frozen BK112.out 1; have hfz66_2 := blk_frozen BK112.out 2; have hfz66_3 := blk_frozen BK112.out 3; have p141 : 0 ≤ (x33_2 : Int) := of_decide_eq_true (by first | (with_reducible assumption) | assumption); have q141 : x33_2 < (l2.length : Int) := of_decide_eq_true (by first | (with_reducible assumption) | assumption); obtain ⟨ad141, e141, hx141_0⟩ := Kd.at_bool HR2.out x33_2 p141 q141; (try rw [← Nbq17.out] at hx141_0); cases e141; have hn141_0 : ad141.block ≠ gb112 := Nat.ne_of_lt (Nat.lt_of_lt_of_le (by have := World.block_lt_of_cell? _ _ hx141_0; first | rwa [add_block] at this | exact this) GW112.out); have hn141_1 : ad141.block ≠ gb112 := Nat.ne_of_lt (Nat.lt_of_lt_of_le (by have := World.block_lt_of_cell? _ _ hx141_0; first | rwa [add_block] at this | exact this) GW112.out); have hn141_2 : ad141.block ≠ gb112 := Nat.ne_of_lt (Nat.lt_of_lt_of_le (by have := World.block_lt_of_cell? _ _ hx141_0; first | rwa [add_block] at this | exact this) GW112.out); have hn141_3 : ad141.block ≠ gb112 := Nat.ne_of_lt (Nat.lt_of_lt_of_le (by have := World.block_lt_of_cell? _ _ hx141_0; first | rwa [add_block] at this | exact this) GW112.out); replace hx141_0 := hb_ HB.out hx141_0; replace hx141_0 := (cell_far (p := ⟨gb112, 0, none⟩) (by first | (rw [add_block]; exact hn141_0) | (show (Addr.add _ _).block ≠ _; rw [add_block]; exact hn141_0) | exact hn141_0) (.int .i64 ((rd_T35 l0_1 x33_2).f0))).trans hx141_0; replace hx141_0 := (cell_far (p := ⟨gb112, 1, none⟩) (by first | (rw [add_block]; exact hn141_1) | (show (Addr.add _ _).block ≠ _; rw [add_block]; exact hn141_1) | exact hn141_1) (.int .i64 ((rd_T35 l0_1 x33_2).f1))).trans hx141_0; replace hx141_0 := (cell_far (p := ⟨gb112, 2, none⟩) (by first | (rw [add_block]; exact hn141_2) | (show (Addr.add _ _).block ≠ _; rw [add_block]; exact hn141_2) | exact hn141_2) (.int .i64 ((rd_T35 l0_1 x33_2).f2))).trans hx141_0; replace hx141_0 := (cell_far (p := ⟨gb112, 3, none⟩) (by first | (rw [add_block]; exact hn141_3) | (show (Addr.add _ _).block ≠ _; rw [add_block]; exact hn141_3) | exact hn141_3) (.int .i64 ((rd_T35 l0_1 x33_2).f3))).trans hx141_0; clear hn141_0; clear hn141_1; clear hn141_2; clear hn141_3; replace p141 := eq_true p141; replace q141 := eq_true q141))
           go_roundg k2
           case measure => have := HK1.out; have := HK2.out; omega
           case rel => exact ⟨_, (x8_2), (wrap64 (x33_2 + 1)), (by first | rfl | (simp; done) | (simp [*]; done)), H', ⟨by have := HK1.out; have := HK2.out; omega⟩, ⟨by (with_reducible repeat (first | apply zF | apply zE | apply zG)); exact Kd.R_mono (Kd.R_far (p := ⟨gb112, 3, none⟩) (Kd.R_far (p := ⟨gb112, 2, none⟩) (Kd.R_far (p := ⟨gb112, 1, none⟩) (Kd.R_far (p := ⟨gb112, 0, none⟩) (Kd.R_types HO_8.out BK112.out (by decide)) (fun _ hk => hk.2) (.int .i64 ((rd_T35 l0_1 x33_2).f0))) (fun _ hk => hk.2) (.int .i64 ((rd_T35 l0_1 x33_2).f1))) (fun _ hk => hk.2) (.int .i64 ((rd_T35 l0_1 x33_2).f2))) (fun _ hk => hk.2) (.int .i64 ((rd_T35 l0_1 x33_2).f3))) (fun _ hk => trivial)⟩, ⟨bD_ BK104⟩, ⟨bD_ BKL⟩, ⟨bB_ HB⟩⟩
         ·rw [if_neg c16] at H
          exact absurd H (by simp)
        ·rw [if_neg c15] at H
         exact absurd H (by simp)
       ·rw [if_neg c14] at H
        exact absurd H (by simp)
      ·rw [if_neg c13] at H
       have c13b0 : decide (x33_2 < (l0_1.length : Int)) = false := decide_eq_false c13
       clear c13
       obtain rfl := Option.some.inj H
       go_wp2
       go_ret
       exact ⟨_, by first | rfl | (simp [errW_none, errW_some] <;> rfl) | (simp [*, errW_none, errW_some] <;> rfl), bC_ HO_8, bB_ HB⟩

end Go.Proofs.Ytnbkdfnlggmopaa.PFnExactSketchMove
