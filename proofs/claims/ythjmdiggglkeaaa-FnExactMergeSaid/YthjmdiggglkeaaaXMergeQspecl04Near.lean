import Derived.Test.YthjmdiggglkeaaaXMergeQS
import Derived.Test.YthjmdiggglkeaaaXMergeQspecl01In
/- A Go function as a Lean function, and its contract: for every input the Go code comes to what the Lean function tells. -/


namespace Go.Proofs.Ythjmdiggglkeaaa.Q
open Go.RowKit Go.Proofs.YthjmdiggglkeaaaW.PrintWords Go.Proofs.YthjmdiggglkeaaaW.PrintLast Go.Proofs.YthjmdiggglkeaaaW.PrintMore
attribute [local go_sem] max2_int min2_int max_two min_two max_three min_three max_four min_four   -- for this text's walks alone
set_option linter.unusedVariables false
set_option linter.unusedSimpArgs false

/-! ### spec_l04Near: function 148 -/
def spec_l04Near.l0 : Nat → Int → Int → Int → Int → Int → Int → List (S127) → Int → Bool → Option (Bool)
 | 0, _, _, _, _, _, _, _, _, _ => none
 | k + 1, x3, x246000, x246001, x246002, x246003, x246004, x246005, x246006, x246007 => if x3 < (x246005.length : Int) then (if 0 ≤ x3 then ((spec_l01In.f ((rd_T127 x246005 x3).f0) 1 6).bind fun t248 => (if t248 = true then (if ((rd_T127 x246005 x3).f0) = x246002 then (some false) else ((spec_l01In.f ((rd_T127 x246005 x3).f1) 1 1000).bind fun t249 => (if t249 = true then (if x3 > 0 then (if 0 ≤ (wrap64 (x3 - 1)) then (if (wrap64 (x3 - 1)) < (x246005.length : Int) then (if ((rd_T127 x246005 (wrap64 (x3 - 1))).f0) ≥ ((rd_T127 x246005 x3).f0) then (some false) else (spec_l04Near.l0 k (wrap64 (x3 + 1)) x246000 x246001 x246002 x246003 x246004 x246005 x246006 x246007)) else (none)) else (none)) else (spec_l04Near.l0 k (wrap64 (x3 + 1)) x246000 x246001 x246002 x246003 x246004 x246005 x246006 x246007)) else (some false)))) else (some false))) else (none)) else (some true)
def spec_l04Near.f (k : Nat) (a0_0 : Int) (a0_1 : Int) (a0_2 : Int) (a0_3 : Int) (a0_4 : Int) (l0_5 : List (S127)) (a0_6 : Int) (a0_7 : Bool) : Option (Bool) := spec_l04Near.l0 k 0 a0_0 a0_1 a0_2 a0_3 a0_4 l0_5 a0_6 a0_7
theorem spec_l04Near.mono_l : ∀ k, (∀ y0 y1 y2 y3 y4 y5 y6 y7 y8, LeO (spec_l04Near.l0 k y0 y1 y2 y3 y4 y5 y6 y7 y8) (spec_l04Near.l0 (k + 1) y0 y1 y2 y3 y4 y5 y6 y7 y8))
 | 0 => fun _ _ _ _ _ _ _ _ _ r h => by simp [spec_l04Near.l0] at h
 | k + 1 => by
  have ih0 := spec_l04Near.mono_l k
  ·intro y0 y1 y2 y3 y4 y5 y6 y7 y8
   unfold spec_l04Near.l0
   repeat' first
   | (with_reducible exact ih0 _ _ _ _ _ _ _ _ _)
   | (with_reducible exact LeO.refl _)
   | (with_reducible exact LeO.none _)
   | (with_reducible refine LeO.ite ?_ ?_)
   | (with_reducible refine LeO.bind ?_ (fun _ => ?_))
   | exact ih0 _ _ _ _ _ _ _ _ _
   | exact LeO.none _
   | refine LeO.ite ?_ ?_
   | refine LeO.bind ?_ (fun _ => ?_)
theorem spec_l04Near.mono : ∀ a0 a1 a2 a3 a4 a5 a6 a7 k, LeO (spec_l04Near.f k a0 a1 a2 a3 a4 a5 a6 a7) (spec_l04Near.f (k + 1) a0 a1 a2 a3 a4 a5 a6 a7) := by
 intro a0 a1 a2 a3 a4 a5 a6 a7 k
 have ih0 := spec_l04Near.mono_l k
 unfold spec_l04Near.f
 repeat' first
   | (with_reducible exact ih0 _ _ _ _ _ _ _ _ _)
   | (with_reducible exact LeO.refl _)
   | (with_reducible exact LeO.none _)
   | (with_reducible refine LeO.ite ?_ ?_)
   | (with_reducible refine LeO.bind ?_ (fun _ => ?_))
   | exact ih0 _ _ _ _ _ _ _ _ _
   | exact LeO.none _
   | refine LeO.ite ?_ ?_
   | refine LeO.bind ?_ (fun _ => ?_)
def spec_l04Near.T5 : Bool × List (List Nat × List Nat) := (true, [([], []), ([0], [0]), ([1], [1]), ([2], [2]), ([3, 2], [3]), ([4], [4]), ([5, 4], [4, 5]), ([4], [4]), ([7, 4], [4, 7]), ([6, 8, 4], [4, 6, 8]), ([4, 9], [4, 9]), ([10, 4], [10]), ([11], [11]), ([12, 11], [11, 12]), ([13, 11, 11], [11, 13]), ([14, 11], [11, 14]), ([11, 15], [11, 15]), ([16, 14], [16]), ([17], [17]), ([18, 17], [17, 18]), ([19, 17, 17], [17, 19]), ([20], [20]), ([21, 20], [20, 21]), ([20], [20]), ([23, 20], [20, 23]), ([22, 24, 20], [20, 22, 24]), ([25, 20], [20, 25]), ([26, 20], [20, 26]), ([20], [20]), ([28, 20], [20, 28]), ([27, 29, 20], [20, 27, 29]), ([20, 30, 17], [17, 20, 30]), ([17, 31], [17, 31])])
def spec_l04Near.B5 : List Nat := [0, 1, 3, 7, 15, 31, 63, 31, 159, 511, 1023, 2047, 4095, 8191, 16383, 32767, 65535, 131071, 262143, 524287, 1048575, 2097151, 4194303, 2097151, 10485759, 33554431, 67108863, 134217727, 2097151, 270532607, 1073741823, 2147483647, 4294967295]
theorem spec_l04Near.tab5 : rtab .any (opsOf Try.f148 5) = spec_l04Near.T5 := by kernel_rfl
theorem spec_l04Near.bits5 : waitsOk spec_l04Near.T5.2 spec_l04Near.B5 = true := by kernel_rfl
set_option maxHeartbeats 8000000 in
set_option maxRecDepth 100000 in
theorem spec_l04Near.calls (k : Nat) (a0_0 : Int) (a0_1 : Int) (a0_2 : Int) (a0_3 : Int) (a0_4 : Int) (A0_5 : Option Addr) (c0_5 : Nat) (l0_5 : List (S127)) (a0_6 : Int) (a0_7 : Bool) (r : Bool) (w : World) (hr0_5 : Kd.C k127 w A0_5 l0_5.length l0_5) (hc0_5 : l0_5.length ≤ c0_5) (h : spec_l04Near.f k a0_0 a0_1 a0_2 a0_3 a0_4 l0_5 a0_6 a0_7 = some r) :
  Calls Try.prog 148 #[.agg #[.int .i64 a0_0, .int .i64 a0_1, .int .i64 a0_2, .int .i64 a0_3, .int .i64 a0_4, .slice A0_5 l0_5.length c0_5, .int .i64 a0_6, .bool a0_7]] w fun e w' => e = .returned (.bool r) ∧ Below w.heap.size w w' := by
 have hu61 := Try.underlying61
 have hu127 := Try.underlying127
 have HR0_5 := Aside0.mk hr0_5
 have HC0_5 := Aside0.mk hc0_5
 clear hr0_5 hc0_5
 have HB := Aside0.mk (Below.refl w.heap.size w)
 have H : (spec_l04Near.l0 k 0 a0_0 a0_1 a0_2 a0_3 a0_4 l0_5 a0_6 a0_7) = some r := h
 clear h
 have H' := Aside0.mk H
 clear H
 go_enter Try.func148, Try.ntmps148
 go_wp2_with (first | ((with_reducible refine gate_dst (N := 1) rfl ?_); refine box_event ?hg (N := 1) ?hd (cs := #[.int .i64 a0_0, .int .i64 a0_1, .int .i64 a0_2, .int .i64 a0_3, .int .i64 a0_4, .slice A0_5 l0_5.length c0_5, .int .i64 a0_6, .bool a0_7]) (t := 61) ?hr ?_; (case hd => rfl); (case hg => rfl); (case hr => first | (go_simp; done) | (go_simp; rfl)); intro gb245 hg w2 hbox hb; have n0_ := Aside0.mk (below_step (bw_q HB) hb); have n1_ := Aside0.mk (hbox); have n2_ := Aside0.mk ((by rw [hg]; exact (below_size (bw_q HB)) : w.heap.size ≤ gb245)); have n3_ := Aside0.mk ((by rw [hg]; exact (below_size (bw_q HB)) : w.heap.size ≤ gb245)); clear HB; have HB := n0_; have BK245 := n1_; have GW245 := n2_; have GE245 := n3_; clear n0_ n1_ n2_ n3_; clear hb hbox hg))
 go_loopg [3] k (fun kq v3 w' => ∃ (x3_1 : Int), v3 = .int .i64 x3_1 ∧ Aside0 (spec_l04Near.l0 kq x3_1 a0_0 a0_1 a0_2 a0_3 a0_4 l0_5 a0_6 a0_7 = some r) ∧ Aside0 (kq ≤ k) ∧ Aside0 (w'.heap[gb245]? = some (.cells #[.int .i64 a0_0, .int .i64 a0_1, .int .i64 a0_2, .int .i64 a0_3, .int .i64 a0_4, (.slice A0_5 l0_5.length c0_5), .int .i64 a0_6, .bool a0_7] 61 (0, 0))) ∧ Aside0 (Below w.heap.size w w'))
 case atStart => exact ⟨(0), (by first | rfl | (simp; done) | (simp [*]; done)), H', ⟨Nat.le_refl _⟩, ⟨by (with_reducible repeat (first | refine blk_drewN ?_ _ | refine blk_drew ?_ | refine blk_alloc ?_ _)); exact BK245.out⟩, ⟨bw_q HB⟩⟩
 case round =>
  clear H'
  try clear c1
  try clear p2
  obtain ⟨x3_1, rfl, HA, HK1, BK245, HB⟩ := hrel
  cases gk with
  | zero => exact absurd HA.out (by simp [spec_l04Near.l0])
  | succ k1 =>
   have H := HA.out
   clear HA
   simp only [spec_l04Near.l0] at H
   by_cases c3 : x3_1 < (l0_5.length : Int)
   ·rw [if_pos c3] at H
    have c3b0 : decide (x3_1 < (l0_5.length : Int)) = true := decide_eq_true c3
    clear c3
    by_cases c4 : 0 ≤ x3_1
    ·rw [if_pos c4] at H
     have c4b0 : decide (0 ≤ x3_1) = true := decide_eq_true c4
     clear c4
     replace H := Option.bind_eq_some_iff.mp H
     obtain ⟨t248, A50, H⟩ := H
     replace H : (if t248 = true then (if ((rd_T127 l0_5 x3_1).f0) = a0_2 then (some false) else ((spec_l01In.f ((rd_T127 l0_5 x3_1).f1) 1 1000).bind fun t249 => (if t249 = true then (if x3_1 > 0 then (if 0 ≤ (wrap64 (x3_1 - 1)) then (if (wrap64 (x3_1 - 1)) < (l0_5.length : Int) then (if ((rd_T127 l0_5 (wrap64 (x3_1 - 1))).f0) ≥ ((rd_T127 l0_5 x3_1).f0) then (some false) else (spec_l04Near.l0 k1 (wrap64 (x3_1 + 1)) a0_0 a0_1 a0_2 a0_3 a0_4 l0_5 a0_6 a0_7)) else (none)) else (none)) else (spec_l04Near.l0 k1 (wrap64 (x3_1 + 1)) a0_0 a0_1 a0_2 a0_3 a0_4 l0_5 a0_6 a0_7)) else (some false)))) else (some false)) = some r := H
     have A5 := Aside0.mk A50
     clear A50
     have HZ43 := Aside0.mk H
     clear H
     have hcz8_0 : wr.cell? ⟨gb245, 0, none⟩ = some (.int .i64 a0_0) := (blk_cell BK245.out 0).trans rfl
     have hcz8_1 : wr.cell? ⟨gb245, 1, none⟩ = some (.int .i64 a0_1) := (blk_cell BK245.out 1).trans rfl
     have hcz8_2 : wr.cell? ⟨gb245, 2, none⟩ = some (.int .i64 a0_2) := (blk_cell BK245.out 2).trans rfl
     have hcz8_3 : wr.cell? ⟨gb245, 3, none⟩ = some (.int .i64 a0_3) := (blk_cell BK245.out 3).trans rfl
     have hcz8_4 : wr.cell? ⟨gb245, 4, none⟩ = some (.int .i64 a0_4) := (blk_cell BK245.out 4).trans rfl
     have hcz8_5 : wr.cell? ⟨gb245, 5, none⟩ = some (.slice A0_5 l0_5.length c0_5) := (blk_cell BK245.out 5).trans rfl
     have hcz8_6 : wr.cell? ⟨gb245, 6, none⟩ = some (.int .i64 a0_6) := (blk_cell BK245.out 6).trans rfl
     have hcz8_7 : wr.cell? ⟨gb245, 7, none⟩ = some (.bool a0_7) := (blk_cell BK245.out 7).trans rfl
     have hfz8_0 := blk_frozen BK245.out 0
     have hfz8_1 := blk_frozen BK245.out 1
     have hfz8_2 := blk_frozen BK245.out 2
     have hfz8_3 := blk_frozen BK245.out 3
     have hfz8_4 := blk_frozen BK245.out 4
     have hfz8_5 := blk_frozen BK245.out 5
     have hfz8_6 := blk_frozen BK245.out 6
     have hfz8_7 := blk_frozen BK245.out 7
     have p246 : 0 ≤ (x3_1 : Int) := of_decide_eq_true (by first | (with_reducible assumption) | assumption)
     have q246 : x3_1 < (l0_5.length : Int) := of_decide_eq_true (by first | (with_reducible assumption) | assumption)
     obtain ⟨ad246, e246, hx246_0, hx246_1⟩ := at_T127 HR0_5.out x3_1 p246 q246
     cases e246
     replace hx246_0 := (HB.out.cell (World.block_lt_of_cell? w _ hx246_0)).trans hx246_0
     replace hx246_1 := (HB.out.cell (World.block_lt_of_cell? w _ hx246_1)).trans hx246_1
     replace p246 := eq_true p246
     replace q246 := eq_true q246
     try go_wp2_with (first | ((with_reducible refine gate_dst (N := 4) rfl ?_); refine box_event ?hg (N := 4) ?hd (cs := #[.int .i64 0, .int .i64 0]) (t := 127) ?hr ?_; (case hd => rfl); (case hg => rfl); (case hr => first | (go_simp; done) | (go_simp; rfl)); intro gb247 hg w9 hbox hb; have n0_ := Aside0.mk (blk_below (g := gb245) (bk_q BK245) hb); have n1_ := Aside0.mk (below_step (bw_q HB) hb); have n2_ := Aside0.mk (hbox); have n3_ := Aside0.mk ((by rw [hg]; exact (below_size (bw_q HB)) : w.heap.size ≤ gb247)); have n4_ := Aside0.mk ((by rw [hg]; exact (below_size (bw_q HB)) : w.heap.size ≤ gb247)); have n5_ := Aside0.mk ((by rw [hg]; exact Nat.ne_of_lt (blk_lt (g := gb245) (o := .cells #[.int .i64 a0_0, .int .i64 a0_1, .int .i64 a0_2, .int .i64 a0_3, .int .i64 a0_4, .slice (some ad246) l0_5.length c0_5, .int .i64 a0_6, .bool a0_7] 61 (0, 0)) (bk_q BK245)) : gb245 ≠ gb247)); have n6_ := Aside0.mk ((by rw [hg]; exact Nat.ne_of_gt (blk_lt (g := gb245) (o := .cells #[.int .i64 a0_0, .int .i64 a0_1, .int .i64 a0_2, .int .i64 a0_3, .int .i64 a0_4, .slice (some ad246) l0_5.length c0_5, .int .i64 a0_6, .bool a0_7] 61 (0, 0)) (bk_q BK245)) : gb247 ≠ gb245)); clear BK245; clear HB; have BK245 := n0_; have HB := n1_; have BK247 := n2_; have GW247 := n3_; have GE247 := n4_; have NB245_247 := n5_; have NB247_245 := n6_; clear n0_ n1_ n2_ n3_ n4_ n5_ n6_; clear hb hbox hg; have hnb10 := NB247_245.out; have hnc10 := NB245_247.out; have hcz11_0 : w9.cell? ⟨gb247, 0, none⟩ = some (.int .i64 0) := (blk_cell BK247.out 0).trans rfl; have hcz11_1 : w9.cell? ⟨gb247, 1, none⟩ = some (.int .i64 0) := (blk_cell BK247.out 1).trans rfl; have hfz11_0 := blk_frozen BK247.out 0; have hfz11_1 := blk_frozen BK247.out 1))
     have n0_ : Aside0 (((w9.setCell ⟨gb247, 0, none⟩ (.int .i64 ((rd_T127 l0_5 x3_1).f0))).setCell ⟨gb247, 1, none⟩ (.int .i64 ((rd_T127 l0_5 x3_1).f1))).heap[gb245]? = some (.cells #[.int .i64 a0_0, .int .i64 a0_1, .int .i64 a0_2, .int .i64 a0_3, .int .i64 a0_4, .slice (some ad246) l0_5.length c0_5, .int .i64 a0_6, .bool a0_7] 61 (0, 0))) := ⟨by (with_reducible repeat (first | refine blk_drewN ?_ _ | refine blk_drew ?_ | refine blk_alloc ?_ _)); refine blk_far ?_ NB245_247.out _; (with_reducible repeat (first | refine blk_drewN ?_ _ | refine blk_drew ?_ | refine blk_alloc ?_ _)); refine blk_far ?_ NB245_247.out _; (with_reducible repeat (first | refine blk_drewN ?_ _ | refine blk_drew ?_ | refine blk_alloc ?_ _)); exact BK245.out⟩
     have n1_ : Aside0 (((w9.setCell ⟨gb247, 0, none⟩ (.int .i64 ((rd_T127 l0_5 x3_1).f0))).setCell ⟨gb247, 1, none⟩ (.int .i64 ((rd_T127 l0_5 x3_1).f1))).heap[gb247]? = some (.cells #[.int .i64 ((rd_T127 l0_5 x3_1).f0), .int .i64 ((rd_T127 l0_5 x3_1).f1)] 127 (0, 0))) := ⟨by (with_reducible repeat (first | refine blk_drewN ?_ _ | refine blk_drew ?_ | refine blk_alloc ?_ _)); refine blk_put (cs := #[.int .i64 ((rd_T127 l0_5 x3_1).f0), .int .i64 0]) ?_ 1 _ rfl; (with_reducible repeat (first | refine blk_drewN ?_ _ | refine blk_drew ?_ | refine blk_alloc ?_ _)); refine blk_put (cs := #[.int .i64 0, .int .i64 0]) ?_ 0 _ rfl; (with_reducible repeat (first | refine blk_drewN ?_ _ | refine blk_drew ?_ | refine blk_alloc ?_ _)); exact BK247.out⟩
     have n2_ : Aside0 (Below w.heap.size w ((w9.setCell ⟨gb247, 0, none⟩ (.int .i64 ((rd_T127 l0_5 x3_1).f0))).setCell ⟨gb247, 1, none⟩ (.int .i64 ((rd_T127 l0_5 x3_1).f1)))) := ⟨bw_q HB⟩
     (try clear BK245)
     (try clear BK247)
     (try clear HB)
     generalize ((w9.setCell ⟨gb247, 0, none⟩ (.int .i64 ((rd_T127 l0_5 x3_1).f0))).setCell ⟨gb247, 1, none⟩ (.int .i64 ((rd_T127 l0_5 x3_1).f1))) = w12 at n0_ n1_ n2_ ⊢
     have BK245 := n0_
     have BK247 := n1_
     have HB := n2_
     clear n0_ n1_ n2_
     have n0_ := Aside0.mk (blk_drew BK245.out)
     have n1_ := Aside0.mk (blk_drew BK247.out)
     have n2_ := Aside0.mk (below_drew1 HB.out)
     clear BK245
     clear BK247
     clear HB
     have BK245 := n0_
     have BK247 := n1_
     have HB := n2_
     clear n0_ n1_ n2_
     refine start_ (n := 33) (S := fun w' => w'.cell? ⟨gb247, 0, none⟩ = some (.int .i64 ((rd_T127 l0_5 x3_1).f0)) ∧ w'.cell? ⟨gb247, 1, none⟩ = some (.int .i64 ((rd_T127 l0_5 x3_1).f1))) (ds := []) (bL 33 0) (by kernel_rfl) rfl rfl ⟨(blk_cell BK247.out 0).trans rfl, (blk_cell BK247.out 1).trans rfl⟩ (fun hHeld => ?_); refine with_tabW spec_l04Near.tab5 spec_l04Near.bits5 (fun HT_ HW_ => ?_)
     generalize w12.drew = w13 at BK245 BK247 HB hHeld ⊢
     refine pq_ 0 17 (bL 33 1) HT_.out rfl rfl ?_
     refine take_ (i := 1) (N := some 18) (v := ?_) (a' := ?_) (bL 33 3) rfl rfl (take_ofW HT_.out HW_.out (by kernel_rfl)) (fun _ _ _ h => h) (Or.inl ⟨by rfl, ?_⟩) hHeld ?_ ?_; rotate_left; (rintro w' ⟨s0, s1⟩; go_simp; with_reducible rfl); rotate_left; (exact put_q)
     refine one_ (i := 2) (N := some 19) (bL 33 7) rfl rfl (one_of HT_.out (by kernel_rfl)) (by decide) (fun K hK => ?_)
     refine goes_ Try.func75 (by kernel_rfl) rfl #[.int .i64 ((rd_T127 l0_5 x3_1).f0), .int .i64 1, .int .i64 6] (by rfl) rfl rfl mp_q ?_
     with_reducible refine (spec_l01In.calls ((rd_T127 l0_5 x3_1).f0) 1 6 t248 _ A5.out).mono ?_
     rintro e w' ⟨rfl, ⟨nd, rfl⟩⟩
     refine ⟨_, rfl, ?_⟩
     refine hK.out _ _ ⟨(blk_cell BK247.out 0).trans rfl, (blk_cell BK247.out 1).trans rfl⟩ (fun hHeld => ?_)
     clear hK K
     refine norm_ (a' := ?_) ?_ ?_; rotate_left; (show Act.put _ (some 19) _ = _; simp only [Act.put, List.setIfInBounds_toArray, List.set_cons_zero, List.set_cons_succ, i64_w, i32_w]; rfl)
     refine pq_ 3 20 (bL 33 15) HT_.out rfl rfl ?_
     refine pq_ 4 21 (bL 33 31) HT_.out rfl rfl ?_
     have H := HZ43.out
     clear HZ43
     by_cases c6 : t248 = true
     ·subst c6
      have H1 : (if ((rd_T127 l0_5 x3_1).f0) = a0_2 then (some false) else ((spec_l01In.f ((rd_T127 l0_5 x3_1).f1) 1 1000).bind fun t249 => (if t249 = true then (if x3_1 > 0 then (if 0 ≤ (wrap64 (x3_1 - 1)) then (if (wrap64 (x3_1 - 1)) < (l0_5.length : Int) then (if ((rd_T127 l0_5 (wrap64 (x3_1 - 1))).f0) ≥ ((rd_T127 l0_5 x3_1).f0) then (some false) else (spec_l04Near.l0 k1 (wrap64 (x3_1 + 1)) a0_0 a0_1 a0_2 a0_3 a0_4 l0_5 a0_6 a0_7)) else (none)) else (none)) else (spec_l04Near.l0 k1 (wrap64 (x3_1 + 1)) a0_0 a0_1 a0_2 a0_3 a0_4 l0_5 a0_6 a0_7)) else (some false)))) = some r := by rw [if_pos rfl] at H; exact H
      clear H
      have H := H1
      clear H1
      have HZ44 := Aside0.mk H
      clear H
      refine last_weaken (fun w' => w'.cell? ⟨gb247, 0, none⟩ = some (.int .i64 ((rd_T127 l0_5 x3_1).f0)) ∧ w'.cell? ⟨gb247, 1, none⟩ = some (.int .i64 ((rd_T127 l0_5 x3_1).f1)) ∧ w'.cell? ⟨gb245, 0, none⟩ = some (.int .i64 a0_0) ∧ w'.cell? ⟨gb245, 1, none⟩ = some (.int .i64 a0_1) ∧ w'.cell? ⟨gb245, 2, none⟩ = some (.int .i64 a0_2) ∧ w'.cell? ⟨gb245, 3, none⟩ = some (.int .i64 a0_3) ∧ w'.cell? ⟨gb245, 4, none⟩ = some (.int .i64 a0_4) ∧ w'.cell? ⟨gb245, 5, none⟩ = some (.slice (some ad246) l0_5.length c0_5) ∧ w'.cell? ⟨gb245, 6, none⟩ = some (.int .i64 a0_6) ∧ w'.cell? ⟨gb245, 7, none⟩ = some (.bool a0_7)) (fun w' h_ => ⟨h_.1, h_.2.1⟩) ⟨hHeld.1, hHeld.2, (by first | assumption | exact (blk_cell BK245.out 0).trans rfl), (by first | assumption | exact (blk_cell BK245.out 1).trans rfl), (by first | assumption | exact (blk_cell BK245.out 2).trans rfl), (by first | assumption | exact (blk_cell BK245.out 3).trans rfl), (by first | assumption | exact (blk_cell BK245.out 4).trans rfl), (by first | assumption | exact (blk_cell BK245.out 5).trans rfl), (by first | assumption | exact (blk_cell BK245.out 6).trans rfl), (by first | assumption | exact (blk_cell BK245.out 7).trans rfl)⟩ (fun hHeld => ?_)
      refine pq_ 5 22 (bL 33 63) HT_.out rfl rfl ?_
      refine pq_ 7 24 (bL 33 191) HT_.out rfl rfl ?_
      refine take_ (i := 6) (N := some 23) (v := ?_) (a' := ?_) (bL 33 255) rfl rfl (take_ofW HT_.out HW_.out (by kernel_rfl)) (fun _ _ _ h => h) (Or.inl ⟨by rfl, ?_⟩) hHeld ?_ ?_; rotate_left; (rintro w' ⟨s0, s1, s2, s3, s4, s5, s6, s7, s8, s9⟩; go_simp; with_reducible rfl); rotate_left; (exact put_q)
      refine take_ (i := 8) (N := some 25) (v := ?_) (a' := ?_) (bL 33 511) rfl rfl (take_ofW HT_.out HW_.out (by kernel_rfl)) (fun _ _ _ h => h) (Or.inl ⟨by rfl, ?_⟩) hHeld ?_ ?_; rotate_left; (rintro w' ⟨s0, s1, s2, s3, s4, s5, s6, s7, s8, s9⟩; go_simp; with_reducible rfl); rotate_left; (exact put_q)
      refine pq_ 9 26 (bL 33 1023) HT_.out rfl rfl ?_
      refine pq_ 10 27 (bL 33 2047) HT_.out rfl rfl ?_
      refine pq_ 11 28 (bL 33 4095) HT_.out rfl rfl ?_
      have H := HZ44.out
      clear HZ44
      by_cases c7 : ((rd_T127 l0_5 x3_1).f0) = a0_2
      ·rw [if_pos c7] at H
       have c7b0 : (((rd_T127 l0_5 x3_1).f0) == a0_2) = true := beq_iff_eq.mpr c7
       have c7b1 : (((rd_T127 l0_5 x3_1).f0) != a0_2) = false := bne_eq_false_iff_eq.mpr c7
       (first | rw [c7b0] | rw [c7b1] | (simp only [i64_w, i32_w]; first | rw [c7b0] | rw [c7b1]) | skip)
       clear c7
       obtain rfl := Option.some.inj H
       refine pure_ (i := 12) (N := some 29) (v := undef) (a' := ?_) (bL 33 8191) rfl rfl (any_of HT_.out (by kernel_rfl)) (fun _ _ _ h => h) (Or.inr ⟨by rfl, rfl⟩) ?_ ?_; rotate_left; (exact put_q)
       refine pure_ (i := 13) (N := some 30) (v := undef) (a' := ?_) (bL 33 16383) rfl rfl (any_of HT_.out (by kernel_rfl)) (fun _ _ _ h => h) (Or.inr ⟨by rfl, rfl⟩) ?_ ?_; rotate_left; (exact put_q)
       refine pure_ (i := 14) (N := some 31) (v := undef) (a' := ?_) (bL 33 32767) rfl rfl (any_of HT_.out (by kernel_rfl)) (fun _ _ _ h => h) (Or.inr ⟨by rfl, rfl⟩) ?_ ?_; rotate_left; (exact put_q)
       refine pure_ (i := 15) (N := some 32) (v := undef) (a' := ?_) (bL 33 65535) rfl rfl (any_of HT_.out (by kernel_rfl)) (fun _ _ _ h => h) (Or.inr ⟨by rfl, rfl⟩) ?_ ?_; rotate_left; (exact put_q)
       refine pq_ 16 33 (bL 33 131071) HT_.out rfl rfl ?_
       refine pq_ 17 34 (bL 33 262143) HT_.out rfl rfl ?_
       refine pure_ (i := 18) (N := some 35) (v := undef) (a' := ?_) (bL 33 524287) rfl rfl (any_of HT_.out (by kernel_rfl)) (fun _ _ _ h => h) (Or.inr ⟨by rfl, rfl⟩) ?_ ?_; rotate_left; (exact put_q)
       refine pure_ (i := 19) (N := some 36) (v := undef) (a' := ?_) (bL 33 1048575) rfl rfl (any_of HT_.out (by kernel_rfl)) (fun _ _ _ h => h) (Or.inr ⟨by rfl, rfl⟩) ?_ ?_; rotate_left; (exact put_q)
       refine pure_ (i := 20) (N := some 37) (v := undef) (a' := ?_) (bL 33 2097151) rfl rfl (any_of HT_.out (by kernel_rfl)) (fun _ _ _ h => h) (Or.inr ⟨by rfl, rfl⟩) ?_ ?_; rotate_left; (exact put_q)
       refine pure_ (i := 21) (N := some 38) (v := undef) (a' := ?_) (bL 33 4194303) rfl rfl (any_of HT_.out (by kernel_rfl)) (fun _ _ _ h => h) (Or.inr ⟨by rfl, rfl⟩) ?_ ?_; rotate_left; (exact put_q)
       refine pure_ (i := 22) (N := some 39) (v := undef) (a' := ?_) (bL 33 8388607) rfl rfl (any_of HT_.out (by kernel_rfl)) (fun _ _ _ h => h) (Or.inr ⟨by rfl, rfl⟩) ?_ ?_; rotate_left; (exact put_q)
       refine pure_ (i := 23) (N := some 40) (v := undef) (a' := ?_) (bL 33 16777215) rfl rfl (any_of HT_.out (by kernel_rfl)) (fun _ _ _ h => h) (Or.inr ⟨by rfl, rfl⟩) ?_ ?_; rotate_left; (exact put_q)
       refine pure_ (i := 24) (N := some 41) (v := undef) (a' := ?_) (bL 33 33554431) rfl rfl (any_of HT_.out (by kernel_rfl)) (fun _ _ _ h => h) (Or.inr ⟨by rfl, rfl⟩) ?_ ?_; rotate_left; (exact put_q)
       refine pure_ (i := 25) (N := some 42) (v := undef) (a' := ?_) (bL 33 67108863) rfl rfl (any_of HT_.out (by kernel_rfl)) (fun _ _ _ h => h) (Or.inr ⟨by rfl, rfl⟩) ?_ ?_; rotate_left; (exact put_q)
       refine pure_ (i := 26) (N := some 43) (v := undef) (a' := ?_) (bL 33 134217727) rfl rfl (any_of HT_.out (by kernel_rfl)) (fun _ _ _ h => h) (Or.inr ⟨by rfl, rfl⟩) ?_ ?_; rotate_left; (exact put_q)
       refine pure_ (i := 27) (N := some 44) (v := undef) (a' := ?_) (bL 33 268435455) rfl rfl (any_of HT_.out (by kernel_rfl)) (fun _ _ _ h => h) (Or.inr ⟨by rfl, rfl⟩) ?_ ?_; rotate_left; (exact put_q)
       refine pure_ (i := 28) (N := some 45) (v := undef) (a' := ?_) (bL 33 536870911) rfl rfl (any_of HT_.out (by kernel_rfl)) (fun _ _ _ h => h) (Or.inr ⟨by rfl, rfl⟩) ?_ ?_; rotate_left; (exact put_q)
       refine pure_ (i := 29) (N := some 46) (v := undef) (a' := ?_) (bL 33 1073741823) rfl rfl (any_of HT_.out (by kernel_rfl)) (fun _ _ _ h => h) (Or.inr ⟨by rfl, rfl⟩) ?_ ?_; rotate_left; (exact put_q)
       refine pure_ (i := 30) (N := some 47) (v := undef) (a' := ?_) (bL 33 2147483647) rfl rfl (any_of HT_.out (by kernel_rfl)) (fun _ _ _ h => h) (Or.inr ⟨by rfl, rfl⟩) ?_ ?_; rotate_left; (exact put_q)
       refine pure_ (i := 31) (N := some 48) (v := undef) (a' := ?_) (bL 33 4294967295) rfl rfl (any_of HT_.out (by kernel_rfl)) (fun _ _ _ h => h) (Or.inr ⟨by rfl, rfl⟩) ?_ ?_; rotate_left; (exact put_q)
       refine pq_ 32 49 (bL 33 8589934591) HT_.out rfl rfl ?_
       refine done_ (done_of HT_.out (by kernel_rfl)) ?_
       try go_wp2
       go_ret
       exact ⟨er_q, bw_q HB⟩
      ·rw [if_neg c7] at H
       have c7b0 : (((rd_T127 l0_5 x3_1).f0) == a0_2) = false := beq_eq_false_iff_ne.mpr c7
       have c7b1 : (((rd_T127 l0_5 x3_1).f0) != a0_2) = true := bne_iff_ne.mpr c7
       (first | rw [c7b0] | rw [c7b1] | (simp only [i64_w, i32_w]; first | rw [c7b0] | rw [c7b1]) | skip)
       replace H := Option.bind_eq_some_iff.mp H
       obtain ⟨t249, A140, H⟩ := H
       replace H : (if t249 = true then (if x3_1 > 0 then (if 0 ≤ (wrap64 (x3_1 - 1)) then (if (wrap64 (x3_1 - 1)) < (l0_5.length : Int) then (if ((rd_T127 l0_5 (wrap64 (x3_1 - 1))).f0) ≥ ((rd_T127 l0_5 x3_1).f0) then (some false) else (spec_l04Near.l0 k1 (wrap64 (x3_1 + 1)) a0_0 a0_1 a0_2 a0_3 a0_4 l0_5 a0_6 a0_7)) else (none)) else (none)) else (spec_l04Near.l0 k1 (wrap64 (x3_1 + 1)) a0_0 a0_1 a0_2 a0_3 a0_4 l0_5 a0_6 a0_7)) else (some false)) = some r := H
       have A14 := Aside0.mk A140
       clear A140
       have HZ45 := Aside0.mk H
       clear H
       refine pq_ 12 29 (bL 33 8191) HT_.out rfl rfl ?_
       refine take_ (i := 13) (N := some 30) (v := ?_) (a' := ?_) (bL 33 16383) rfl rfl (take_ofW HT_.out HW_.out (by kernel_rfl)) (fun _ _ _ h => h) (Or.inl ⟨by rfl, ?_⟩) hHeld ?_ ?_; rotate_left; (rintro w' ⟨s0, s1, s2, s3, s4, s5, s6, s7, s8, s9⟩; go_simp; with_reducible rfl); rotate_left; (exact put_q)
       refine one_ (i := 14) (N := some 31) (bL 33 32767) rfl rfl (one_of HT_.out (by kernel_rfl)) (by decide) (fun K hK => ?_)
       refine goes_ Try.func75 (by kernel_rfl) rfl #[.int .i64 ((rd_T127 l0_5 x3_1).f1), .int .i64 1, .int .i64 1000] (by rfl) rfl rfl mp_q ?_
       with_reducible refine (spec_l01In.calls ((rd_T127 l0_5 x3_1).f1) 1 1000 t249 _ A14.out).mono ?_
       rintro e w' ⟨rfl, ⟨nd, rfl⟩⟩
       refine ⟨_, rfl, ?_⟩
       refine hK.out _ _ ⟨(blk_cell BK247.out 0).trans rfl, (blk_cell BK247.out 1).trans rfl, (blk_cell BK245.out 0).trans rfl, (blk_cell BK245.out 1).trans rfl, (blk_cell BK245.out 2).trans rfl, (blk_cell BK245.out 3).trans rfl, (blk_cell BK245.out 4).trans rfl, (blk_cell BK245.out 5).trans rfl, (blk_cell BK245.out 6).trans rfl, (blk_cell BK245.out 7).trans rfl⟩ (fun hHeld => ?_)
       clear hK K
       refine norm_ (a' := ?_) ?_ ?_; rotate_left; (show Act.put _ (some 31) _ = _; simp only [Act.put, List.setIfInBounds_toArray, List.set_cons_zero, List.set_cons_succ, i64_w, i32_w]; rfl)
       refine pq_ 15 32 (bL 33 65535) HT_.out rfl rfl ?_
       refine pq_ 16 33 (bL 33 131071) HT_.out rfl rfl ?_
       refine pq_ 17 34 (bL 33 262143) HT_.out rfl rfl ?_
       have H := HZ45.out
       clear HZ45
       by_cases c15 : t249 = true
       ·subst c15
        have H1 : (if x3_1 > 0 then (if 0 ≤ (wrap64 (x3_1 - 1)) then (if (wrap64 (x3_1 - 1)) < (l0_5.length : Int) then (if ((rd_T127 l0_5 (wrap64 (x3_1 - 1))).f0) ≥ ((rd_T127 l0_5 x3_1).f0) then (some false) else (spec_l04Near.l0 k1 (wrap64 (x3_1 + 1)) a0_0 a0_1 a0_2 a0_3 a0_4 l0_5 a0_6 a0_7)) else (none)) else (none)) else (spec_l04Near.l0 k1 (wrap64 (x3_1 + 1)) a0_0 a0_1 a0_2 a0_3 a0_4 l0_5 a0_6 a0_7)) = some r := by rw [if_pos rfl] at H; exact H
        clear H
        have H := H1
        clear H1
        have HZ46 := Aside0.mk H
        clear H
        refine pq_ 18 35 (bL 33 524287) HT_.out rfl rfl ?_
        refine pq_ 19 36 (bL 33 1048575) HT_.out rfl rfl ?_
        refine pq_ 20 37 (bL 33 2097151) HT_.out rfl rfl ?_
        have H := HZ46.out
        clear HZ46
        by_cases c16 : x3_1 > 0
        ·rw [if_pos c16] at H
         have c16b0 : decide (0 < x3_1) = true := decide_eq_true c16
         (first | rw [c16b0] | (simp only [i64_w, i32_w]; first | rw [c16b0]) | skip)
         clear c16
         obtain ⟨ji17, hji17⟩ : ∃ j_ : Int, (wrap64 (x3_1 - 1)) = j_ := ⟨_, rfl⟩
         replace H : (if 0 ≤ (ji17) then (if (ji17) < (l0_5.length : Int) then (if ((rd_T127 l0_5 (ji17)).f0) ≥ ((rd_T127 l0_5 x3_1).f0) then (some false) else (spec_l04Near.l0 k1 (wrap64 (x3_1 + 1)) a0_0 a0_1 a0_2 a0_3 a0_4 l0_5 a0_6 a0_7)) else (none)) else (none)) = some r := by first | (rw [hji17] at H; exact H) | (simp only [hji17] at H ⊢; exact H)
         (try rw [hji17] at A5)
         (try rw [hji17] at A14)
         have hji17w : (IntKind.i64.wrap (x3_1 - 1)) = ji17 := (i64_w _).trans hji17
         by_cases c18 : 0 ≤ (ji17)
         ·rw [if_pos c18] at H
          have c18b0 : decide (0 ≤ (ji17)) = true := decide_eq_true c18
          clear c18
          by_cases c19 : (ji17) < (l0_5.length : Int)
          ·rw [if_pos c19] at H
           have c19b0 : decide ((ji17) < (l0_5.length : Int)) = true := decide_eq_true c19
           clear c19
           have HZ47 := Aside0.mk H
           clear H
           have p250 : 0 ≤ ((ji17) : Int) := of_decide_eq_true (by first | (with_reducible assumption) | assumption)
           have q250 : (ji17) < (l0_5.length : Int) := of_decide_eq_true (by first | (with_reducible assumption) | assumption)
           obtain ⟨ad250, e250, hx250_0, hx250_1⟩ := at_T127 HR0_5.out (ji17) p250 q250
           have hw250_1 := hx250_1
           have hw250_0 := hx250_0
           obtain rfl : ad246 = ad250 := (by injection e250)
           replace hx250_0 := (HB.out.cell (World.block_lt_of_cell? w _ hx250_0)).trans hx250_0
           replace hx250_1 := (HB.out.cell (World.block_lt_of_cell? w _ hx250_1)).trans hx250_1
           replace p250 := eq_true p250
           replace q250 := eq_true q250
           refine last_weaken (fun w' => w'.cell? ⟨gb247, 0, none⟩ = some (.int .i64 ((rd_T127 l0_5 x3_1).f0)) ∧ w'.cell? ⟨gb247, 1, none⟩ = some (.int .i64 ((rd_T127 l0_5 x3_1).f1)) ∧ w'.cell? ⟨gb245, 0, none⟩ = some (.int .i64 a0_0) ∧ w'.cell? ⟨gb245, 1, none⟩ = some (.int .i64 a0_1) ∧ w'.cell? ⟨gb245, 2, none⟩ = some (.int .i64 a0_2) ∧ w'.cell? ⟨gb245, 3, none⟩ = some (.int .i64 a0_3) ∧ w'.cell? ⟨gb245, 4, none⟩ = some (.int .i64 a0_4) ∧ w'.cell? ⟨gb245, 5, none⟩ = some (.slice (some ad246) l0_5.length c0_5) ∧ w'.cell? ⟨gb245, 6, none⟩ = some (.int .i64 a0_6) ∧ w'.cell? ⟨gb245, 7, none⟩ = some (.bool a0_7) ∧ w'.cell? (ad246.add (((ji17)).toNat * 2)) = some (.int .i64 ((rd_T127 l0_5 (ji17)).f0)) ∧ w'.cell? ⟨(ad246.add (((ji17)).toNat * 2)).block, (ad246.add (((ji17)).toNat * 2)).off + 1, none⟩ = some (.int .i64 ((rd_T127 l0_5 (ji17)).f1))) (fun w' h_ => ⟨h_.1, h_.2.1, h_.2.2.1, h_.2.2.2.1, h_.2.2.2.2.1, h_.2.2.2.2.2.1, h_.2.2.2.2.2.2.1, h_.2.2.2.2.2.2.2.1, h_.2.2.2.2.2.2.2.2.1, h_.2.2.2.2.2.2.2.2.2.1⟩) ⟨hHeld.1, hHeld.2.1, hHeld.2.2.1, hHeld.2.2.2.1, hHeld.2.2.2.2.1, hHeld.2.2.2.2.2.1, hHeld.2.2.2.2.2.2.1, hHeld.2.2.2.2.2.2.2.1, hHeld.2.2.2.2.2.2.2.2.1, hHeld.2.2.2.2.2.2.2.2.2, (by first | assumption | exact ((HB.out.cell (World.block_lt_of_cell? w _ hw250_0)).trans hw250_0)), (by first | assumption | exact ((HB.out.cell (World.block_lt_of_cell? w _ hw250_1)).trans hw250_1))⟩ (fun hHeld => ?_)
           refine pq_ 21 38 (bL 33 4194303) HT_.out rfl rfl ?_
           refine pq_ 23 40 (bL 33 12582911) HT_.out rfl rfl ?_
           refine pq_ 24 41 (bL 33 29360127) HT_.out rfl rfl ?_
           refine pq_ 28 45 (bL 33 297795583) HT_.out rfl rfl ?_
           refine take_ (i := 22) (N := some 39) (v := ?_) (a' := ?_) (bL 33 301989887) rfl rfl (take_ofW HT_.out HW_.out (by kernel_rfl)) (fun _ _ _ h => h) (Or.inl ⟨by rfl, ?_⟩) hHeld ?_ ?_; rotate_left; (rintro w' ⟨s0, s1, s2, s3, s4, s5, s6, s7, s8, s9, s10, s11⟩; go_simp; with_reducible rfl); rotate_left; (exact put_q)
           refine pq_ 25 42 (bL 33 335544319) HT_.out rfl rfl ?_
           refine pq_ 26 43 (bL 33 402653183) HT_.out rfl rfl ?_
           refine take_ (i := 27) (N := some 44) (v := ?_) (a' := ?_) (bL 33 536870911) rfl rfl (take_ofW HT_.out HW_.out (by kernel_rfl)) (fun _ _ _ h => h) (Or.inl ⟨by rfl, ?_⟩) hHeld ?_ ?_; rotate_left; (rintro w' ⟨s0, s1, s2, s3, s4, s5, s6, s7, s8, s9, s10, s11⟩; go_simp; with_reducible rfl); rotate_left; (exact put_q)
           refine take_ (i := 29) (N := some 46) (v := ?_) (a' := ?_) (bL 33 1073741823) rfl rfl (take_ofW HT_.out HW_.out (by kernel_rfl)) (fun _ _ _ h => h) (Or.inl ⟨by rfl, ?_⟩) hHeld ?_ ?_; rotate_left; (rintro w' ⟨s0, s1, s2, s3, s4, s5, s6, s7, s8, s9, s10, s11⟩; go_simp; with_reducible rfl); rotate_left; (exact put_q)
           refine pq_ 30 47 (bL 33 2147483647) HT_.out rfl rfl ?_
           refine pq_ 31 48 (bL 33 4294967295) HT_.out rfl rfl ?_
           refine pq_ 32 49 (bL 33 8589934591) HT_.out rfl rfl ?_
           have H := HZ47.out
           clear HZ47
           by_cases c20 : ((rd_T127 l0_5 (ji17)).f0) ≥ ((rd_T127 l0_5 x3_1).f0)
           ·rw [if_pos c20] at H
            have c20b0 : decide (((rd_T127 l0_5 x3_1).f0) ≤ ((rd_T127 l0_5 (ji17)).f0)) = true := decide_eq_true c20
            (first | rw [c20b0] | (simp only [i64_w, i32_w]; first | rw [c20b0]) | skip)
            clear c20
            obtain rfl := Option.some.inj H
            refine done_ (done_of HT_.out (by kernel_rfl)) ?_
            try go_wp2
            go_ret
            exact ⟨by first | rfl | (simp [errW_none, errW_some] <;> rfl) | (simp only [← hji17]; first | rfl | (simp [errW_none, errW_some] <;> rfl)) | (simp [*, errW_none, errW_some] <;> rfl), bw_q HB⟩
           ·rw [if_neg c20] at H
            have c20b0 : decide (((rd_T127 l0_5 x3_1).f0) ≤ ((rd_T127 l0_5 (ji17)).f0)) = false := decide_eq_false c20
            (first | rw [c20b0] | (simp only [i64_w, i32_w]; first | rw [c20b0]) | skip)
            clear c20
            have H' := Aside0.mk H
            clear H
            refine done_ (done_of HT_.out (by kernel_rfl)) ?_
            try go_wp2
            go_roundg k1
            case measure => have := HK1.out; omega
            case rel => exact ⟨(wrap64 (x3_1 + 1)), (by first | rfl | (simp; done) | (simp [*]; done)), H', ⟨by have := HK1.out; omega⟩, ⟨by (with_reducible repeat (first | refine blk_drewN ?_ _ | refine blk_drew ?_ | refine blk_alloc ?_ _)); exact BK245.out⟩, ⟨bw_q HB⟩⟩
          ·rw [if_neg c19] at H
           exact absurd H (by simp)
         ·rw [if_neg c18] at H
          exact absurd H (by simp)
        ·rw [if_neg c16] at H
         have c16b0 : decide (0 < x3_1) = false := decide_eq_false c16
         (first | rw [c16b0] | (simp only [i64_w, i32_w]; first | rw [c16b0]) | skip)
         clear c16
         have H' := Aside0.mk H
         clear H
         refine pure_ (i := 21) (N := some 38) (v := undef) (a' := ?_) (bL 33 4194303) rfl rfl (any_of HT_.out (by kernel_rfl)) (fun _ _ _ h => h) (Or.inr ⟨by rfl, rfl⟩) ?_ ?_; rotate_left; (exact put_q)
         refine pure_ (i := 22) (N := some 39) (v := undef) (a' := ?_) (bL 33 8388607) rfl rfl (any_of HT_.out (by kernel_rfl)) (fun _ _ _ h => h) (Or.inr ⟨by rfl, rfl⟩) ?_ ?_; rotate_left; (exact put_q)
         refine pure_ (i := 23) (N := some 40) (v := undef) (a' := ?_) (bL 33 16777215) rfl rfl (any_of HT_.out (by kernel_rfl)) (fun _ _ _ h => h) (Or.inr ⟨by rfl, rfl⟩) ?_ ?_; rotate_left; (exact put_q)
         refine pure_ (i := 24) (N := some 41) (v := undef) (a' := ?_) (bL 33 33554431) rfl rfl (any_of HT_.out (by kernel_rfl)) (fun _ _ _ h => h) (Or.inr ⟨by rfl, rfl⟩) ?_ ?_; rotate_left; (exact put_q)
         refine pure_ (i := 25) (N := some 42) (v := undef) (a' := ?_) (bL 33 67108863) rfl rfl (any_of HT_.out (by kernel_rfl)) (fun _ _ _ h => h) (Or.inr ⟨by rfl, rfl⟩) ?_ ?_; rotate_left; (exact put_q)
         refine pure_ (i := 26) (N := some 43) (v := undef) (a' := ?_) (bL 33 134217727) rfl rfl (any_of HT_.out (by kernel_rfl)) (fun _ _ _ h => h) (Or.inr ⟨by rfl, rfl⟩) ?_ ?_; rotate_left; (exact put_q)
         refine pure_ (i := 27) (N := some 44) (v := undef) (a' := ?_) (bL 33 268435455) rfl rfl (any_of HT_.out (by kernel_rfl)) (fun _ _ _ h => h) (Or.inr ⟨by rfl, rfl⟩) ?_ ?_; rotate_left; (exact put_q)
         refine pure_ (i := 28) (N := some 45) (v := undef) (a' := ?_) (bL 33 536870911) rfl rfl (any_of HT_.out (by kernel_rfl)) (fun _ _ _ h => h) (Or.inr ⟨by rfl, rfl⟩) ?_ ?_; rotate_left; (exact put_q)
         refine pure_ (i := 29) (N := some 46) (v := undef) (a' := ?_) (bL 33 1073741823) rfl rfl (any_of HT_.out (by kernel_rfl)) (fun _ _ _ h => h) (Or.inr ⟨by rfl, rfl⟩) ?_ ?_; rotate_left; (exact put_q)
         refine pure_ (i := 30) (N := some 47) (v := undef) (a' := ?_) (bL 33 2147483647) rfl rfl (any_of HT_.out (by kernel_rfl)) (fun _ _ _ h => h) (Or.inr ⟨by rfl, rfl⟩) ?_ ?_; rotate_left; (exact put_q)
         refine pq_ 31 48 (bL 33 4294967295) HT_.out rfl rfl ?_
         refine pq_ 32 49 (bL 33 8589934591) HT_.out rfl rfl ?_
         refine done_ (done_of HT_.out (by kernel_rfl)) ?_
         try go_wp2
         go_roundg k1
         case measure => have := HK1.out; omega
         case rel => exact ⟨(wrap64 (x3_1 + 1)), (by first | rfl | (simp; done) | (simp [*]; done)), H', ⟨by have := HK1.out; omega⟩, ⟨by (with_reducible repeat (first | refine blk_drewN ?_ _ | refine blk_drew ?_ | refine blk_alloc ?_ _)); exact BK245.out⟩, ⟨bw_q HB⟩⟩
       ·replace c15 := Bool.eq_false_iff.mpr c15
        subst c15
        have H1 : (some false) = some r := by rw [if_neg (show ¬ (false = true) by decide)] at H; exact H
        clear H
        have H := H1
        clear H1
        obtain rfl := Option.some.inj H
        refine pure_ (i := 18) (N := some 35) (v := undef) (a' := ?_) (bL 33 524287) rfl rfl (any_of HT_.out (by kernel_rfl)) (fun _ _ _ h => h) (Or.inr ⟨by rfl, rfl⟩) ?_ ?_; rotate_left; (exact put_q)
        refine pure_ (i := 19) (N := some 36) (v := undef) (a' := ?_) (bL 33 1048575) rfl rfl (any_of HT_.out (by kernel_rfl)) (fun _ _ _ h => h) (Or.inr ⟨by rfl, rfl⟩) ?_ ?_; rotate_left; (exact put_q)
        refine pure_ (i := 20) (N := some 37) (v := undef) (a' := ?_) (bL 33 2097151) rfl rfl (any_of HT_.out (by kernel_rfl)) (fun _ _ _ h => h) (Or.inr ⟨by rfl, rfl⟩) ?_ ?_; rotate_left; (exact put_q)
        refine pure_ (i := 21) (N := some 38) (v := undef) (a' := ?_) (bL 33 4194303) rfl rfl (any_of HT_.out (by kernel_rfl)) (fun _ _ _ h => h) (Or.inr ⟨by rfl, rfl⟩) ?_ ?_; rotate_left; (exact put_q)
        refine pure_ (i := 22) (N := some 39) (v := undef) (a' := ?_) (bL 33 8388607) rfl rfl (any_of HT_.out (by kernel_rfl)) (fun _ _ _ h => h) (Or.inr ⟨by rfl, rfl⟩) ?_ ?_; rotate_left; (exact put_q)
        refine pure_ (i := 23) (N := some 40) (v := undef) (a' := ?_) (bL 33 16777215) rfl rfl (any_of HT_.out (by kernel_rfl)) (fun _ _ _ h => h) (Or.inr ⟨by rfl, rfl⟩) ?_ ?_; rotate_left; (exact put_q)
        refine pure_ (i := 24) (N := some 41) (v := undef) (a' := ?_) (bL 33 33554431) rfl rfl (any_of HT_.out (by kernel_rfl)) (fun _ _ _ h => h) (Or.inr ⟨by rfl, rfl⟩) ?_ ?_; rotate_left; (exact put_q)
        refine pure_ (i := 25) (N := some 42) (v := undef) (a' := ?_) (bL 33 67108863) rfl rfl (any_of HT_.out (by kernel_rfl)) (fun _ _ _ h => h) (Or.inr ⟨by rfl, rfl⟩) ?_ ?_; rotate_left; (exact put_q)
        refine pure_ (i := 26) (N := some 43) (v := undef) (a' := ?_) (bL 33 134217727) rfl rfl (any_of HT_.out (by kernel_rfl)) (fun _ _ _ h => h) (Or.inr ⟨by rfl, rfl⟩) ?_ ?_; rotate_left; (exact put_q)
        refine pure_ (i := 27) (N := some 44) (v := undef) (a' := ?_) (bL 33 268435455) rfl rfl (any_of HT_.out (by kernel_rfl)) (fun _ _ _ h => h) (Or.inr ⟨by rfl, rfl⟩) ?_ ?_; rotate_left; (exact put_q)
        refine pure_ (i := 28) (N := some 45) (v := undef) (a' := ?_) (bL 33 536870911) rfl rfl (any_of HT_.out (by kernel_rfl)) (fun _ _ _ h => h) (Or.inr ⟨by rfl, rfl⟩) ?_ ?_; rotate_left; (exact put_q)
        refine pure_ (i := 29) (N := some 46) (v := undef) (a' := ?_) (bL 33 1073741823) rfl rfl (any_of HT_.out (by kernel_rfl)) (fun _ _ _ h => h) (Or.inr ⟨by rfl, rfl⟩) ?_ ?_; rotate_left; (exact put_q)
        refine pure_ (i := 30) (N := some 47) (v := undef) (a' := ?_) (bL 33 2147483647) rfl rfl (any_of HT_.out (by kernel_rfl)) (fun _ _ _ h => h) (Or.inr ⟨by rfl, rfl⟩) ?_ ?_; rotate_left; (exact put_q)
        refine pure_ (i := 31) (N := some 48) (v := undef) (a' := ?_) (bL 33 4294967295) rfl rfl (any_of HT_.out (by kernel_rfl)) (fun _ _ _ h => h) (Or.inr ⟨by rfl, rfl⟩) ?_ ?_; rotate_left; (exact put_q)
        refine pq_ 32 49 (bL 33 8589934591) HT_.out rfl rfl ?_
        refine done_ (done_of HT_.out (by kernel_rfl)) ?_
        try go_wp2
        go_ret
        exact ⟨er_q, bw_q HB⟩
     ·replace c6 := Bool.eq_false_iff.mpr c6
      subst c6
      have H1 : (some false) = some r := by rw [if_neg (show ¬ (false = true) by decide)] at H; exact H
      clear H
      have H := H1
      clear H1
      obtain rfl := Option.some.inj H
      refine pure_ (i := 5) (N := some 22) (v := undef) (a' := ?_) (bL 33 63) rfl rfl (any_of HT_.out (by kernel_rfl)) (fun _ _ _ h => h) (Or.inr ⟨by rfl, rfl⟩) ?_ ?_; rotate_left; (exact put_q)
      refine pure_ (i := 6) (N := some 23) (v := undef) (a' := ?_) (bL 33 127) rfl rfl (any_of HT_.out (by kernel_rfl)) (fun _ _ _ h => h) (Or.inr ⟨by rfl, rfl⟩) ?_ ?_; rotate_left; (exact put_q)
      refine pure_ (i := 7) (N := some 24) (v := undef) (a' := ?_) (bL 33 255) rfl rfl (any_of HT_.out (by kernel_rfl)) (fun _ _ _ h => h) (Or.inr ⟨by rfl, rfl⟩) ?_ ?_; rotate_left; (exact put_q)
      refine pure_ (i := 8) (N := some 25) (v := undef) (a' := ?_) (bL 33 511) rfl rfl (any_of HT_.out (by kernel_rfl)) (fun _ _ _ h => h) (Or.inr ⟨by rfl, rfl⟩) ?_ ?_; rotate_left; (exact put_q)
      refine pure_ (i := 9) (N := some 26) (v := undef) (a' := ?_) (bL 33 1023) rfl rfl (any_of HT_.out (by kernel_rfl)) (fun _ _ _ h => h) (Or.inr ⟨by rfl, rfl⟩) ?_ ?_; rotate_left; (exact put_q)
      refine pq_ 10 27 (bL 33 2047) HT_.out rfl rfl ?_
      refine pq_ 11 28 (bL 33 4095) HT_.out rfl rfl ?_
      refine pure_ (i := 12) (N := some 29) (v := undef) (a' := ?_) (bL 33 8191) rfl rfl (any_of HT_.out (by kernel_rfl)) (fun _ _ _ h => h) (Or.inr ⟨by rfl, rfl⟩) ?_ ?_; rotate_left; (exact put_q)
      refine pure_ (i := 13) (N := some 30) (v := undef) (a' := ?_) (bL 33 16383) rfl rfl (any_of HT_.out (by kernel_rfl)) (fun _ _ _ h => h) (Or.inr ⟨by rfl, rfl⟩) ?_ ?_; rotate_left; (exact put_q)
      refine pure_ (i := 14) (N := some 31) (v := undef) (a' := ?_) (bL 33 32767) rfl rfl (any_of HT_.out (by kernel_rfl)) (fun _ _ _ h => h) (Or.inr ⟨by rfl, rfl⟩) ?_ ?_; rotate_left; (exact put_q)
      refine pure_ (i := 15) (N := some 32) (v := undef) (a' := ?_) (bL 33 65535) rfl rfl (any_of HT_.out (by kernel_rfl)) (fun _ _ _ h => h) (Or.inr ⟨by rfl, rfl⟩) ?_ ?_; rotate_left; (exact put_q)
      refine pq_ 16 33 (bL 33 131071) HT_.out rfl rfl ?_
      refine pq_ 17 34 (bL 33 262143) HT_.out rfl rfl ?_
      refine pure_ (i := 18) (N := some 35) (v := undef) (a' := ?_) (bL 33 524287) rfl rfl (any_of HT_.out (by kernel_rfl)) (fun _ _ _ h => h) (Or.inr ⟨by rfl, rfl⟩) ?_ ?_; rotate_left; (exact put_q)
      refine pure_ (i := 19) (N := some 36) (v := undef) (a' := ?_) (bL 33 1048575) rfl rfl (any_of HT_.out (by kernel_rfl)) (fun _ _ _ h => h) (Or.inr ⟨by rfl, rfl⟩) ?_ ?_; rotate_left; (exact put_q)
      refine pure_ (i := 20) (N := some 37) (v := undef) (a' := ?_) (bL 33 2097151) rfl rfl (any_of HT_.out (by kernel_rfl)) (fun _ _ _ h => h) (Or.inr ⟨by rfl, rfl⟩) ?_ ?_; rotate_left; (exact put_q)
      refine pure_ (i := 21) (N := some 38) (v := undef) (a' := ?_) (bL 33 4194303) rfl rfl (any_of HT_.out (by kernel_rfl)) (fun _ _ _ h => h) (Or.inr ⟨by rfl, rfl⟩) ?_ ?_; rotate_left; (exact put_q)
      refine pure_ (i := 22) (N := some 39) (v := undef) (a' := ?_) (bL 33 8388607) rfl rfl (any_of HT_.out (by kernel_rfl)) (fun _ _ _ h => h) (Or.inr ⟨by rfl, rfl⟩) ?_ ?_; rotate_left; (exact put_q)
      refine pure_ (i := 23) (N := some 40) (v := undef) (a' := ?_) (bL 33 16777215) rfl rfl (any_of HT_.out (by kernel_rfl)) (fun _ _ _ h => h) (Or.inr ⟨by rfl, rfl⟩) ?_ ?_; rotate_left; (exact put_q)
      refine pure_ (i := 24) (N := some 41) (v := undef) (a' := ?_) (bL 33 33554431) rfl rfl (any_of HT_.out (by kernel_rfl)) (fun _ _ _ h => h) (Or.inr ⟨by rfl, rfl⟩) ?_ ?_; rotate_left; (exact put_q)
      refine pure_ (i := 25) (N := some 42) (v := undef) (a' := ?_) (bL 33 67108863) rfl rfl (any_of HT_.out (by kernel_rfl)) (fun _ _ _ h => h) (Or.inr ⟨by rfl, rfl⟩) ?_ ?_; rotate_left; (exact put_q)
      refine pure_ (i := 26) (N := some 43) (v := undef) (a' := ?_) (bL 33 134217727) rfl rfl (any_of HT_.out (by kernel_rfl)) (fun _ _ _ h => h) (Or.inr ⟨by rfl, rfl⟩) ?_ ?_; rotate_left; (exact put_q)
      refine pure_ (i := 27) (N := some 44) (v := undef) (a' := ?_) (bL 33 268435455) rfl rfl (any_of HT_.out (by kernel_rfl)) (fun _ _ _ h => h) (Or.inr ⟨by rfl, rfl⟩) ?_ ?_; rotate_left; (exact put_q)
      refine pure_ (i := 28) (N := some 45) (v := undef) (a' := ?_) (bL 33 536870911) rfl rfl (any_of HT_.out (by kernel_rfl)) (fun _ _ _ h => h) (Or.inr ⟨by rfl, rfl⟩) ?_ ?_; rotate_left; (exact put_q)
      refine pure_ (i := 29) (N := some 46) (v := undef) (a' := ?_) (bL 33 1073741823) rfl rfl (any_of HT_.out (by kernel_rfl)) (fun _ _ _ h => h) (Or.inr ⟨by rfl, rfl⟩) ?_ ?_; rotate_left; (exact put_q)
      refine pure_ (i := 30) (N := some 47) (v := undef) (a' := ?_) (bL 33 2147483647) rfl rfl (any_of HT_.out (by kernel_rfl)) (fun _ _ _ h => h) (Or.inr ⟨by rfl, rfl⟩) ?_ ?_; rotate_left; (exact put_q)
      refine pure_ (i := 31) (N := some 48) (v := undef) (a' := ?_) (bL 33 4294967295) rfl rfl (any_of HT_.out (by kernel_rfl)) (fun _ _ _ h => h) (Or.inr ⟨by rfl, rfl⟩) ?_ ?_; rotate_left; (exact put_q)
      refine pq_ 32 49 (bL 33 8589934591) HT_.out rfl rfl ?_
      refine done_ (done_of HT_.out (by kernel_rfl)) ?_
      try go_wp2
      go_ret
      exact ⟨er_q, bw_q HB⟩
    ·rw [if_neg c4] at H
     exact absurd H (by simp)
   ·rw [if_neg c3] at H
    have c3b0 : decide (x3_1 < (l0_5.length : Int)) = false := decide_eq_false c3
    clear c3
    obtain rfl := Option.some.inj H
    have hcz51_0 : wr.cell? ⟨gb245, 0, none⟩ = some (.int .i64 a0_0) := (blk_cell BK245.out 0).trans rfl
    have hcz51_1 : wr.cell? ⟨gb245, 1, none⟩ = some (.int .i64 a0_1) := (blk_cell BK245.out 1).trans rfl
    have hcz51_2 : wr.cell? ⟨gb245, 2, none⟩ = some (.int .i64 a0_2) := (blk_cell BK245.out 2).trans rfl
    have hcz51_3 : wr.cell? ⟨gb245, 3, none⟩ = some (.int .i64 a0_3) := (blk_cell BK245.out 3).trans rfl
    have hcz51_4 : wr.cell? ⟨gb245, 4, none⟩ = some (.int .i64 a0_4) := (blk_cell BK245.out 4).trans rfl
    have hcz51_5 : wr.cell? ⟨gb245, 5, none⟩ = some (.slice A0_5 l0_5.length c0_5) := (blk_cell BK245.out 5).trans rfl
    have hcz51_6 : wr.cell? ⟨gb245, 6, none⟩ = some (.int .i64 a0_6) := (blk_cell BK245.out 6).trans rfl
    have hcz51_7 : wr.cell? ⟨gb245, 7, none⟩ = some (.bool a0_7) := (blk_cell BK245.out 7).trans rfl
    have hfz51_0 := blk_frozen BK245.out 0
    have hfz51_1 := blk_frozen BK245.out 1
    have hfz51_2 := blk_frozen BK245.out 2
    have hfz51_3 := blk_frozen BK245.out 3
    have hfz51_4 := blk_frozen BK245.out 4
    have hfz51_5 := blk_frozen BK245.out 5
    have hfz51_6 := blk_frozen BK245.out 6
    have hfz51_7 := blk_frozen BK245.out 7
    go_wp2
    go_ret
    exact ⟨er_q, bw_q HB⟩

end Go.Proofs.Ythjmdiggglkeaaa.Q
