/- A Go function as a Lean function, and its contract: for every input the Go code comes to what the Lean function tells. -/
import Derived.Test.YtnecbkognpponaaQT
import Derived.Test.YtnecbkognpponaaQimplin
namespace Go.Proofs.Ytnecbkognpponaa.Q
open Go.RowKit Go.Proofs.YtnecbkognpponaaW.PrintWords Go.Proofs.YtnecbkognpponaaW.PrintLast Go.Proofs.YtnecbkognpponaaW.PrintMore
attribute [local go_sem] max2_int min2_int max_two min_two max_three min_three max_four min_four   -- for this text's walks alone
set_option linter.unusedVariables false
set_option linter.unusedSimpArgs false

/-! ### impl_nearOk: function 70 -/
def impl_nearOk.l0 : Nat → List (S63) → Int → Int → Int → Int → Int → Int → Int → List (S63) → Int → Bool → Option (Bool)
 | 0, _, _, _, _, _, _, _, _, _, _, _ => none
 | k + 1, x6, x7, x8, x197000, x197001, x197002, x197003, x197004, x197005, x197006, x197007 => if x8 < x7 then (if 0 ≤ x8 then (if x8 < (x6.length : Int) then ((impl_in.f ((rd_T63 x6 x8).f0) 1 6).bind fun t199 => (if t199 = true then (if ((rd_T63 x6 x8).f0) = x197002 then (some false) else ((impl_in.f ((rd_T63 x6 x8).f1) 1 1000).bind fun t200 => (if t200 = true then (if x8 > 0 then (if 0 ≤ (wrap64 (x8 - 1)) then (if (wrap64 (x8 - 1)) < (x197005.length : Int) then (if ((rd_T63 x197005 (wrap64 (x8 - 1))).f0) ≥ ((rd_T63 x6 x8).f0) then (some false) else (impl_nearOk.l0 k x6 x7 (wrap64 (x8 + 1)) x197000 x197001 x197002 x197003 x197004 x197005 x197006 x197007)) else (none)) else (none)) else (impl_nearOk.l0 k x6 x7 (wrap64 (x8 + 1)) x197000 x197001 x197002 x197003 x197004 x197005 x197006 x197007)) else (some false)))) else (some false))) else (none)) else (none)) else (some true)
def impl_nearOk.f (k : Nat) (a0_0 : Int) (a0_1 : Int) (a0_2 : Int) (a0_3 : Int) (a0_4 : Int) (l0_5 : List (S63)) (a0_6 : Int) (a0_7 : Bool) : Option (Bool) := impl_nearOk.l0 k l0_5 (l0_5.length : Int) 0 a0_0 a0_1 a0_2 a0_3 a0_4 l0_5 a0_6 a0_7
theorem impl_nearOk.mono_l : ∀ k, (∀ y0 y1 y2 y3 y4 y5 y6 y7 y8 y9 y10, LeO (impl_nearOk.l0 k y0 y1 y2 y3 y4 y5 y6 y7 y8 y9 y10) (impl_nearOk.l0 (k + 1) y0 y1 y2 y3 y4 y5 y6 y7 y8 y9 y10))
 | 0 => fun _ _ _ _ _ _ _ _ _ _ _ r h => by simp [impl_nearOk.l0] at h
 | k + 1 => by
  have ih0 := impl_nearOk.mono_l k
  ·intro y0 y1 y2 y3 y4 y5 y6 y7 y8 y9 y10
   unfold impl_nearOk.l0
   repeat' first
   | (with_reducible exact ih0 _ _ _ _ _ _ _ _ _ _ _)
   | (with_reducible exact LeO.refl _)
   | (with_reducible exact LeO.none _)
   | (with_reducible refine LeO.ite ?_ ?_)
   | (with_reducible refine LeO.bind ?_ (fun _ => ?_))
   | exact ih0 _ _ _ _ _ _ _ _ _ _ _
   | exact LeO.none _
   | refine LeO.ite ?_ ?_
   | refine LeO.bind ?_ (fun _ => ?_)
theorem impl_nearOk.mono : ∀ a0 a1 a2 a3 a4 a5 a6 a7 k, LeO (impl_nearOk.f k a0 a1 a2 a3 a4 a5 a6 a7) (impl_nearOk.f (k + 1) a0 a1 a2 a3 a4 a5 a6 a7) := by
 intro a0 a1 a2 a3 a4 a5 a6 a7 k
 have ih0 := impl_nearOk.mono_l k
 unfold impl_nearOk.f
 repeat' first
   | (with_reducible exact ih0 _ _ _ _ _ _ _ _ _ _ _)
   | (with_reducible exact LeO.refl _)
   | (with_reducible exact LeO.none _)
   | (with_reducible refine LeO.ite ?_ ?_)
   | (with_reducible refine LeO.bind ?_ (fun _ => ?_))
   | exact ih0 _ _ _ _ _ _ _ _ _ _ _
   | exact LeO.none _
   | refine LeO.ite ?_ ?_
   | refine LeO.bind ?_ (fun _ => ?_)
def impl_nearOk.T4 : Bool × List (List Nat × List Nat) := (true, [([], []), ([0], [0]), ([1], [1]), ([2], [2]), ([3, 2], [3]), ([4], [4]), ([5, 4], [4, 5]), ([4], [4]), ([7, 4], [4, 7]), ([6, 8, 4], [4, 6, 8]), ([4, 9], [4, 9]), ([10, 4], [10]), ([11], [11]), ([12, 11], [11, 12]), ([13, 11, 11], [11, 13]), ([14, 11], [11, 14]), ([11, 15], [11, 15]), ([16, 14], [16]), ([17], [17]), ([18, 17], [17, 18]), ([19, 17, 17], [17, 19]), ([20], [20]), ([21, 20], [20, 21]), ([20], [20]), ([23, 20], [20, 23]), ([22, 24, 20], [20, 22, 24]), ([25, 20], [20, 25]), ([26, 20], [20, 26]), ([20], [20]), ([28, 20], [20, 28]), ([27, 29, 20], [20, 27, 29]), ([20, 30, 17], [17, 20, 30]), ([17, 31], [17, 31])])
def impl_nearOk.B4 : List Nat := [0, 1, 3, 7, 15, 31, 63, 31, 159, 511, 1023, 2047, 4095, 8191, 16383, 32767, 65535, 131071, 262143, 524287, 1048575, 2097151, 4194303, 2097151, 10485759, 33554431, 67108863, 134217727, 2097151, 270532607, 1073741823, 2147483647, 4294967295]
theorem impl_nearOk.tab4 : rtab .any (opsOf Try.f70 4) = impl_nearOk.T4 := by kernel_rfl
theorem impl_nearOk.bits4 : waitsOk impl_nearOk.T4.2 impl_nearOk.B4 = true := by kernel_rfl
set_option maxHeartbeats 8000000 in
set_option maxRecDepth 100000 in
theorem impl_nearOk.calls (k : Nat) (a0_0 : Int) (a0_1 : Int) (a0_2 : Int) (a0_3 : Int) (a0_4 : Int) (A0_5 : Option Addr) (c0_5 : Nat) (l0_5 : List (S63)) (a0_6 : Int) (a0_7 : Bool) (r : Bool) (w : World) (hr0_5 : Kd.C k63 w A0_5 l0_5.length l0_5) (hc0_5 : l0_5.length ≤ c0_5) (h : impl_nearOk.f k a0_0 a0_1 a0_2 a0_3 a0_4 l0_5 a0_6 a0_7 = some r) :
  Calls Try.prog 70 #[.agg #[.int .i64 a0_0, .int .i64 a0_1, .int .i64 a0_2, .int .i64 a0_3, .int .i64 a0_4, .slice A0_5 l0_5.length c0_5, .int .i64 a0_6, .bool a0_7]] w fun e w' => e = .returned (.bool r) ∧ Below w.heap.size w w' := by
 have hu24 := Try.underlying24
 have hu63 := Try.underlying63
 have HR0_5 := Aside0.mk hr0_5
 have HC0_5 := Aside0.mk hc0_5
 clear hr0_5 hc0_5
 have HB := Aside0.mk (Below.refl w.heap.size w)
 have H : (impl_nearOk.l0 k l0_5 (l0_5.length : Int) 0 a0_0 a0_1 a0_2 a0_3 a0_4 l0_5 a0_6 a0_7) = some r := h
 clear h
 have H' := Aside0.mk H
 clear H
 go_enter Try.func70, Try.ntmps70
 go_wp2_with (first | ((with_reducible refine gate_dst (N := 1) rfl ?_); refine box_q 1 #[.int .i64 a0_0, .int .i64 a0_1, .int .i64 a0_2, .int .i64 a0_3, .int .i64 a0_4, .slice A0_5 l0_5.length c0_5, .int .i64 a0_6, .bool a0_7] 24 ?_; intro gb196 hg w2 hbox hb; have BK196 := Aside0.mk (hbox); have GW196 := Aside0.mk ((by rw [hg]; exact (below_size (bw_q HB)) : w.heap.size ≤ gb196)); have GE196 := Aside0.mk ((by rw [hg]; exact (below_size (bw_q HB)) : w.heap.size ≤ gb196)); replace HB := Aside0.mk (below_step (bw_q HB) hb); clear hb hbox hg; have hcz3_0 : w2.cell? ⟨gb196, 0, none⟩ = some (.int .i64 a0_0) := (blk_cell BK196.out 0).trans rfl; have hcz3_1 : w2.cell? ⟨gb196, 1, none⟩ = some (.int .i64 a0_1) := (blk_cell BK196.out 1).trans rfl; have hcz3_2 : w2.cell? ⟨gb196, 2, none⟩ = some (.int .i64 a0_2) := (blk_cell BK196.out 2).trans rfl; have hcz3_3 : w2.cell? ⟨gb196, 3, none⟩ = some (.int .i64 a0_3) := (blk_cell BK196.out 3).trans rfl; have hcz3_4 : w2.cell? ⟨gb196, 4, none⟩ = some (.int .i64 a0_4) := (blk_cell BK196.out 4).trans rfl; have hcz3_5 : w2.cell? ⟨gb196, 5, none⟩ = some (.slice A0_5 l0_5.length c0_5) := (blk_cell BK196.out 5).trans rfl; have hcz3_6 : w2.cell? ⟨gb196, 6, none⟩ = some (.int .i64 a0_6) := (blk_cell BK196.out 6).trans rfl; have hcz3_7 : w2.cell? ⟨gb196, 7, none⟩ = some (.bool a0_7) := (blk_cell BK196.out 7).trans rfl; have hfz3_0 := blk_frozen BK196.out 0; have hfz3_1 := blk_frozen BK196.out 1; have hfz3_2 := blk_frozen BK196.out 2; have hfz3_3 := blk_frozen BK196.out 3; have hfz3_4 := blk_frozen BK196.out 4; have hfz3_5 := blk_frozen BK196.out 5; have hfz3_6 := blk_frozen BK196.out 6; have hfz3_7 := blk_frozen BK196.out 7))
 go_loopg [8] k (fun kq v8 w' => ∃ (x8_1 : Int), v8 = .int .i64 x8_1 ∧ Aside0 (impl_nearOk.l0 kq l0_5 (l0_5.length : Int) x8_1 a0_0 a0_1 a0_2 a0_3 a0_4 l0_5 a0_6 a0_7 = some r) ∧ Aside0 (kq ≤ k) ∧ Aside0 (w'.heap[gb196]? = some (.cells #[.int .i64 a0_0, .int .i64 a0_1, .int .i64 a0_2, .int .i64 a0_3, .int .i64 a0_4, (.slice A0_5 l0_5.length c0_5), .int .i64 a0_6, .bool a0_7] 24 (0, 0))) ∧ Aside0 (Below w.heap.size w w'))
 case atStart => exact ⟨(0), (by first | rfl | (simp; done) | (simp [*]; done)), H', ⟨Nat.le_refl _⟩, ⟨by refine bz_ ?_; exact BK196.out⟩, ⟨bw_q HB⟩⟩
 case round =>
  clear H'
  try clear p2
  try clear hcz3_0
  try clear hcz3_1
  try clear hcz3_2
  try clear hcz3_3
  try clear hcz3_4
  try clear hcz3_5
  try clear hcz3_6
  try clear hcz3_7
  try clear hfz3_0
  try clear hfz3_1
  try clear hfz3_2
  try clear hfz3_3
  try clear hfz3_4
  try clear hfz3_5
  try clear hfz3_6
  try clear hfz3_7
  obtain ⟨x8_1, rfl, HA, HK1, BK196, HB⟩ := hrel
  cases gk with
  | zero => exact absurd HA.out (by simp [impl_nearOk.l0])
  | succ k1 =>
   have H := HA.out
   clear HA
   simp only [impl_nearOk.l0] at H
   by_cases c4 : x8_1 < (l0_5.length : Int)
   ·rw [if_pos c4] at H
    have c4b0 : decide (x8_1 < (l0_5.length : Int)) = true := decide_eq_true c4
    clear c4
    by_cases c5 : 0 ≤ x8_1
    ·rw [if_pos c5] at H
     have c5b0 : decide (0 ≤ x8_1) = true := decide_eq_true c5
     clear c5
     by_cases c6 : x8_1 < (l0_5.length : Int)
     ·rw [if_pos c6] at H
      have c6b0 : decide (x8_1 < (l0_5.length : Int)) = true := decide_eq_true c6
      clear c6
      replace H := Option.bind_eq_some_iff.mp H
      obtain ⟨t199, A70, H⟩ := H
      replace H : (if t199 = true then (if ((rd_T63 l0_5 x8_1).f0) = a0_2 then (some false) else ((impl_in.f ((rd_T63 l0_5 x8_1).f1) 1 1000).bind fun t200 => (if t200 = true then (if x8_1 > 0 then (if 0 ≤ (wrap64 (x8_1 - 1)) then (if (wrap64 (x8_1 - 1)) < (l0_5.length : Int) then (if ((rd_T63 l0_5 (wrap64 (x8_1 - 1))).f0) ≥ ((rd_T63 l0_5 x8_1).f0) then (some false) else (impl_nearOk.l0 k1 l0_5 (l0_5.length : Int) (wrap64 (x8_1 + 1)) a0_0 a0_1 a0_2 a0_3 a0_4 l0_5 a0_6 a0_7)) else (none)) else (none)) else (impl_nearOk.l0 k1 l0_5 (l0_5.length : Int) (wrap64 (x8_1 + 1)) a0_0 a0_1 a0_2 a0_3 a0_4 l0_5 a0_6 a0_7)) else (some false)))) else (some false)) = some r := H
      have A7 := Aside0.mk A70
      clear A70
      have HZ4 := Aside0.mk H
      clear H
      have p197 : 0 ≤ (x8_1 : Int) := of_decide_eq_true as_q
      have q197 : x8_1 < (l0_5.length : Int) := of_decide_eq_true as_q
      obtain ⟨ad197, e197, hx197_0, hx197_1⟩ := at_T63 HR0_5.out x8_1 p197 q197
      cases e197
      replace hx197_0 := (HB.out.cell (World.block_lt_of_cell? w _ hx197_0)).trans hx197_0
      replace hx197_1 := (HB.out.cell (World.block_lt_of_cell? w _ hx197_1)).trans hx197_1
      replace p197 := eq_true p197
      replace q197 := eq_true q197
      try go_wp2_with (first | ((with_reducible refine gate_dst (N := 4) rfl ?_); refine box_q 4 #[.int .i64 0, .int .i64 0] 63 ?_; intro gb198 hg w10 hbox hb; have BK198 := Aside0.mk (hbox); have GW198 := Aside0.mk ((by rw [hg]; exact (below_size (bw_q HB)) : w.heap.size ≤ gb198)); have GE198 := Aside0.mk ((by rw [hg]; exact (below_size (bw_q HB)) : w.heap.size ≤ gb198)); replace HB := Aside0.mk (below_step (bw_q HB) hb); have NB196_198 := Aside0.mk ((by rw [hg]; exact Nat.ne_of_lt (blk_lt (g := gb196) (o := .cells #[.int .i64 a0_0, .int .i64 a0_1, .int .i64 a0_2, .int .i64 a0_3, .int .i64 a0_4, .slice (some ad197) l0_5.length c0_5, .int .i64 a0_6, .bool a0_7] 24 (0, 0)) (bk_q BK196)) : gb196 ≠ gb198)); have NB198_196 := Aside0.mk ((by rw [hg]; exact Nat.ne_of_gt (blk_lt (g := gb196) (o := .cells #[.int .i64 a0_0, .int .i64 a0_1, .int .i64 a0_2, .int .i64 a0_3, .int .i64 a0_4, .slice (some ad197) l0_5.length c0_5, .int .i64 a0_6, .bool a0_7] 24 (0, 0)) (bk_q BK196)) : gb198 ≠ gb196)); replace BK196 := Aside0.mk (blk_below (g := gb196) (bk_q BK196) hb); clear hb hbox hg; have hnb11 := NB198_196.out; have hnc11 := NB196_198.out; have hcz12_0 : w10.cell? ⟨gb198, 0, none⟩ = some (.int .i64 0) := (blk_cell BK198.out 0).trans rfl; have hcz12_1 : w10.cell? ⟨gb198, 1, none⟩ = some (.int .i64 0) := (blk_cell BK198.out 1).trans rfl; have hfz12_0 := blk_frozen BK198.out 0; have hfz12_1 := blk_frozen BK198.out 1))
      have n0_ : Aside0 (((w10.setCell ⟨gb198, 0, none⟩ (.int .i64 ((rd_T63 l0_5 x8_1).f0))).setCell ⟨gb198, 1, none⟩ (.int .i64 ((rd_T63 l0_5 x8_1).f1))).heap[gb196]? = some (.cells #[.int .i64 a0_0, .int .i64 a0_1, .int .i64 a0_2, .int .i64 a0_3, .int .i64 a0_4, .slice (some ad197) l0_5.length c0_5, .int .i64 a0_6, .bool a0_7] 24 (0, 0))) := ⟨by refine bz_ ?_; refine blk_far ?_ NB196_198.out _; refine bz_ ?_; refine blk_far ?_ NB196_198.out _; refine bz_ ?_; exact BK196.out⟩
      have n1_ : Aside0 (((w10.setCell ⟨gb198, 0, none⟩ (.int .i64 ((rd_T63 l0_5 x8_1).f0))).setCell ⟨gb198, 1, none⟩ (.int .i64 ((rd_T63 l0_5 x8_1).f1))).heap[gb198]? = some (.cells #[.int .i64 ((rd_T63 l0_5 x8_1).f0), .int .i64 ((rd_T63 l0_5 x8_1).f1)] 63 (0, 0))) := ⟨by refine bz_ ?_; refine blk_put (cs := #[.int .i64 ((rd_T63 l0_5 x8_1).f0), .int .i64 0]) ?_ 1 _ rfl; refine bz_ ?_; refine blk_put (cs := #[.int .i64 0, .int .i64 0]) ?_ 0 _ rfl; refine bz_ ?_; exact BK198.out⟩
      have n2_ : Aside0 (Below w.heap.size w ((w10.setCell ⟨gb198, 0, none⟩ (.int .i64 ((rd_T63 l0_5 x8_1).f0))).setCell ⟨gb198, 1, none⟩ (.int .i64 ((rd_T63 l0_5 x8_1).f1)))) := ⟨bw_q HB⟩
      (try clear BK196)
      (try clear BK198)
      (try clear HB)
      generalize ((w10.setCell ⟨gb198, 0, none⟩ (.int .i64 ((rd_T63 l0_5 x8_1).f0))).setCell ⟨gb198, 1, none⟩ (.int .i64 ((rd_T63 l0_5 x8_1).f1))) = w13 at n0_ n1_ n2_ ⊢
      have BK196 := n0_
      have BK198 := n1_
      have HB := n2_
      clear n0_ n1_ n2_
      replace BK196 := Aside0.mk (blk_drew BK196.out)
      replace BK198 := Aside0.mk (blk_drew BK198.out)
      replace HB := Aside0.mk (below_drew1 HB.out)
      refine start_ (n := 33) (S := fun w' => w'.cell? ⟨gb198, 0, none⟩ = some (.int .i64 ((rd_T63 l0_5 x8_1).f0)) ∧ w'.cell? ⟨gb198, 1, none⟩ = some (.int .i64 ((rd_T63 l0_5 x8_1).f1))) (ds := []) (bL 33 0) (by kernel_rfl) rfl rfl ⟨(blk_cell BK198.out 0).trans rfl, (blk_cell BK198.out 1).trans rfl⟩ (fun hHeld => ?_); refine with_tabW impl_nearOk.tab4 impl_nearOk.bits4 (fun HT_ HW_ => ?_)
      generalize w13.drew = w14 at BK196 BK198 HB hHeld ⊢
      refine pq_ 0 13 (bL 33 1) HT_.out rfl rfl ?_
      refine take_ (i := 1) (N := some 14) (v := ?_) (a' := ?_) (bL 33 3) rfl rfl (take_ofW HT_.out HW_.out (by kernel_rfl)) (fun _ _ _ h => h) (Or.inl ⟨by rfl, ?_⟩) hHeld ?_ ?_; rotate_left; (rintro w' ⟨s0, s1⟩; go_simp; with_reducible rfl); rotate_left; (exact put_q)
      refine one_ (i := 2) (N := some 15) (bL 33 7) rfl rfl (one_of HT_.out (by kernel_rfl)) (by decide) (fun K hK => ?_)
      refine goes_ Try.func69 (by kernel_rfl) rfl #[.int .i64 ((rd_T63 l0_5 x8_1).f0), .int .i64 1, .int .i64 6] (by rfl) rfl rfl mp_q ?_
      with_reducible refine (impl_in.calls ((rd_T63 l0_5 x8_1).f0) 1 6 t199 _ A7.out).mono ?_
      rintro e w' ⟨rfl, ⟨nd, rfl⟩⟩
      refine ⟨_, rfl, ?_⟩
      refine hK.out _ _ ⟨(blk_cell BK198.out 0).trans rfl, (blk_cell BK198.out 1).trans rfl⟩ (fun hHeld => ?_)
      clear hK K
      refine norm_ (a' := ?_) ?_ ?_; rotate_left; (show Act.put _ (some 15) _ = _; simp only [Act.put, List.setIfInBounds_toArray, List.set_cons_zero, List.set_cons_succ, i64_w, i32_w]; rfl)
      refine pq_ 3 16 (bL 33 15) HT_.out rfl rfl ?_
      refine pq_ 4 17 (bL 33 31) HT_.out rfl rfl ?_
      have H := HZ4.out
      clear HZ4
      by_cases c8 : t199 = true
      ·subst c8
       have H1 : (if ((rd_T63 l0_5 x8_1).f0) = a0_2 then (some false) else ((impl_in.f ((rd_T63 l0_5 x8_1).f1) 1 1000).bind fun t200 => (if t200 = true then (if x8_1 > 0 then (if 0 ≤ (wrap64 (x8_1 - 1)) then (if (wrap64 (x8_1 - 1)) < (l0_5.length : Int) then (if ((rd_T63 l0_5 (wrap64 (x8_1 - 1))).f0) ≥ ((rd_T63 l0_5 x8_1).f0) then (some false) else (impl_nearOk.l0 k1 l0_5 (l0_5.length : Int) (wrap64 (x8_1 + 1)) a0_0 a0_1 a0_2 a0_3 a0_4 l0_5 a0_6 a0_7)) else (none)) else (none)) else (impl_nearOk.l0 k1 l0_5 (l0_5.length : Int) (wrap64 (x8_1 + 1)) a0_0 a0_1 a0_2 a0_3 a0_4 l0_5 a0_6 a0_7)) else (some false)))) = some r := by rw [if_pos rfl] at H; exact H
       clear H
       have H := H1
       clear H1
       have HZ5 := Aside0.mk H
       clear H
       refine last_weaken (fun w' => w'.cell? ⟨gb198, 0, none⟩ = some (.int .i64 ((rd_T63 l0_5 x8_1).f0)) ∧ w'.cell? ⟨gb198, 1, none⟩ = some (.int .i64 ((rd_T63 l0_5 x8_1).f1)) ∧ w'.cell? ⟨gb196, 0, none⟩ = some (.int .i64 a0_0) ∧ w'.cell? ⟨gb196, 1, none⟩ = some (.int .i64 a0_1) ∧ w'.cell? ⟨gb196, 2, none⟩ = some (.int .i64 a0_2) ∧ w'.cell? ⟨gb196, 3, none⟩ = some (.int .i64 a0_3) ∧ w'.cell? ⟨gb196, 4, none⟩ = some (.int .i64 a0_4) ∧ w'.cell? ⟨gb196, 5, none⟩ = some (.slice (some ad197) l0_5.length c0_5) ∧ w'.cell? ⟨gb196, 6, none⟩ = some (.int .i64 a0_6) ∧ w'.cell? ⟨gb196, 7, none⟩ = some (.bool a0_7)) (fun w' h_ => ⟨h_.1, h_.2.1⟩) ⟨hHeld.1, hHeld.2, (by first | assumption | exact (blk_cell BK196.out 0).trans rfl), (by first | assumption | exact (blk_cell BK196.out 1).trans rfl), (by first | assumption | exact (blk_cell BK196.out 2).trans rfl), (by first | assumption | exact (blk_cell BK196.out 3).trans rfl), (by first | assumption | exact (blk_cell BK196.out 4).trans rfl), (by first | assumption | exact (blk_cell BK196.out 5).trans rfl), (by first | assumption | exact (blk_cell BK196.out 6).trans rfl), (by first | assumption | exact (blk_cell BK196.out 7).trans rfl)⟩ (fun hHeld => ?_)
       refine pq_ 5 18 (bL 33 63) HT_.out rfl rfl ?_
       refine pq_ 7 20 (bL 33 191) HT_.out rfl rfl ?_
       refine take_ (i := 6) (N := some 19) (v := ?_) (a' := ?_) (bL 33 255) rfl rfl (take_ofW HT_.out HW_.out (by kernel_rfl)) (fun _ _ _ h => h) (Or.inl ⟨by rfl, ?_⟩) hHeld ?_ ?_; rotate_left; (rintro w' ⟨s0, s1, s2, s3, s4, s5, s6, s7, s8, s9⟩; go_simp; with_reducible rfl); rotate_left; (exact put_q)
       refine take_ (i := 8) (N := some 21) (v := ?_) (a' := ?_) (bL 33 511) rfl rfl (take_ofW HT_.out HW_.out (by kernel_rfl)) (fun _ _ _ h => h) (Or.inl ⟨by rfl, ?_⟩) hHeld ?_ ?_; rotate_left; (rintro w' ⟨s0, s1, s2, s3, s4, s5, s6, s7, s8, s9⟩; go_simp; with_reducible rfl); rotate_left; (exact put_q)
       refine pq_ 9 22 (bL 33 1023) HT_.out rfl rfl ?_
       refine pq_ 10 23 (bL 33 2047) HT_.out rfl rfl ?_
       refine pq_ 11 24 (bL 33 4095) HT_.out rfl rfl ?_
       have H := HZ5.out
       clear HZ5
       by_cases c9 : ((rd_T63 l0_5 x8_1).f0) = a0_2
       ·rw [if_pos c9] at H
        have c9b0 : (((rd_T63 l0_5 x8_1).f0) == a0_2) = true := beq_iff_eq.mpr c9
        have c9b1 : (((rd_T63 l0_5 x8_1).f0) != a0_2) = false := bne_eq_false_iff_eq.mpr c9
        (first | rw [c9b0] | rw [c9b1] | (simp only [i64_w, i32_w]; first | rw [c9b0] | rw [c9b1]) | skip)
        clear c9
        obtain rfl := Option.some.inj H
        refine pu_ 12 25 (bL 33 8191) HT_.out rfl rfl ?_
        refine pu_ 13 26 (bL 33 16383) HT_.out rfl rfl ?_
        refine pu_ 14 27 (bL 33 32767) HT_.out rfl rfl ?_
        refine pu_ 15 28 (bL 33 65535) HT_.out rfl rfl ?_
        refine pq_ 16 29 (bL 33 131071) HT_.out rfl rfl ?_
        refine pq_ 17 30 (bL 33 262143) HT_.out rfl rfl ?_
        refine pu_ 18 31 (bL 33 524287) HT_.out rfl rfl ?_
        refine pu_ 19 32 (bL 33 1048575) HT_.out rfl rfl ?_
        refine pu_ 20 33 (bL 33 2097151) HT_.out rfl rfl ?_
        refine pu_ 21 34 (bL 33 4194303) HT_.out rfl rfl ?_
        refine pu_ 22 35 (bL 33 8388607) HT_.out rfl rfl ?_
        refine pu_ 23 36 (bL 33 16777215) HT_.out rfl rfl ?_
        refine pu_ 24 37 (bL 33 33554431) HT_.out rfl rfl ?_
        refine pu_ 25 38 (bL 33 67108863) HT_.out rfl rfl ?_
        refine pu_ 26 39 (bL 33 134217727) HT_.out rfl rfl ?_
        refine pu_ 27 40 (bL 33 268435455) HT_.out rfl rfl ?_
        refine pu_ 28 41 (bL 33 536870911) HT_.out rfl rfl ?_
        refine pu_ 29 42 (bL 33 1073741823) HT_.out rfl rfl ?_
        refine pu_ 30 43 (bL 33 2147483647) HT_.out rfl rfl ?_
        refine pu_ 31 44 (bL 33 4294967295) HT_.out rfl rfl ?_
        refine pq_ 32 45 (bL 33 8589934591) HT_.out rfl rfl ?_
        refine done_ (done_of HT_.out (by kernel_rfl)) ?_
        try go_wp2
        go_ret
        exact ⟨er_q, bw_q HB⟩
       ·rw [if_neg c9] at H
        have c9b0 : (((rd_T63 l0_5 x8_1).f0) == a0_2) = false := beq_eq_false_iff_ne.mpr c9
        have c9b1 : (((rd_T63 l0_5 x8_1).f0) != a0_2) = true := bne_iff_ne.mpr c9
        (first | rw [c9b0] | rw [c9b1] | (simp only [i64_w, i32_w]; first | rw [c9b0] | rw [c9b1]) | skip)
        replace H := Option.bind_eq_some_iff.mp H
        obtain ⟨t200, A150, H⟩ := H
        replace H : (if t200 = true then (if x8_1 > 0 then (if 0 ≤ (wrap64 (x8_1 - 1)) then (if (wrap64 (x8_1 - 1)) < (l0_5.length : Int) then (if ((rd_T63 l0_5 (wrap64 (x8_1 - 1))).f0) ≥ ((rd_T63 l0_5 x8_1).f0) then (some false) else (impl_nearOk.l0 k1 l0_5 (l0_5.length : Int) (wrap64 (x8_1 + 1)) a0_0 a0_1 a0_2 a0_3 a0_4 l0_5 a0_6 a0_7)) else (none)) else (none)) else (impl_nearOk.l0 k1 l0_5 (l0_5.length : Int) (wrap64 (x8_1 + 1)) a0_0 a0_1 a0_2 a0_3 a0_4 l0_5 a0_6 a0_7)) else (some false)) = some r := H
        have A15 := Aside0.mk A150
        clear A150
        have HZ6 := Aside0.mk H
        clear H
        refine pq_ 12 25 (bL 33 8191) HT_.out rfl rfl ?_
        refine take_ (i := 13) (N := some 26) (v := ?_) (a' := ?_) (bL 33 16383) rfl rfl (take_ofW HT_.out HW_.out (by kernel_rfl)) (fun _ _ _ h => h) (Or.inl ⟨by rfl, ?_⟩) hHeld ?_ ?_; rotate_left; (rintro w' ⟨s0, s1, s2, s3, s4, s5, s6, s7, s8, s9⟩; go_simp; with_reducible rfl); rotate_left; (exact put_q)
        refine one_ (i := 14) (N := some 27) (bL 33 32767) rfl rfl (one_of HT_.out (by kernel_rfl)) (by decide) (fun K hK => ?_)
        refine goes_ Try.func69 (by kernel_rfl) rfl #[.int .i64 ((rd_T63 l0_5 x8_1).f1), .int .i64 1, .int .i64 1000] (by rfl) rfl rfl mp_q ?_
        with_reducible refine (impl_in.calls ((rd_T63 l0_5 x8_1).f1) 1 1000 t200 _ A15.out).mono ?_
        rintro e w' ⟨rfl, ⟨nd, rfl⟩⟩
        refine ⟨_, rfl, ?_⟩
        refine hK.out _ _ ⟨(blk_cell BK198.out 0).trans rfl, (blk_cell BK198.out 1).trans rfl, (blk_cell BK196.out 0).trans rfl, (blk_cell BK196.out 1).trans rfl, (blk_cell BK196.out 2).trans rfl, (blk_cell BK196.out 3).trans rfl, (blk_cell BK196.out 4).trans rfl, (blk_cell BK196.out 5).trans rfl, (blk_cell BK196.out 6).trans rfl, (blk_cell BK196.out 7).trans rfl⟩ (fun hHeld => ?_)
        clear hK K
        refine norm_ (a' := ?_) ?_ ?_; rotate_left; (show Act.put _ (some 27) _ = _; simp only [Act.put, List.setIfInBounds_toArray, List.set_cons_zero, List.set_cons_succ, i64_w, i32_w]; rfl)
        refine pq_ 15 28 (bL 33 65535) HT_.out rfl rfl ?_
        refine pq_ 16 29 (bL 33 131071) HT_.out rfl rfl ?_
        refine pq_ 17 30 (bL 33 262143) HT_.out rfl rfl ?_
        have H := HZ6.out
        clear HZ6
        by_cases c16 : t200 = true
        ·subst c16
         have H1 : (if x8_1 > 0 then (if 0 ≤ (wrap64 (x8_1 - 1)) then (if (wrap64 (x8_1 - 1)) < (l0_5.length : Int) then (if ((rd_T63 l0_5 (wrap64 (x8_1 - 1))).f0) ≥ ((rd_T63 l0_5 x8_1).f0) then (some false) else (impl_nearOk.l0 k1 l0_5 (l0_5.length : Int) (wrap64 (x8_1 + 1)) a0_0 a0_1 a0_2 a0_3 a0_4 l0_5 a0_6 a0_7)) else (none)) else (none)) else (impl_nearOk.l0 k1 l0_5 (l0_5.length : Int) (wrap64 (x8_1 + 1)) a0_0 a0_1 a0_2 a0_3 a0_4 l0_5 a0_6 a0_7)) = some r := by rw [if_pos rfl] at H; exact H
         clear H
         have H := H1
         clear H1
         have HZ7 := Aside0.mk H
         clear H
         refine pq_ 18 31 (bL 33 524287) HT_.out rfl rfl ?_
         refine pq_ 19 32 (bL 33 1048575) HT_.out rfl rfl ?_
         refine pq_ 20 33 (bL 33 2097151) HT_.out rfl rfl ?_
         have H := HZ7.out
         clear HZ7
         by_cases c17 : x8_1 > 0
         ·rw [if_pos c17] at H
          have c17b0 : decide (0 < x8_1) = true := decide_eq_true c17
          (first | rw [c17b0] | (simp only [i64_w, i32_w]; first | rw [c17b0]) | skip)
          clear c17
          obtain ⟨ji18, hji18⟩ : ∃ j_ : Int, (wrap64 (x8_1 - 1)) = j_ := ⟨_, rfl⟩
          replace H : (if 0 ≤ (ji18) then (if (ji18) < (l0_5.length : Int) then (if ((rd_T63 l0_5 (ji18)).f0) ≥ ((rd_T63 l0_5 x8_1).f0) then (some false) else (impl_nearOk.l0 k1 l0_5 (l0_5.length : Int) (wrap64 (x8_1 + 1)) a0_0 a0_1 a0_2 a0_3 a0_4 l0_5 a0_6 a0_7)) else (none)) else (none)) = some r := by first | (rw [hji18] at H; exact H) | (simp only [hji18] at H ⊢; exact H)
          (try rw [hji18] at A7)
          (try rw [hji18] at A15)
          have hji18w : (IntKind.i64.wrap (x8_1 - 1)) = ji18 := (i64_w _).trans hji18
          by_cases c19 : 0 ≤ (ji18)
          ·rw [if_pos c19] at H
           have c19b0 : decide (0 ≤ (ji18)) = true := decide_eq_true c19
           clear c19
           by_cases c20 : (ji18) < (l0_5.length : Int)
           ·rw [if_pos c20] at H
            have c20b0 : decide ((ji18) < (l0_5.length : Int)) = true := decide_eq_true c20
            clear c20
            have HZ8 := Aside0.mk H
            clear H
            have p201 : 0 ≤ ((ji18) : Int) := of_decide_eq_true as_q
            have q201 : (ji18) < (l0_5.length : Int) := of_decide_eq_true as_q
            obtain ⟨ad201, e201, hx201_0, hx201_1⟩ := at_T63 HR0_5.out (ji18) p201 q201
            have hw201_1 := hx201_1
            have hw201_0 := hx201_0
            obtain rfl : ad197 = ad201 := (by injection e201)
            replace hx201_0 := (HB.out.cell (World.block_lt_of_cell? w _ hx201_0)).trans hx201_0
            replace hx201_1 := (HB.out.cell (World.block_lt_of_cell? w _ hx201_1)).trans hx201_1
            replace p201 := eq_true p201
            replace q201 := eq_true q201
            refine last_weaken (fun w' => w'.cell? ⟨gb198, 0, none⟩ = some (.int .i64 ((rd_T63 l0_5 x8_1).f0)) ∧ w'.cell? ⟨gb198, 1, none⟩ = some (.int .i64 ((rd_T63 l0_5 x8_1).f1)) ∧ w'.cell? ⟨gb196, 0, none⟩ = some (.int .i64 a0_0) ∧ w'.cell? ⟨gb196, 1, none⟩ = some (.int .i64 a0_1) ∧ w'.cell? ⟨gb196, 2, none⟩ = some (.int .i64 a0_2) ∧ w'.cell? ⟨gb196, 3, none⟩ = some (.int .i64 a0_3) ∧ w'.cell? ⟨gb196, 4, none⟩ = some (.int .i64 a0_4) ∧ w'.cell? ⟨gb196, 5, none⟩ = some (.slice (some ad197) l0_5.length c0_5) ∧ w'.cell? ⟨gb196, 6, none⟩ = some (.int .i64 a0_6) ∧ w'.cell? ⟨gb196, 7, none⟩ = some (.bool a0_7) ∧ w'.cell? (ad197.add (((ji18)).toNat * 2)) = some (.int .i64 ((rd_T63 l0_5 (ji18)).f0)) ∧ w'.cell? ⟨(ad197.add (((ji18)).toNat * 2)).block, (ad197.add (((ji18)).toNat * 2)).off + 1, none⟩ = some (.int .i64 ((rd_T63 l0_5 (ji18)).f1))) (fun w' h_ => ⟨h_.1, h_.2.1, h_.2.2.1, h_.2.2.2.1, h_.2.2.2.2.1, h_.2.2.2.2.2.1, h_.2.2.2.2.2.2.1, h_.2.2.2.2.2.2.2.1, h_.2.2.2.2.2.2.2.2.1, h_.2.2.2.2.2.2.2.2.2.1⟩) ⟨hHeld.1, hHeld.2.1, hHeld.2.2.1, hHeld.2.2.2.1, hHeld.2.2.2.2.1, hHeld.2.2.2.2.2.1, hHeld.2.2.2.2.2.2.1, hHeld.2.2.2.2.2.2.2.1, hHeld.2.2.2.2.2.2.2.2.1, hHeld.2.2.2.2.2.2.2.2.2, (by first | assumption | exact ((HB.out.cell (World.block_lt_of_cell? w _ hw201_0)).trans hw201_0)), (by first | assumption | exact ((HB.out.cell (World.block_lt_of_cell? w _ hw201_1)).trans hw201_1))⟩ (fun hHeld => ?_)
            refine pq_ 21 34 (bL 33 4194303) HT_.out rfl rfl ?_
            refine pq_ 23 36 (bL 33 12582911) HT_.out rfl rfl ?_
            refine pq_ 24 37 (bL 33 29360127) HT_.out rfl rfl ?_
            refine pq_ 28 41 (bL 33 297795583) HT_.out rfl rfl ?_
            refine take_ (i := 22) (N := some 35) (v := ?_) (a' := ?_) (bL 33 301989887) rfl rfl (take_ofW HT_.out HW_.out (by kernel_rfl)) (fun _ _ _ h => h) (Or.inl ⟨by rfl, ?_⟩) hHeld ?_ ?_; rotate_left; (rintro w' ⟨s0, s1, s2, s3, s4, s5, s6, s7, s8, s9, s10, s11⟩; go_simp; with_reducible rfl); rotate_left; (exact put_q)
            refine pq_ 25 38 (bL 33 335544319) HT_.out rfl rfl ?_
            refine pq_ 26 39 (bL 33 402653183) HT_.out rfl rfl ?_
            refine take_ (i := 27) (N := some 40) (v := ?_) (a' := ?_) (bL 33 536870911) rfl rfl (take_ofW HT_.out HW_.out (by kernel_rfl)) (fun _ _ _ h => h) (Or.inl ⟨by rfl, ?_⟩) hHeld ?_ ?_; rotate_left; (rintro w' ⟨s0, s1, s2, s3, s4, s5, s6, s7, s8, s9, s10, s11⟩; go_simp; with_reducible rfl); rotate_left; (exact put_q)
            refine take_ (i := 29) (N := some 42) (v := ?_) (a' := ?_) (bL 33 1073741823) rfl rfl (take_ofW HT_.out HW_.out (by kernel_rfl)) (fun _ _ _ h => h) (Or.inl ⟨by rfl, ?_⟩) hHeld ?_ ?_; rotate_left; (rintro w' ⟨s0, s1, s2, s3, s4, s5, s6, s7, s8, s9, s10, s11⟩; go_simp; with_reducible rfl); rotate_left; (exact put_q)
            refine pq_ 30 43 (bL 33 2147483647) HT_.out rfl rfl ?_
            refine pq_ 31 44 (bL 33 4294967295) HT_.out rfl rfl ?_
            refine pq_ 32 45 (bL 33 8589934591) HT_.out rfl rfl ?_
            have H := HZ8.out
            clear HZ8
            by_cases c21 : ((rd_T63 l0_5 (ji18)).f0) ≥ ((rd_T63 l0_5 x8_1).f0)
            ·rw [if_pos c21] at H
             have c21b0 : decide (((rd_T63 l0_5 x8_1).f0) ≤ ((rd_T63 l0_5 (ji18)).f0)) = true := decide_eq_true c21
             (first | rw [c21b0] | (simp only [i64_w, i32_w]; first | rw [c21b0]) | skip)
             clear c21
             obtain rfl := Option.some.inj H
             refine done_ (done_of HT_.out (by kernel_rfl)) ?_
             try go_wp2
             go_ret
             exact ⟨by first | rfl | (simp [errW_none, errW_some] <;> rfl) | (simp only [← hji18]; first | rfl | (simp [errW_none, errW_some] <;> rfl)) | (simp [*, errW_none, errW_some] <;> rfl), bw_q HB⟩
            ·rw [if_neg c21] at H
             have c21b0 : decide (((rd_T63 l0_5 x8_1).f0) ≤ ((rd_T63 l0_5 (ji18)).f0)) = false := decide_eq_false c21
             (first | rw [c21b0] | (simp only [i64_w, i32_w]; first | rw [c21b0]) | skip)
             clear c21
             have H' := Aside0.mk H
             clear H
             refine done_ (done_of HT_.out (by kernel_rfl)) ?_
             try go_wp2
             go_roundg k1
             case measure => have := HK1.out; omega
             case rel => exact ⟨(wrap64 (x8_1 + 1)), (by first | rfl | (simp; done) | (simp [*]; done)), H', ⟨by have := HK1.out; omega⟩, ⟨by refine bz_ ?_; exact BK196.out⟩, ⟨bw_q HB⟩⟩
           ·rw [if_neg c20] at H
            exact absurd H (by simp)
          ·rw [if_neg c19] at H
           exact absurd H (by simp)
         ·rw [if_neg c17] at H
          have c17b0 : decide (0 < x8_1) = false := decide_eq_false c17
          (first | rw [c17b0] | (simp only [i64_w, i32_w]; first | rw [c17b0]) | skip)
          clear c17
          have H' := Aside0.mk H
          clear H
          refine pu_ 21 34 (bL 33 4194303) HT_.out rfl rfl ?_
          refine pu_ 22 35 (bL 33 8388607) HT_.out rfl rfl ?_
          refine pu_ 23 36 (bL 33 16777215) HT_.out rfl rfl ?_
          refine pu_ 24 37 (bL 33 33554431) HT_.out rfl rfl ?_
          refine pu_ 25 38 (bL 33 67108863) HT_.out rfl rfl ?_
          refine pu_ 26 39 (bL 33 134217727) HT_.out rfl rfl ?_
          refine pu_ 27 40 (bL 33 268435455) HT_.out rfl rfl ?_
          refine pu_ 28 41 (bL 33 536870911) HT_.out rfl rfl ?_
          refine pu_ 29 42 (bL 33 1073741823) HT_.out rfl rfl ?_
          refine pu_ 30 43 (bL 33 2147483647) HT_.out rfl rfl ?_
          refine pq_ 31 44 (bL 33 4294967295) HT_.out rfl rfl ?_
          refine pq_ 32 45 (bL 33 8589934591) HT_.out rfl rfl ?_
          refine done_ (done_of HT_.out (by kernel_rfl)) ?_
          try go_wp2
          go_roundg k1
          case measure => have := HK1.out; omega
          case rel => exact ⟨(wrap64 (x8_1 + 1)), (by first | rfl | (simp; done) | (simp [*]; done)), H', ⟨by have := HK1.out; omega⟩, ⟨by refine bz_ ?_; exact BK196.out⟩, ⟨bw_q HB⟩⟩
        ·replace c16 := Bool.eq_false_iff.mpr c16
         subst c16
         have H1 : (some false) = some r := by rw [if_neg (show ¬ (false = true) by decide)] at H; exact H
         clear H
         have H := H1
         clear H1
         obtain rfl := Option.some.inj H
         refine pu_ 18 31 (bL 33 524287) HT_.out rfl rfl ?_
         refine pu_ 19 32 (bL 33 1048575) HT_.out rfl rfl ?_
         refine pu_ 20 33 (bL 33 2097151) HT_.out rfl rfl ?_
         refine pu_ 21 34 (bL 33 4194303) HT_.out rfl rfl ?_
         refine pu_ 22 35 (bL 33 8388607) HT_.out rfl rfl ?_
         refine pu_ 23 36 (bL 33 16777215) HT_.out rfl rfl ?_
         refine pu_ 24 37 (bL 33 33554431) HT_.out rfl rfl ?_
         refine pu_ 25 38 (bL 33 67108863) HT_.out rfl rfl ?_
         refine pu_ 26 39 (bL 33 134217727) HT_.out rfl rfl ?_
         refine pu_ 27 40 (bL 33 268435455) HT_.out rfl rfl ?_
         refine pu_ 28 41 (bL 33 536870911) HT_.out rfl rfl ?_
         refine pu_ 29 42 (bL 33 1073741823) HT_.out rfl rfl ?_
         refine pu_ 30 43 (bL 33 2147483647) HT_.out rfl rfl ?_
         refine pu_ 31 44 (bL 33 4294967295) HT_.out rfl rfl ?_
         refine pq_ 32 45 (bL 33 8589934591) HT_.out rfl rfl ?_
         refine done_ (done_of HT_.out (by kernel_rfl)) ?_
         try go_wp2
         go_ret
         exact ⟨er_q, bw_q HB⟩
      ·replace c8 := Bool.eq_false_iff.mpr c8
       subst c8
       have H1 : (some false) = some r := by rw [if_neg (show ¬ (false = true) by decide)] at H; exact H
       clear H
       have H := H1
       clear H1
       obtain rfl := Option.some.inj H
       refine pu_ 5 18 (bL 33 63) HT_.out rfl rfl ?_
       refine pu_ 6 19 (bL 33 127) HT_.out rfl rfl ?_
       refine pu_ 7 20 (bL 33 255) HT_.out rfl rfl ?_
       refine pu_ 8 21 (bL 33 511) HT_.out rfl rfl ?_
       refine pu_ 9 22 (bL 33 1023) HT_.out rfl rfl ?_
       refine pq_ 10 23 (bL 33 2047) HT_.out rfl rfl ?_
       refine pq_ 11 24 (bL 33 4095) HT_.out rfl rfl ?_
       refine pu_ 12 25 (bL 33 8191) HT_.out rfl rfl ?_
       refine pu_ 13 26 (bL 33 16383) HT_.out rfl rfl ?_
       refine pu_ 14 27 (bL 33 32767) HT_.out rfl rfl ?_
       refine pu_ 15 28 (bL 33 65535) HT_.out rfl rfl ?_
       refine pq_ 16 29 (bL 33 131071) HT_.out rfl rfl ?_
       refine pq_ 17 30 (bL 33 262143) HT_.out rfl rfl ?_
       refine pu_ 18 31 (bL 33 524287) HT_.out rfl rfl ?_
       refine pu_ 19 32 (bL 33 1048575) HT_.out rfl rfl ?_
       refine pu_ 20 33 (bL 33 2097151) HT_.out rfl rfl ?_
       refine pu_ 21 34 (bL 33 4194303) HT_.out rfl rfl ?_
       refine pu_ 22 35 (bL 33 8388607) HT_.out rfl rfl ?_
       refine pu_ 23 36 (bL 33 16777215) HT_.out rfl rfl ?_
       refine pu_ 24 37 (bL 33 33554431) HT_.out rfl rfl ?_
       refine pu_ 25 38 (bL 33 67108863) HT_.out rfl rfl ?_
       refine pu_ 26 39 (bL 33 134217727) HT_.out rfl rfl ?_
       refine pu_ 27 40 (bL 33 268435455) HT_.out rfl rfl ?_
       refine pu_ 28 41 (bL 33 536870911) HT_.out rfl rfl ?_
       refine pu_ 29 42 (bL 33 1073741823) HT_.out rfl rfl ?_
       refine pu_ 30 43 (bL 33 2147483647) HT_.out rfl rfl ?_
       refine pu_ 31 44 (bL 33 4294967295) HT_.out rfl rfl ?_
       refine pq_ 32 45 (bL 33 8589934591) HT_.out rfl rfl ?_
       refine done_ (done_of HT_.out (by kernel_rfl)) ?_
       try go_wp2
       go_ret
       exact ⟨er_q, bw_q HB⟩
     ·rw [if_neg c6] at H
      exact absurd H (by simp)
    ·rw [if_neg c5] at H
     exact absurd H (by simp)
   ·rw [if_neg c4] at H
    have c4b0 : decide (x8_1 < (l0_5.length : Int)) = false := decide_eq_false c4
    clear c4
    obtain rfl := Option.some.inj H
    go_wp2
    go_ret
    exact ⟨er_q, bw_q HB⟩

end Go.Proofs.Ytnecbkognpponaa.Q
