import Derived.Test.YtnecbkognpponaaXReadPacketQx45
import Derived.Test.YtnecbkognpponaaXReadPacketQspecRecordText
/- The contract of a Go function. -/

namespace Go.Proofs.Ytnecbkognpponaa.Q
open Go.RowKit Go.Proofs.YtnecbkognpponaaW.PrintWords Go.Proofs.YtnecbkognpponaaW.PrintLast Go.Proofs.YtnecbkognpponaaW.PrintMore
attribute [local go_sem] max2_int min2_int max_two min_two max_three min_three max_four min_four   -- for this text's walks alone
set_option linter.unusedVariables false
set_option linter.unusedSimpArgs false

/-! ### spec_Before: function 92 -/
def spec_Before.f (a : Int) (b : Int) (c : Int) (h : Int) (j : Int) (l : List (S63)) (m : Int) (n : Bool) (d : Int) (e : Int) (g : Int) (i : Int) (o : Int) (p : List (S63)) (q : Int) (s : Bool) : Option (Bool) := if a = d then (if b = e then (if c = g then (some (decide (h < i))) else (some (decide (c < g)))) else (some (decide (b < e)))) else (some (decide (a < d)))
set_option maxHeartbeats 8000000 in
set_option maxRecDepth 100000 in
theorem spec_Before.calls (Ad : Int) (Ae : Int) (Af : Int) (An : Int) (Ao : Int) (Ap : Option Addr) (Aq : Nat) (Ag : List (S63)) (Ar : Int) (As : Bool) (Ah : Int) (Ai : Int) (Aj : Int) (Av : Int) (Aw : Int) (Ax : Option Addr) (Ay : Nat) (Am : List (S63)) (Az : Int) (Ba : Bool) (r : Bool) (w : World) (hr0_5 : Kd.C k63 w Ap Ag.length Ag) (hc0_5 : Ag.length ≤ Aq) (hr1_5 : Kd.C k63 w Ax Am.length Am) (hc1_5 : Am.length ≤ Ay) (h : spec_Before.f Ad Ae Af An Ao Ag Ar As Ah Ai Aj Av Aw Am Az Ba = some r) :
  Calls Try.prog 92 #[.agg #[.int .i64 Ad, .int .i64 Ae, .int .i64 Af, .int .i64 An, .int .i64 Ao, .slice Ap Ag.length Aq, .int .i64 Ar, .bool As], .agg #[.int .i64 Ah, .int .i64 Ai, .int .i64 Aj, .int .i64 Av, .int .i64 Aw, .slice Ax Am.length Ay, .int .i64 Az, .bool Ba]] w fun e w' => e = .returned (.bool r) ∧ Below w.heap.size w w' := by
 have hu24 := Try.underlying24; have Hl := ak hr0_5; have Hm := ak hc0_5; clear hr0_5 hc0_5; have Hn := ak hr1_5; have Ho := ak hc1_5; clear hr1_5 hc1_5; have HB := ak (Below.refl w.heap.size w); have H := h
 clear h; unfold spec_Before.f at H; have Bg := ak H; clear H
 go_enter Try.func92, Try.ntmps92
 go_upto_if 9 with (first | ((with_reducible refine gate_dst (N := 2) rfl ?_); refine box_q 2 #[.int .i64 Ad, .int .i64 Ae, .int .i64 Af, .int .i64 An, .int .i64 Ao, .slice Ap Ag.length Aq, .int .i64 Ar, .bool As] 24 ?_; intro Ak hg w4 hbox hb; have Ac := ak (hbox); have Hp := gsz w (below_size (bw_q HB)) hg; have Hq := gsz w (below_size (bw_q HB)) hg; replace HB := ak (below_step (bw_q HB) hb); clear hb hbox hg) | ((with_reducible refine gate_dst (N := 3) rfl ?_); refine box_q 3 #[.int .i64 Ah, .int .i64 Ai, .int .i64 Aj, .int .i64 Av, .int .i64 Aw, .slice Ax Am.length Ay, .int .i64 Az, .bool Ba] 24 ?_; intro Bb hg w5 hbox hb; have Al := ak (hbox); have Hr := gsz w (below_size (bw_q HB)) hg; have Hs := gsz w (below_size (bw_q HB)) hg; replace HB := ak (below_step (bw_q HB) hb); have Aa := ak ((by rw [hg]; exact Nat.ne_of_lt (blk_lt (g := Ak) (o := .cells #[.int .i64 Ad, .int .i64 Ae, .int .i64 Af, .int .i64 An, .int .i64 Ao, .slice Ap Ag.length Aq, .int .i64 Ar, .bool As] 24 (0, 0)) (bk_q Ac)) : Ak ≠ Bb)); have Ab := ak ((by rw [hg]; exact Nat.ne_of_gt (blk_lt (g := Ak) (o := .cells #[.int .i64 Ad, .int .i64 Ae, .int .i64 Af, .int .i64 An, .int .i64 Ao, .slice Ap Ag.length Aq, .int .i64 Ar, .bool As] 24 (0, 0)) (bk_q Ac)) : Bb ≠ Ak)); replace Ac := ak (blk_below (g := Ak) (bk_q Ac) hb); clear hb hbox hg; have Ib := Aa.out; have Ic := Ab.out; obtain ⟨Gf, Gg, Gh, Gi, Gj, Gk, Gl, Gm, Gn, Go, Gp, Gq, Gr, Gs, Gt, Gu⟩ := cf8_ Ac; obtain ⟨Gv, Gw, Gx, Gy, Gz, Ha, Hb, Hc, Hd, He, Hf, Hg, Hh, Hi, Hj, Hk⟩ := cf8_ Al))
 have H := Bg.out; clear Bg
 by_cases c9 : Ad = Ah
 ·rw [if_pos c9] at H
  have At : (Ad == Ah) = true := bqi c9
  have Au : (Ad != Ah) = false := bnf c9
  clear c9
  (first | rw [At] | rw [Au] | (simp only [i64_w, i32_w]; first | rw [At] | rw [Au]) | skip)
  by_cases c10 : Ae = Ai
  ·rw [if_pos c10] at H
   have Bc : (Ae == Ai) = true := bqi c10
   have Bd : (Ae != Ai) = false := bnf c10
   clear c10
   by_cases c11 : Af = Aj
   ·rw [if_pos c11] at H
    have Be : (Af == Aj) = true := bqi c11
    have Bf : (Af != Aj) = false := bnf c11
    clear c11; obtain rfl := Option.some.inj H; have Ht := Aa.out; have Hu := Ab.out; obtain ⟨Bh, Bi, Bj, Bk, Bl, Bm, Bn, Bo, Bp, Bq, Br, Bs, Bt, Bu, Bv, Bw⟩ := cf8_ Ac; obtain ⟨Bx, By, Bz, Ca, Cb, Cc, Cd, Ce, Cf, Cg, Ch, Ci, Cj, Ck, Cl, Cm⟩ := cf8_ Al
    go_wp2
    go_ret
    exact ⟨er_q, bw_q HB⟩
   ·rw [if_neg c11] at H
    have Be : (Af == Aj) = false := bqf c11
    have Bf : (Af != Aj) = true := bni c11
    obtain rfl := Option.some.inj H; have Hv := Aa.out; have Hw := Ab.out; obtain ⟨Cn, Co, Cp, Cq, Cr, Cs, Ct, Cu, Cv, Cw, Cx, Cy, Cz, Da, Db, Dc⟩ := cf8_ Ac; obtain ⟨Dd, De, Df, Dg, Dh, Di, Dj, Dk, Dl, Dm, Dn, Do, Dp, Dq, Dr, Ds⟩ := cf8_ Al
    go_wp2
    go_ret
    exact ⟨er_q, bw_q HB⟩
  ·rw [if_neg c10] at H
   have Bc : (Ae == Ai) = false := bqf c10
   have Bd : (Ae != Ai) = true := bni c10
   obtain rfl := Option.some.inj H; have Hx := Aa.out; have Hy := Ab.out; obtain ⟨Dt, Du, Dv, Dw, Dx, Dy, Dz, Ea, Eb, Ec, Ed, Ee, Ef, Eg, Eh, Ei⟩ := cf8_ Ac; obtain ⟨Ej, Ek, El, Em, En, Eo, Ep, Eq, Er, Es, Et, Eu, Ev, Ew, Ex, Ey⟩ := cf8_ Al
   go_wp2
   go_ret
   exact ⟨er_q, bw_q HB⟩
 ·rw [if_neg c9] at H
  have At : (Ad == Ah) = false := bqf c9
  have Au : (Ad != Ah) = true := bni c9
  (first | rw [At] | rw [Au] | (simp only [i64_w, i32_w]; first | rw [At] | rw [Au]) | skip)
  obtain rfl := Option.some.inj H; have Hz := Aa.out; have Ia := Ab.out; obtain ⟨Ez, Fa, Fb, Fc, Fd, Fe, Ff, Fg, Fh, Fi, Fj, Fk, Fl, Fm, Fn, Fo⟩ := cf8_ Ac; obtain ⟨Fp, Fq, Fr, Fs, Ft, Fu, Fv, Fw, Fx, Fy, Fz, Ga, Gb, Gc, Gd, Ge⟩ := cf8_ Al
  go_wp2
  go_ret
  exact ⟨er_q, bw_q HB⟩

/-! ### spec_StoreOk: function 72 -/
def spec_StoreOk.l0 : Nat → List (S24) → Int → Option (Bool)
 | 0, _, _ => none
 | k + 1, b, a => if a < (b.length : Int) then (if 0 ≤ a then ((spec_RecordOk.f k ((rd_T24 b a).f0) ((rd_T24 b a).f1) ((rd_T24 b a).f2) ((rd_T24 b a).f3) ((rd_T24 b a).f4) ((rd_T24 b a).f5) ((rd_T24 b a).f6) ((rd_T24 b a).f7)).bind fun c => (if c = true then (if a > 0 then (if 0 ≤ (wrap64 (a - 1)) then (if (wrap64 (a - 1)) < (b.length : Int) then ((spec_Before.f ((rd_T24 b (wrap64 (a - 1))).f0) ((rd_T24 b (wrap64 (a - 1))).f1) ((rd_T24 b (wrap64 (a - 1))).f2) ((rd_T24 b (wrap64 (a - 1))).f3) ((rd_T24 b (wrap64 (a - 1))).f4) ((rd_T24 b (wrap64 (a - 1))).f5) ((rd_T24 b (wrap64 (a - 1))).f6) ((rd_T24 b (wrap64 (a - 1))).f7) ((rd_T24 b a).f0) ((rd_T24 b a).f1) ((rd_T24 b a).f2) ((rd_T24 b a).f3) ((rd_T24 b a).f4) ((rd_T24 b a).f5) ((rd_T24 b a).f6) ((rd_T24 b a).f7)).bind fun d => (if d = true then (spec_StoreOk.l0 k b (wrap64 (a + 1))) else (some false))) else (none)) else (none)) else (spec_StoreOk.l0 k b (wrap64 (a + 1)))) else (some false))) else (none)) else (some true)
def spec_StoreOk.f (k : Nat) (l0 : List (S24)) : Option (Bool) := if (l0.length : Int) > 150 then (some false) else (spec_StoreOk.l0 k l0 0)
theorem spec_StoreOk.mono_l : ∀ k, (∀ y0 y1, LeO (spec_StoreOk.l0 k y0 y1) (spec_StoreOk.l0 (k + 1) y0 y1))
 | 0 => fun _ _ r h => by simp [spec_StoreOk.l0] at h
 | k + 1 => by
  have ih0 := spec_StoreOk.mono_l k
  ·intro y0 y1
   unfold spec_StoreOk.l0
   with_reducible repeat' (first | apply ih0 | apply spec_RecordOk.mono | exact LeO.refl _ | exact LeO.none _ | refine LeO.ite ?_ ?_ | refine LeO.bind ?_ (fun _ => ?_))
theorem spec_StoreOk.mono : ∀ a0 k, LeO (spec_StoreOk.f k a0) (spec_StoreOk.f (k + 1) a0) := by
 intro a0 k
 have ih0 := spec_StoreOk.mono_l k
 unfold spec_StoreOk.f
 with_reducible repeat' (first | apply ih0 | apply spec_RecordOk.mono | exact LeO.refl _ | exact LeO.none _ | refine LeO.ite ?_ ?_ | refine LeO.bind ?_ (fun _ => ?_))
def spec_StoreOk.T6 : Bool × List (List Nat × List Nat) := (true, [([], []), ([], []), ([0, 1], [0, 1]), ([2], [2]), ([3], [3]), ([4], [4]), ([5, 4], [5]), ([6], [6]), ([7, 6], [6, 7]), ([8, 6, 6], [6, 8]), ([9], [9]), ([9], [9]), ([11, 9], [9, 11]), ([10, 12, 9], [9, 10, 12]), ([13, 9], [9, 13]), ([9], [9]), ([9], [9]), ([15, 16, 9], [9, 15, 16]), ([17, 9], [9, 17]), ([14, 18, 9, 9], [9, 14, 18]), ([19, 9], [9, 19]), ([9, 20, 6], [6, 9, 20]), ([6, 21], [6, 21])])
def spec_StoreOk.B6 : List Nat := [0, 0, 3, 7, 15, 31, 63, 127, 255, 511, 1023, 1023, 3071, 8191, 16383, 1023, 1023, 99327, 230399, 524287, 1048575, 2097151, 4194303]
theorem spec_StoreOk.tab6 : rtab .any (opsOf Try.f72 6) = spec_StoreOk.T6 := by kernel_rfl
theorem spec_StoreOk.bits6 : waitsOk spec_StoreOk.T6.2 spec_StoreOk.B6 = true := by kernel_rfl
set_option maxHeartbeats 8000000 in
set_option maxRecDepth 100000 in
theorem spec_StoreOk.calls (k : Nat) (A0 : Option Addr) (c0 : Nat) (l0 : List (S24)) (r : Bool) (w : World) (hr0 : Kd.C k24 w A0 l0.length l0) (hc0 : l0.length ≤ c0) (h : spec_StoreOk.f k l0 = some r) :
  Calls Try.prog 72 #[.slice A0 l0.length c0] w fun e w' => e = .returned (.bool r) ∧ Below w.heap.size w w' := by
 have hu24 := Try.underlying24; have HR0 := ak hr0; have Bh := ak hc0; clear hr0 hc0; have HB := ak (Below.refl w.heap.size w); have H := h
 clear h; unfold spec_StoreOk.f at H
 by_cases c2 : (l0.length : Int) > 150
 ·rw [if_pos c2] at H
  have Az : decide (150 < (l0.length : Int)) = true := decide_eq_true c2
  have Ba : decide (150 < l0.length) = true := decide_eq_true (by omega)
  clear c2; obtain rfl := Option.some.inj H
  go_enter Try.func72, Try.ntmps72
  go_wp2
  go_ret
  exact ⟨er_q, bw_q HB⟩
 ·rw [if_neg c2] at H
  have Az : decide (150 < (l0.length : Int)) = false := decide_eq_false c2
  have Ba : decide (150 < l0.length) = false := decide_eq_false (by omega)
  clear c2; have H' := ak H; clear H
  go_enter Try.func72, Try.ntmps72
  go_wp2
  go_loopg [3] k (fun kq v3 w' => ∃ (Aa : Int), v3 = .int .i64 Aa ∧ Aside0 (spec_StoreOk.l0 kq l0 Aa = some r) ∧ Aside0 (kq ≤ k) ∧ Aside0 (Below w.heap.size w w'))
  case atStart => exact ⟨(0), rs_q, H', ⟨Nat.le_refl _⟩, ⟨bw_q HB⟩⟩
  case round =>
   clear H'; (try clear c2); (try clear Az); (try clear Ba); (try clear p2); obtain ⟨Aa, rfl, HA, Aw, HB⟩ := hrel
   cases gk with
   | zero => exact absurd HA.out (by simp [spec_StoreOk.l0])
   | succ k1 =>
    have H := HA.out; clear HA
    simp only [spec_StoreOk.l0] at H
    by_cases c3 : Aa < (l0.length : Int)
    ·rw [if_pos c3] at H
     have Bd : decide (Aa < (l0.length : Int)) = true := decide_eq_true c3
     clear c3
     by_cases c4 : 0 ≤ Aa
     ·rw [if_pos c4] at H
      have Bf : decide (0 ≤ Aa) = true := decide_eq_true c4
      clear c4; replace H := bsi H; obtain ⟨Bb, A50, H⟩ := H
      (try dsimp only at H)
      have A5 := ak A50; clear A50; have HZ22 := ak H; clear H
      try go_wp2
      replace HB := ak (below_drew1 HB.out)
      have p188 : 0 ≤ (Aa : Int) := of_decide_eq_true as_q
      have q188 : Aa < (l0.length : Int) := of_decide_eq_true as_q
      obtain ⟨Ab, A188_5, c188_5, e188, Ac, Ad, Ae, Af, Ag, Ah, Ai, Aj, hl188_5, hi188_5⟩ := at_T24 HR0.out Aa p188 q188; have hw188_7 := Aj; have hw188_6 := Ai; have hw188_5 := Ah; have hw188_4 := Ag; have hw188_3 := Af; have hw188_2 := Ae; have hw188_1 := Ad; have hw188_0 := Ac
      cases e188
      replace Ac := hbc HB Ac; replace Ad := hbc HB Ad; replace Ae := hbc HB Ae; replace Af := hbc HB Af; replace Ag := hbc HB Ag; replace Ah := hbc HB Ah; replace Ai := hbc HB Ai; replace Aj := hbc HB Aj; have Ak := ak hi188_5; have Au := ak hl188_5; clear hi188_5 hl188_5; replace p188 := eq_true p188; replace q188 := eq_true q188
      refine start_ (n := 23) (S := fun w' => w'.cell? (Ab.add ((Aa).toNat * 8)) = some (.int .i64 ((rd_T24 l0 Aa).f0)) ∧ w'.cell? ⟨(Ab.add ((Aa).toNat * 8)).block, (Ab.add ((Aa).toNat * 8)).off + 1, none⟩ = some (.int .i64 ((rd_T24 l0 Aa).f1)) ∧ w'.cell? ⟨(Ab.add ((Aa).toNat * 8)).block, (Ab.add ((Aa).toNat * 8)).off + 2, none⟩ = some (.int .i64 ((rd_T24 l0 Aa).f2)) ∧ w'.cell? ⟨(Ab.add ((Aa).toNat * 8)).block, (Ab.add ((Aa).toNat * 8)).off + 3, none⟩ = some (.int .i64 ((rd_T24 l0 Aa).f3)) ∧ w'.cell? ⟨(Ab.add ((Aa).toNat * 8)).block, (Ab.add ((Aa).toNat * 8)).off + 4, none⟩ = some (.int .i64 ((rd_T24 l0 Aa).f4)) ∧ w'.cell? ⟨(Ab.add ((Aa).toNat * 8)).block, (Ab.add ((Aa).toNat * 8)).off + 5, none⟩ = some (.slice A188_5 ((rd_T24 l0 Aa).f5).length c188_5) ∧ w'.cell? ⟨(Ab.add ((Aa).toNat * 8)).block, (Ab.add ((Aa).toNat * 8)).off + 6, none⟩ = some (.int .i64 ((rd_T24 l0 Aa).f6)) ∧ w'.cell? ⟨(Ab.add ((Aa).toNat * 8)).block, (Ab.add ((Aa).toNat * 8)).off + 7, none⟩ = some (.bool ((rd_T24 l0 Aa).f7))) (ds := []) (bL 23 0) (by kernel_rfl) rfl rfl ⟨((HB.out.cell (World.block_lt_of_cell? w _ hw188_0)).trans hw188_0), ((HB.out.cell (World.block_lt_of_cell? w _ hw188_1)).trans hw188_1), ((HB.out.cell (World.block_lt_of_cell? w _ hw188_2)).trans hw188_2), ((HB.out.cell (World.block_lt_of_cell? w _ hw188_3)).trans hw188_3), ((HB.out.cell (World.block_lt_of_cell? w _ hw188_4)).trans hw188_4), ((HB.out.cell (World.block_lt_of_cell? w _ hw188_5)).trans hw188_5), ((HB.out.cell (World.block_lt_of_cell? w _ hw188_6)).trans hw188_6), ((HB.out.cell (World.block_lt_of_cell? w _ hw188_7)).trans hw188_7)⟩ (fun hHeld => ?_); refine with_tabW spec_StoreOk.tab6 spec_StoreOk.bits6 (fun HT_ HW_ => ?_)
      generalize wr.drew = w13 at HB Ak Ac Ad Ae Af Ag Ah Ai Aj hHeld ⊢
      refine pq_ 0 13 (bL 23 1) HT_.out rfl rfl ?_
      refine pq_ 1 14 (bL 23 3) HT_.out rfl rfl ?_
      refine pq_ 2 15 (bL 23 7) HT_.out rfl rfl ?_
      refine take_ (i := 3) (N := some 16) (v := ?_) (a' := ?_) (bL 23 15) rfl rfl (take_ofW HT_.out HW_.out (by kernel_rfl)) (fun _ _ _ h => h) (Or.inl ⟨by rfl, ?_⟩) hHeld ?_ ?_; rotate_left; (rintro w' ⟨s0, s1, s2, s3, s4, s5, s6, s7⟩; go_simp; with_reducible rfl); rotate_left; (exact put_q)
      refine one_ (i := 4) (N := some 17) (bL 23 31) rfl rfl (one_of HT_.out (by kernel_rfl)) (by decide) (fun K hK => ?_)
      refine goes_ Try.func26 (by kernel_rfl) rfl #[.agg #[.int .i64 ((rd_T24 l0 Aa).f0), .int .i64 ((rd_T24 l0 Aa).f1), .int .i64 ((rd_T24 l0 Aa).f2), .int .i64 ((rd_T24 l0 Aa).f3), .int .i64 ((rd_T24 l0 Aa).f4), .slice A188_5 ((rd_T24 l0 Aa).f5).length c188_5, .int .i64 ((rd_T24 l0 Aa).f6), .bool ((rd_T24 l0 Aa).f7)]] (by rfl) rfl rfl mp_q ?_
      with_reducible refine (spec_RecordOk.calls k1 ((rd_T24 l0 Aa).f0) ((rd_T24 l0 Aa).f1) ((rd_T24 l0 Aa).f2) ((rd_T24 l0 Aa).f3) ((rd_T24 l0 Aa).f4) _ _ ((rd_T24 l0 Aa).f5) ((rd_T24 l0 Aa).f6) ((rd_T24 l0 Aa).f7) Bb _ ?side1 ?side2 A5.out).mono ?_
      (case side1 => exact cs_q (Kd.C_below Ak.out HB.out))
      (case side2 => exact Au.out)
      rintro e w14 ⟨rfl, hb⟩
      refine ⟨_, rfl, ?_⟩
      replace HB := ak (below_step (bw_q HB) hb)
      refine hK.out _ _ ⟨((HB.out.cell (World.block_lt_of_cell? w _ hw188_0)).trans hw188_0), ((HB.out.cell (World.block_lt_of_cell? w _ hw188_1)).trans hw188_1), ((HB.out.cell (World.block_lt_of_cell? w _ hw188_2)).trans hw188_2), ((HB.out.cell (World.block_lt_of_cell? w _ hw188_3)).trans hw188_3), ((HB.out.cell (World.block_lt_of_cell? w _ hw188_4)).trans hw188_4), ((HB.out.cell (World.block_lt_of_cell? w _ hw188_5)).trans hw188_5), ((HB.out.cell (World.block_lt_of_cell? w _ hw188_6)).trans hw188_6), ((HB.out.cell (World.block_lt_of_cell? w _ hw188_7)).trans hw188_7)⟩ (fun hHeld => ?_)
      clear hK K
      refine norm_ (a' := ?_) ?_ ?_; rotate_left; (show Act.put _ (some 17) _ = _; simp only [Act.put, List.setIfInBounds_toArray, List.set_cons_zero, List.set_cons_succ, i64_w, i32_w]; rfl)
      refine pq_ 5 18 (bL 23 63) HT_.out rfl rfl ?_
      refine pq_ 6 19 (bL 23 127) HT_.out rfl rfl ?_
      have H := HZ22.out; clear HZ22
      by_cases c6 : Bb = true
      ·subst c6; rw [if_pos rfl] at H; have HZ23 := ak H; clear H
       refine pq_ 7 20 (bL 23 255) HT_.out rfl rfl ?_
       refine pq_ 8 21 (bL 23 511) HT_.out rfl rfl ?_
       refine pq_ 9 22 (bL 23 1023) HT_.out rfl rfl ?_
       have H := HZ23.out; clear HZ23
       by_cases c7 : Aa > 0
       ·rw [if_pos c7] at H
        have At : decide (0 < Aa) = true := decide_eq_true c7
        (first | rw [At] | (simp only [i64_w, i32_w]; first | rw [At]) | skip)
        clear c7; obtain ⟨ji8, hji8⟩ : ∃ j_ : Int, (wrap64 (Aa - 1)) = j_ := ⟨_, rfl⟩
        replace H : (if 0 ≤ (ji8) then (if (ji8) < (l0.length : Int) then ((spec_Before.f ((rd_T24 l0 (ji8)).f0) ((rd_T24 l0 (ji8)).f1) ((rd_T24 l0 (ji8)).f2) ((rd_T24 l0 (ji8)).f3) ((rd_T24 l0 (ji8)).f4) ((rd_T24 l0 (ji8)).f5) ((rd_T24 l0 (ji8)).f6) ((rd_T24 l0 (ji8)).f7) ((rd_T24 l0 Aa).f0) ((rd_T24 l0 Aa).f1) ((rd_T24 l0 Aa).f2) ((rd_T24 l0 Aa).f3) ((rd_T24 l0 Aa).f4) ((rd_T24 l0 Aa).f5) ((rd_T24 l0 Aa).f6) ((rd_T24 l0 Aa).f7)).bind fun Av => (if Av = true then (spec_StoreOk.l0 k1 l0 (wrap64 (Aa + 1))) else (some false))) else (none)) else (none)) = some r := by first | (rw [hji8] at H; exact H) | (simp only [hji8] at H ⊢; exact H)
        (try rw [hji8] at A5)
        have hji8w : (IntKind.i64.wrap (Aa - 1)) = ji8 := (i64_w _).trans hji8
        by_cases c9 : 0 ≤ (ji8)
        ·rw [if_pos c9] at H
         have Bg : decide (0 ≤ (ji8)) = true := decide_eq_true c9
         clear c9
         by_cases c10 : (ji8) < (l0.length : Int)
         ·rw [if_pos c10] at H
          have Be : decide ((ji8) < (l0.length : Int)) = true := decide_eq_true c10
          clear c10; replace H := bsi H; obtain ⟨Av, A110, H⟩ := H
          (try dsimp only at H)
          have A11 := ak A110; clear A110; have HZ24 := ak H; clear H
          have p190 : 0 ≤ ((ji8) : Int) := of_decide_eq_true as_q
          have q190 : (ji8) < (l0.length : Int) := of_decide_eq_true as_q
          obtain ⟨Bc, A190_5, c190_5, e190, Al, Am, An, Ao, Ap, Aq, Ar, As, hl190_5, hi190_5⟩ := at_T24 HR0.out (ji8) p190 q190; have hw190_7 := As; have hw190_6 := Ar; have hw190_5 := Aq; have hw190_4 := Ap; have hw190_3 := Ao; have hw190_2 := An; have hw190_1 := Am; have hw190_0 := Al
          obtain rfl : Ab = Bc := (by injection e190)
          replace Al := hbc HB Al; replace Am := hbc HB Am; replace An := hbc HB An; replace Ao := hbc HB Ao; replace Ap := hbc HB Ap; replace Aq := hbc HB Aq; replace Ar := hbc HB Ar; replace As := hbc HB As; have Ax := ak hi190_5; have Ay := ak hl190_5; clear hi190_5 hl190_5; replace p190 := eq_true p190; replace q190 := eq_true q190
          refine last_weaken (fun w' => w'.cell? (Ab.add ((Aa).toNat * 8)) = some (.int .i64 ((rd_T24 l0 Aa).f0)) ∧ w'.cell? ⟨(Ab.add ((Aa).toNat * 8)).block, (Ab.add ((Aa).toNat * 8)).off + 1, none⟩ = some (.int .i64 ((rd_T24 l0 Aa).f1)) ∧ w'.cell? ⟨(Ab.add ((Aa).toNat * 8)).block, (Ab.add ((Aa).toNat * 8)).off + 2, none⟩ = some (.int .i64 ((rd_T24 l0 Aa).f2)) ∧ w'.cell? ⟨(Ab.add ((Aa).toNat * 8)).block, (Ab.add ((Aa).toNat * 8)).off + 3, none⟩ = some (.int .i64 ((rd_T24 l0 Aa).f3)) ∧ w'.cell? ⟨(Ab.add ((Aa).toNat * 8)).block, (Ab.add ((Aa).toNat * 8)).off + 4, none⟩ = some (.int .i64 ((rd_T24 l0 Aa).f4)) ∧ w'.cell? ⟨(Ab.add ((Aa).toNat * 8)).block, (Ab.add ((Aa).toNat * 8)).off + 5, none⟩ = some (.slice A188_5 ((rd_T24 l0 Aa).f5).length c188_5) ∧ w'.cell? ⟨(Ab.add ((Aa).toNat * 8)).block, (Ab.add ((Aa).toNat * 8)).off + 6, none⟩ = some (.int .i64 ((rd_T24 l0 Aa).f6)) ∧ w'.cell? ⟨(Ab.add ((Aa).toNat * 8)).block, (Ab.add ((Aa).toNat * 8)).off + 7, none⟩ = some (.bool ((rd_T24 l0 Aa).f7)) ∧ w'.cell? (Ab.add (((ji8)).toNat * 8)) = some (.int .i64 ((rd_T24 l0 (ji8)).f0)) ∧ w'.cell? ⟨(Ab.add (((ji8)).toNat * 8)).block, (Ab.add (((ji8)).toNat * 8)).off + 1, none⟩ = some (.int .i64 ((rd_T24 l0 (ji8)).f1)) ∧ w'.cell? ⟨(Ab.add (((ji8)).toNat * 8)).block, (Ab.add (((ji8)).toNat * 8)).off + 2, none⟩ = some (.int .i64 ((rd_T24 l0 (ji8)).f2)) ∧ w'.cell? ⟨(Ab.add (((ji8)).toNat * 8)).block, (Ab.add (((ji8)).toNat * 8)).off + 3, none⟩ = some (.int .i64 ((rd_T24 l0 (ji8)).f3)) ∧ w'.cell? ⟨(Ab.add (((ji8)).toNat * 8)).block, (Ab.add (((ji8)).toNat * 8)).off + 4, none⟩ = some (.int .i64 ((rd_T24 l0 (ji8)).f4)) ∧ w'.cell? ⟨(Ab.add (((ji8)).toNat * 8)).block, (Ab.add (((ji8)).toNat * 8)).off + 5, none⟩ = some (.slice A190_5 ((rd_T24 l0 (ji8)).f5).length c190_5) ∧ w'.cell? ⟨(Ab.add (((ji8)).toNat * 8)).block, (Ab.add (((ji8)).toNat * 8)).off + 6, none⟩ = some (.int .i64 ((rd_T24 l0 (ji8)).f6)) ∧ w'.cell? ⟨(Ab.add (((ji8)).toNat * 8)).block, (Ab.add (((ji8)).toNat * 8)).off + 7, none⟩ = some (.bool ((rd_T24 l0 (ji8)).f7))) (fun w' h_ => ⟨h_.1, h_.2.1, h_.2.2.1, h_.2.2.2.1, h_.2.2.2.2.1, h_.2.2.2.2.2.1, h_.2.2.2.2.2.2.1, h_.2.2.2.2.2.2.2.1⟩) ⟨hHeld.1, hHeld.2.1, hHeld.2.2.1, hHeld.2.2.2.1, hHeld.2.2.2.2.1, hHeld.2.2.2.2.2.1, hHeld.2.2.2.2.2.2.1, hHeld.2.2.2.2.2.2.2, (by first | assumption | exact ((HB.out.cell (World.block_lt_of_cell? w _ hw190_0)).trans hw190_0)), (by first | assumption | exact ((HB.out.cell (World.block_lt_of_cell? w _ hw190_1)).trans hw190_1)), (by first | assumption | exact ((HB.out.cell (World.block_lt_of_cell? w _ hw190_2)).trans hw190_2)), (by first | assumption | exact ((HB.out.cell (World.block_lt_of_cell? w _ hw190_3)).trans hw190_3)), (by first | assumption | exact ((HB.out.cell (World.block_lt_of_cell? w _ hw190_4)).trans hw190_4)), (by first | assumption | exact ((HB.out.cell (World.block_lt_of_cell? w _ hw190_5)).trans hw190_5)), (by first | assumption | exact ((HB.out.cell (World.block_lt_of_cell? w _ hw190_6)).trans hw190_6)), (by first | assumption | exact ((HB.out.cell (World.block_lt_of_cell? w _ hw190_7)).trans hw190_7))⟩ (fun hHeld => ?_)
          refine pq_ 10 23 (bL 23 2047) HT_.out rfl rfl ?_
          refine pq_ 11 24 (bL 23 4095) HT_.out rfl rfl ?_
          refine pq_ 12 25 (bL 23 8191) HT_.out rfl rfl ?_
          refine pq_ 13 26 (bL 23 16383) HT_.out rfl rfl ?_
          refine pq_ 15 28 (bL 23 49151) HT_.out rfl rfl ?_
          refine pq_ 16 29 (bL 23 114687) HT_.out rfl rfl ?_
          refine pq_ 17 30 (bL 23 245759) HT_.out rfl rfl ?_
          refine take_ (i := 14) (N := some 27) (v := ?_) (a' := ?_) (bL 23 262143) rfl rfl (take_ofW HT_.out HW_.out (by kernel_rfl)) (fun _ _ _ h => h) (Or.inl ⟨by rfl, ?_⟩) hHeld ?_ ?_; rotate_left; (rintro w' ⟨s0, s1, s2, s3, s4, s5, s6, s7, s8, s9, s10, s11, s12, s13, s14, s15⟩; go_simp; with_reducible rfl); rotate_left; (exact put_q)
          refine take_ (i := 18) (N := some 31) (v := ?_) (a' := ?_) (bL 23 524287) rfl rfl (take_ofW HT_.out HW_.out (by kernel_rfl)) (fun _ _ _ h => h) (Or.inl ⟨by rfl, ?_⟩) hHeld ?_ ?_; rotate_left; (rintro w' ⟨s0, s1, s2, s3, s4, s5, s6, s7, s8, s9, s10, s11, s12, s13, s14, s15⟩; go_simp; with_reducible rfl); rotate_left; (exact put_q)
          refine one_ (i := 19) (N := some 32) (bL 23 1048575) rfl rfl (one_of HT_.out (by kernel_rfl)) (by decide) (fun K hK => ?_)
          refine goes_ Try.func92 (by kernel_rfl) rfl #[.agg #[.int .i64 ((rd_T24 l0 (ji8)).f0), .int .i64 ((rd_T24 l0 (ji8)).f1), .int .i64 ((rd_T24 l0 (ji8)).f2), .int .i64 ((rd_T24 l0 (ji8)).f3), .int .i64 ((rd_T24 l0 (ji8)).f4), .slice A190_5 ((rd_T24 l0 (ji8)).f5).length c190_5, .int .i64 ((rd_T24 l0 (ji8)).f6), .bool ((rd_T24 l0 (ji8)).f7)], .agg #[.int .i64 ((rd_T24 l0 Aa).f0), .int .i64 ((rd_T24 l0 Aa).f1), .int .i64 ((rd_T24 l0 Aa).f2), .int .i64 ((rd_T24 l0 Aa).f3), .int .i64 ((rd_T24 l0 Aa).f4), .slice A188_5 ((rd_T24 l0 Aa).f5).length c188_5, .int .i64 ((rd_T24 l0 Aa).f6), .bool ((rd_T24 l0 Aa).f7)]] (by rfl) rfl rfl (by (try simp only [List.map_toArray, List.map_cons, List.map_nil]); first | done | (simp only [hji8]; rfl) | rfl | (simp only [List.length_drop, List.length_take]; rfl)) ?_
          with_reducible refine (spec_Before.calls ((rd_T24 l0 (ji8)).f0) ((rd_T24 l0 (ji8)).f1) ((rd_T24 l0 (ji8)).f2) ((rd_T24 l0 (ji8)).f3) ((rd_T24 l0 (ji8)).f4) _ _ ((rd_T24 l0 (ji8)).f5) ((rd_T24 l0 (ji8)).f6) ((rd_T24 l0 (ji8)).f7) ((rd_T24 l0 Aa).f0) ((rd_T24 l0 Aa).f1) ((rd_T24 l0 Aa).f2) ((rd_T24 l0 Aa).f3) ((rd_T24 l0 Aa).f4) _ _ ((rd_T24 l0 Aa).f5) ((rd_T24 l0 Aa).f6) ((rd_T24 l0 Aa).f7) Av _ ?side1 ?side2 ?side3 ?side4 A11.out).mono ?_
          (case side1 => exact cs_q (Kd.C_below Ax.out HB.out))
          (case side2 => exact Ay.out)
          (case side3 => exact cs_q (Kd.C_below Ak.out HB.out))
          (case side4 => exact Au.out)
          rintro e w15 ⟨rfl, hb⟩
          refine ⟨_, rfl, ?_⟩
          replace HB := ak (below_step (bw_q HB) hb)
          refine hK.out _ _ ⟨((HB.out.cell (World.block_lt_of_cell? w _ hw188_0)).trans hw188_0), ((HB.out.cell (World.block_lt_of_cell? w _ hw188_1)).trans hw188_1), ((HB.out.cell (World.block_lt_of_cell? w _ hw188_2)).trans hw188_2), ((HB.out.cell (World.block_lt_of_cell? w _ hw188_3)).trans hw188_3), ((HB.out.cell (World.block_lt_of_cell? w _ hw188_4)).trans hw188_4), ((HB.out.cell (World.block_lt_of_cell? w _ hw188_5)).trans hw188_5), ((HB.out.cell (World.block_lt_of_cell? w _ hw188_6)).trans hw188_6), ((HB.out.cell (World.block_lt_of_cell? w _ hw188_7)).trans hw188_7), ((HB.out.cell (World.block_lt_of_cell? w _ hw190_0)).trans hw190_0), ((HB.out.cell (World.block_lt_of_cell? w _ hw190_1)).trans hw190_1), ((HB.out.cell (World.block_lt_of_cell? w _ hw190_2)).trans hw190_2), ((HB.out.cell (World.block_lt_of_cell? w _ hw190_3)).trans hw190_3), ((HB.out.cell (World.block_lt_of_cell? w _ hw190_4)).trans hw190_4), ((HB.out.cell (World.block_lt_of_cell? w _ hw190_5)).trans hw190_5), ((HB.out.cell (World.block_lt_of_cell? w _ hw190_6)).trans hw190_6), ((HB.out.cell (World.block_lt_of_cell? w _ hw190_7)).trans hw190_7)⟩ (fun hHeld => ?_)
          clear hK K
          refine norm_ (a' := ?_) ?_ ?_; rotate_left; (show Act.put _ (some 32) _ = _; simp only [Act.put, List.setIfInBounds_toArray, List.set_cons_zero, List.set_cons_succ, i64_w, i32_w]; rfl)
          refine pq_ 20 33 (bL 23 2097151) HT_.out rfl rfl ?_
          refine pq_ 21 34 (bL 23 4194303) HT_.out rfl rfl ?_
          refine pq_ 22 35 (bL 23 8388607) HT_.out rfl rfl ?_
          have H := HZ24.out; clear HZ24
          by_cases c12 : Av = true
          ·subst c12; rw [if_pos rfl] at H; have H' := ak H; clear H
           refine done_ (done_of HT_.out (by kernel_rfl)) ?_
           try go_wp2
           go_roundg k1
           case measure => have := Aw.out; omega
           case rel => exact ⟨(wrap64 (Aa + 1)), rs_q, H', ⟨by have := Aw.out; omega⟩, ⟨bw_q HB⟩⟩
          ·replace c12 := Bool.eq_false_iff.mpr c12; subst c12
           rw [if_neg (show ¬ (false = true) by decide)] at H
           obtain rfl := Option.some.inj H
           refine done_ (done_of HT_.out (by kernel_rfl)) ?_
           try go_wp2
           go_ret
           exact ⟨by first | rfl | (simp [errW_none, errW_some] <;> rfl) | (simp only [← hji8]; first | rfl | (simp [errW_none, errW_some] <;> rfl)) | (simp [*, errW_none, errW_some] <;> rfl), bw_q HB⟩
         ·rw [if_neg c10] at H
          exact absurd H (by simp)
        ·rw [if_neg c9] at H
         exact absurd H (by simp)
       ·rw [if_neg c7] at H
        have At : decide (0 < Aa) = false := decide_eq_false c7
        (first | rw [At] | (simp only [i64_w, i32_w]; first | rw [At]) | skip)
        clear c7; have H' := ak H; clear H
        refine pu_ 10 23 (bL 23 2047) HT_.out rfl rfl ?_
        refine pu_ 11 24 (bL 23 4095) HT_.out rfl rfl ?_
        refine pu_ 12 25 (bL 23 8191) HT_.out rfl rfl ?_
        refine pu_ 13 26 (bL 23 16383) HT_.out rfl rfl ?_
        refine pu_ 14 27 (bL 23 32767) HT_.out rfl rfl ?_
        refine pu_ 15 28 (bL 23 65535) HT_.out rfl rfl ?_
        refine pu_ 16 29 (bL 23 131071) HT_.out rfl rfl ?_
        refine pu_ 17 30 (bL 23 262143) HT_.out rfl rfl ?_
        refine pu_ 18 31 (bL 23 524287) HT_.out rfl rfl ?_
        refine pu_ 19 32 (bL 23 1048575) HT_.out rfl rfl ?_
        refine pu_ 20 33 (bL 23 2097151) HT_.out rfl rfl ?_
        refine pq_ 21 34 (bL 23 4194303) HT_.out rfl rfl ?_
        refine pq_ 22 35 (bL 23 8388607) HT_.out rfl rfl ?_
        refine done_ (done_of HT_.out (by kernel_rfl)) ?_
        try go_wp2
        go_roundg k1
        case measure => have := Aw.out; omega
        case rel => exact ⟨(wrap64 (Aa + 1)), rs_q, H', ⟨by have := Aw.out; omega⟩, ⟨bw_q HB⟩⟩
      ·replace c6 := Bool.eq_false_iff.mpr c6; subst c6
       rw [if_neg (show ¬ (false = true) by decide)] at H
       obtain rfl := Option.some.inj H
       refine pu_ 7 20 (bL 23 255) HT_.out rfl rfl ?_
       refine pu_ 8 21 (bL 23 511) HT_.out rfl rfl ?_
       refine pu_ 9 22 (bL 23 1023) HT_.out rfl rfl ?_
       refine pu_ 10 23 (bL 23 2047) HT_.out rfl rfl ?_
       refine pu_ 11 24 (bL 23 4095) HT_.out rfl rfl ?_
       refine pu_ 12 25 (bL 23 8191) HT_.out rfl rfl ?_
       refine pu_ 13 26 (bL 23 16383) HT_.out rfl rfl ?_
       refine pu_ 14 27 (bL 23 32767) HT_.out rfl rfl ?_
       refine pu_ 15 28 (bL 23 65535) HT_.out rfl rfl ?_
       refine pu_ 16 29 (bL 23 131071) HT_.out rfl rfl ?_
       refine pu_ 17 30 (bL 23 262143) HT_.out rfl rfl ?_
       refine pu_ 18 31 (bL 23 524287) HT_.out rfl rfl ?_
       refine pu_ 19 32 (bL 23 1048575) HT_.out rfl rfl ?_
       refine pu_ 20 33 (bL 23 2097151) HT_.out rfl rfl ?_
       refine pu_ 21 34 (bL 23 4194303) HT_.out rfl rfl ?_
       refine pq_ 22 35 (bL 23 8388607) HT_.out rfl rfl ?_
       refine done_ (done_of HT_.out (by kernel_rfl)) ?_
       try go_wp2
       go_ret
       exact ⟨er_q, bw_q HB⟩
     ·rw [if_neg c4] at H
      exact absurd H (by simp)
    ·rw [if_neg c3] at H
     have Bd : decide (Aa < (l0.length : Int)) = false := decide_eq_false c3
     clear c3; obtain rfl := Option.some.inj H
     go_wp2
     go_ret
     exact ⟨er_q, bw_q HB⟩

theorem eqA63 (d : Nat) (w : World) (x0 y0 : Int) (x1 y1 : Int) :
  (Op.equalIn (d + 2) 63 (.agg #[.int .i64 x0, .int .i64 x1]) (.agg #[.int .i64 y0, .int .i64 y1])).run Try.prog w = .ok (x0 == y0 && (x1 == y1)) w := by
 refine eqA_of Try.underlying63 (by kernel_rfl) ?_
 refine eqf_cons (by rfl) (by go_simp; rfl) (by go_simp; rfl) (by go_simp) ?_
 exact eqf_last (by rfl) (by go_simp; rfl) (by go_simp; rfl) (by go_simp)

/-! ### spec_SameKey: function 93 -/
def spec_SameKey.f (a : Int) (b : Int) (c : Int) (d : Int) (j : Int) (l : List (S63)) (m : Int) (n : Bool) (e : Int) (g : Int) (h : Int) (i : Int) (o : Int) (p : List (S63)) (q : Int) (s : Bool) : Option (Bool) := if a = e then (if b = g then (if c = h then (some (d == i)) else (some false)) else (some false)) else (some false)
set_option maxHeartbeats 8000000 in
set_option maxRecDepth 100000 in
theorem spec_SameKey.calls (Ac : Int) (Ad : Int) (Ae : Int) (Ai : Int) (Aj : Int) (Ak : Option Addr) (Al : Nat) (Af : List (S63)) (Am : Int) (An : Bool) (Ap : Int) (Aq : Int) (Ar : Int) (Au : Int) (Av : Int) (Aw : Option Addr) (Ax : Nat) (As : List (S63)) (Ay : Int) (Az : Bool) (r : Bool) (w : World) (hr0_5 : Kd.C k63 w Ak Af.length Af) (hc0_5 : Af.length ≤ Al) (hr1_5 : Kd.C k63 w Aw As.length As) (hc1_5 : As.length ≤ Ax) (h : spec_SameKey.f Ac Ad Ae Ai Aj Af Am An Ap Aq Ar Au Av As Ay Az = some r) :
  Calls Try.prog 93 #[.agg #[.int .i64 Ac, .int .i64 Ad, .int .i64 Ae, .int .i64 Ai, .int .i64 Aj, .slice Ak Af.length Al, .int .i64 Am, .bool An], .agg #[.int .i64 Ap, .int .i64 Aq, .int .i64 Ar, .int .i64 Au, .int .i64 Av, .slice Aw As.length Ax, .int .i64 Ay, .bool Az]] w fun e w' => e = .returned (.bool r) ∧ Below w.heap.size w w' := by
 have hu24 := Try.underlying24; have Gi := ak hr0_5; have Gj := ak hc0_5; clear hr0_5 hc0_5; have Gk := ak hr1_5; have Gl := ak hc1_5; clear hr1_5 hc1_5; have HB := ak (Below.refl w.heap.size w); have H := h
 clear h; unfold spec_SameKey.f at H
 by_cases c3 : Ac = Ap
 ·rw [if_pos c3] at H
  have Be : (Ac == Ap) = true := bqi c3
  have Bf : (Ac != Ap) = false := bnf c3
  clear c3
  by_cases c4 : Ad = Aq
  ·rw [if_pos c4] at H
   have Bg : (Ad == Aq) = true := bqi c4
   have Bh : (Ad != Aq) = false := bnf c4
   clear c4
   by_cases c5 : Ae = Ar
   ·rw [if_pos c5] at H
    have Bi : (Ae == Ar) = true := bqi c5
    have Bj : (Ae != Ar) = false := bnf c5
    clear c5; obtain rfl := Option.some.inj H
    go_enter Try.func93, Try.ntmps93
    go_wp2_with (first | ((with_reducible refine gate_dst (N := 2) rfl ?_); refine box_q 2 #[.int .i64 Ac, .int .i64 Ad, .int .i64 Ae, .int .i64 Ai, .int .i64 Aj, .slice Ak Af.length Al, .int .i64 Am, .bool An] 24 ?_; intro Aa hg w6 hbox hb; have Ab := ak (hbox); have Ba := gsz w (below_size (bw_q HB)) hg; have Bb := gsz w (below_size (bw_q HB)) hg; replace HB := ak (below_step (bw_q HB) hb); clear hb hbox hg) | ((with_reducible refine gate_dst (N := 3) rfl ?_); refine box_q 3 #[.int .i64 Ap, .int .i64 Aq, .int .i64 Ar, .int .i64 Au, .int .i64 Av, .slice Aw As.length Ax, .int .i64 Ay, .bool Az] 24 ?_; intro Ao hg w7 hbox hb; have At := ak (hbox); have Bc := gsz w (below_size (bw_q HB)) hg; have Bd := gsz w (below_size (bw_q HB)) hg; replace HB := ak (below_step (bw_q HB) hb); have Ag := ak ((by rw [hg]; exact Nat.ne_of_lt (blk_lt (g := Aa) (o := .cells #[.int .i64 Ac, .int .i64 Ad, .int .i64 Ae, .int .i64 Ai, .int .i64 Aj, .slice Ak Af.length Al, .int .i64 Am, .bool An] 24 (0, 0)) (bk_q Ab)) : Aa ≠ Ao)); have Ah := ak ((by rw [hg]; exact Nat.ne_of_gt (blk_lt (g := Aa) (o := .cells #[.int .i64 Ac, .int .i64 Ad, .int .i64 Ae, .int .i64 Ai, .int .i64 Aj, .slice Ak Af.length Al, .int .i64 Am, .bool An] 24 (0, 0)) (bk_q Ab)) : Ao ≠ Aa)); replace Ab := ak (blk_below (g := Aa) (bk_q Ab) hb); clear hb hbox hg; have Gs := Ag.out; have Gt := Ah.out; obtain ⟨Fs, Ft, Fu, Fv, Fw, Fx, Fy, Fz, Ga, Gb, Gc, Gd, Ge, Gf, Gg, Gh⟩ := cf8_ Ab; obtain ⟨Bk, Bl, Bm, Bn, Bo, Bp, Bq, Br, Bs, Bt, Bu, Bv, Bw, Bx, By, Bz⟩ := cf8_ At))
    go_ret
    exact ⟨er_q, bw_q HB⟩
   ·rw [if_neg c5] at H
    have Bi : (Ae == Ar) = false := bqf c5
    have Bj : (Ae != Ar) = true := bni c5
    obtain rfl := Option.some.inj H
    go_enter Try.func93, Try.ntmps93
    go_wp2_with (first | ((with_reducible refine gate_dst (N := 2) rfl ?_); refine box_q 2 #[.int .i64 Ac, .int .i64 Ad, .int .i64 Ae, .int .i64 Ai, .int .i64 Aj, .slice Ak Af.length Al, .int .i64 Am, .bool An] 24 ?_; intro Aa hg w11 hbox hb; have Ab := ak (hbox); have Ba := gsz w (below_size (bw_q HB)) hg; have Bb := gsz w (below_size (bw_q HB)) hg; replace HB := ak (below_step (bw_q HB) hb); clear hb hbox hg) | ((with_reducible refine gate_dst (N := 3) rfl ?_); refine box_q 3 #[.int .i64 Ap, .int .i64 Aq, .int .i64 Ar, .int .i64 Au, .int .i64 Av, .slice Aw As.length Ax, .int .i64 Ay, .bool Az] 24 ?_; intro Ao hg w12 hbox hb; have At := ak (hbox); have Bc := gsz w (below_size (bw_q HB)) hg; have Bd := gsz w (below_size (bw_q HB)) hg; replace HB := ak (below_step (bw_q HB) hb); have Ag := ak ((by rw [hg]; exact Nat.ne_of_lt (blk_lt (g := Aa) (o := .cells #[.int .i64 Ac, .int .i64 Ad, .int .i64 Ae, .int .i64 Ai, .int .i64 Aj, .slice Ak Af.length Al, .int .i64 Am, .bool An] 24 (0, 0)) (bk_q Ab)) : Aa ≠ Ao)); have Ah := ak ((by rw [hg]; exact Nat.ne_of_gt (blk_lt (g := Aa) (o := .cells #[.int .i64 Ac, .int .i64 Ad, .int .i64 Ae, .int .i64 Ai, .int .i64 Aj, .slice Ak Af.length Al, .int .i64 Am, .bool An] 24 (0, 0)) (bk_q Ab)) : Ao ≠ Aa)); replace Ab := ak (blk_below (g := Aa) (bk_q Ab) hb); clear hb hbox hg; have Gm := Ag.out; have Gn := Ah.out; obtain ⟨Ca, Cb, Cc, Cd, Ce, Cf, Cg, Ch, Ci, Cj, Ck, Cl, Cm, Cn, Co, Cp⟩ := cf8_ Ab; obtain ⟨Cq, Cr, Cs, Ct, Cu, Cv, Cw, Cx, Cy, Cz, Da, Db, Dc, Dd, De, Df⟩ := cf8_ At))
    go_ret
    exact ⟨er_q, bw_q HB⟩
  ·rw [if_neg c4] at H
   have Bg : (Ad == Aq) = false := bqf c4
   have Bh : (Ad != Aq) = true := bni c4
   obtain rfl := Option.some.inj H
   go_enter Try.func93, Try.ntmps93
   go_wp2_with (first | ((with_reducible refine gate_dst (N := 2) rfl ?_); refine box_q 2 #[.int .i64 Ac, .int .i64 Ad, .int .i64 Ae, .int .i64 Ai, .int .i64 Aj, .slice Ak Af.length Al, .int .i64 Am, .bool An] 24 ?_; intro Aa hg w16 hbox hb; have Ab := ak (hbox); have Ba := gsz w (below_size (bw_q HB)) hg; have Bb := gsz w (below_size (bw_q HB)) hg; replace HB := ak (below_step (bw_q HB) hb); clear hb hbox hg) | ((with_reducible refine gate_dst (N := 3) rfl ?_); refine box_q 3 #[.int .i64 Ap, .int .i64 Aq, .int .i64 Ar, .int .i64 Au, .int .i64 Av, .slice Aw As.length Ax, .int .i64 Ay, .bool Az] 24 ?_; intro Ao hg w17 hbox hb; have At := ak (hbox); have Bc := gsz w (below_size (bw_q HB)) hg; have Bd := gsz w (below_size (bw_q HB)) hg; replace HB := ak (below_step (bw_q HB) hb); have Ag := ak ((by rw [hg]; exact Nat.ne_of_lt (blk_lt (g := Aa) (o := .cells #[.int .i64 Ac, .int .i64 Ad, .int .i64 Ae, .int .i64 Ai, .int .i64 Aj, .slice Ak Af.length Al, .int .i64 Am, .bool An] 24 (0, 0)) (bk_q Ab)) : Aa ≠ Ao)); have Ah := ak ((by rw [hg]; exact Nat.ne_of_gt (blk_lt (g := Aa) (o := .cells #[.int .i64 Ac, .int .i64 Ad, .int .i64 Ae, .int .i64 Ai, .int .i64 Aj, .slice Ak Af.length Al, .int .i64 Am, .bool An] 24 (0, 0)) (bk_q Ab)) : Ao ≠ Aa)); replace Ab := ak (blk_below (g := Aa) (bk_q Ab) hb); clear hb hbox hg; have Go := Ag.out; have Gp := Ah.out; obtain ⟨Dg, Dh, Di, Dj, Dk, Dl, Dm, Dn, Do, Dp, Dq, Dr, Ds, Dt, Du, Dv⟩ := cf8_ Ab; obtain ⟨Dw, Dx, Dy, Dz, Ea, Eb, Ec, Ed, Ee, Ef, Eg, Eh, Ei, Ej, Ek, El⟩ := cf8_ At))
   go_ret
   exact ⟨er_q, bw_q HB⟩
 ·rw [if_neg c3] at H
  have Be : (Ac == Ap) = false := bqf c3
  have Bf : (Ac != Ap) = true := bni c3
  obtain rfl := Option.some.inj H
  go_enter Try.func93, Try.ntmps93
  go_wp2_with (first | ((with_reducible refine gate_dst (N := 2) rfl ?_); refine box_q 2 #[.int .i64 Ac, .int .i64 Ad, .int .i64 Ae, .int .i64 Ai, .int .i64 Aj, .slice Ak Af.length Al, .int .i64 Am, .bool An] 24 ?_; intro Aa hg w21 hbox hb; have Ab := ak (hbox); have Ba := gsz w (below_size (bw_q HB)) hg; have Bb := gsz w (below_size (bw_q HB)) hg; replace HB := ak (below_step (bw_q HB) hb); clear hb hbox hg) | ((with_reducible refine gate_dst (N := 3) rfl ?_); refine box_q 3 #[.int .i64 Ap, .int .i64 Aq, .int .i64 Ar, .int .i64 Au, .int .i64 Av, .slice Aw As.length Ax, .int .i64 Ay, .bool Az] 24 ?_; intro Ao hg w22 hbox hb; have At := ak (hbox); have Bc := gsz w (below_size (bw_q HB)) hg; have Bd := gsz w (below_size (bw_q HB)) hg; replace HB := ak (below_step (bw_q HB) hb); have Ag := ak ((by rw [hg]; exact Nat.ne_of_lt (blk_lt (g := Aa) (o := .cells #[.int .i64 Ac, .int .i64 Ad, .int .i64 Ae, .int .i64 Ai, .int .i64 Aj, .slice Ak Af.length Al, .int .i64 Am, .bool An] 24 (0, 0)) (bk_q Ab)) : Aa ≠ Ao)); have Ah := ak ((by rw [hg]; exact Nat.ne_of_gt (blk_lt (g := Aa) (o := .cells #[.int .i64 Ac, .int .i64 Ad, .int .i64 Ae, .int .i64 Ai, .int .i64 Aj, .slice Ak Af.length Al, .int .i64 Am, .bool An] 24 (0, 0)) (bk_q Ab)) : Ao ≠ Aa)); replace Ab := ak (blk_below (g := Aa) (bk_q Ab) hb); clear hb hbox hg; have Gq := Ag.out; have Gr := Ah.out; obtain ⟨Em, En, Eo, Ep, Eq, Er, Es, Et, Eu, Ev, Ew, Ex, Ey, Ez, Fa, Fb⟩ := cf8_ Ab; obtain ⟨Fc, Fd, Fe, Ff, Fg, Fh, Fi, Fj, Fk, Fl, Fm, Fn, Fo, Fp, Fq, Fr⟩ := cf8_ At))
  go_ret
  exact ⟨er_q, bw_q HB⟩

attribute [local go_sem high] eqA63
/-! ### spec_SameBody: function 73 -/
mutual
def spec_SameBody.j0 : Nat → Bool → Int → Int → Int → Int → Int → List (S63) → Int → Bool → Int → Int → Int → Int → Int → List (S63) → Int → Bool → Option (Bool)
 | 0, _, _, _, _, _, _, _, _, _, _, _, _, _, _, _, _, _ => none
 | k + 1, t, a, b, c, d, e, g, h, i, j, l, m, n, o, p, q, s => if t = true then (some false) else (spec_SameBody.l0 k 0 a b c d e g h i j l m n o p q s)
def spec_SameBody.l0 : Nat → Int → Int → Int → Int → Int → Int → List (S63) → Int → Bool → Int → Int → Int → Int → Int → List (S63) → Int → Bool → Option (Bool)
 | 0, _, _, _, _, _, _, _, _, _, _, _, _, _, _, _, _, _ => none
 | k + 1, c, d, e, g, h, i, a, j, l, m, n, o, p, q, b, s, t => if c < (a.length : Int) then (if 0 ≤ c then (if c < (b.length : Int) then (if (!(((rd_T63 a c).f0) == ((rd_T63 b c).f0)) || (!(((rd_T63 a c).f1) == ((rd_T63 b c).f1)))) = true then (some false) else (spec_SameBody.l0 k (wrap64 (c + 1)) d e g h i a j l m n o p q b s t)) else (none)) else (none)) else (some true)
end
def spec_SameBody.f (k : Nat) (i : Int) (j : Int) (l : Int) (m : Int) (n : Int) (b : List (S63)) (c : Int) (d : Bool) (o : Int) (p : Int) (q : Int) (s : Int) (t : Int) (e : List (S63)) (g : Int) (h : Bool) : Option (Bool) := (spec_SameKey.f i j l m n b c d o p q s t e g h).bind fun a => (if a = true then (if c = g then (if (d != h) = true then (spec_SameBody.j0 k true i j l m n b c d o p q s t e g h) else (spec_SameBody.j0 k ((b.length : Int) != (e.length : Int)) i j l m n b c d o p q s t e g h)) else (spec_SameBody.j0 k true i j l m n b c d o p q s t e g h)) else (spec_SameBody.j0 k true i j l m n b c d o p q s t e g h))
theorem spec_SameBody.mono_l : ∀ k, (∀ y0 y1 y2 y3 y4 y5 y6 y7 y8 y9 y10 y11 y12 y13 y14 y15 y16, LeO (spec_SameBody.j0 k y0 y1 y2 y3 y4 y5 y6 y7 y8 y9 y10 y11 y12 y13 y14 y15 y16) (spec_SameBody.j0 (k + 1) y0 y1 y2 y3 y4 y5 y6 y7 y8 y9 y10 y11 y12 y13 y14 y15 y16)) ∧ (∀ y0 y1 y2 y3 y4 y5 y6 y7 y8 y9 y10 y11 y12 y13 y14 y15 y16, LeO (spec_SameBody.l0 k y0 y1 y2 y3 y4 y5 y6 y7 y8 y9 y10 y11 y12 y13 y14 y15 y16) (spec_SameBody.l0 (k + 1) y0 y1 y2 y3 y4 y5 y6 y7 y8 y9 y10 y11 y12 y13 y14 y15 y16))
 | 0 => ⟨fun _ _ _ _ _ _ _ _ _ _ _ _ _ _ _ _ _ r h => by simp [spec_SameBody.j0] at h, fun _ _ _ _ _ _ _ _ _ _ _ _ _ _ _ _ _ r h => by simp [spec_SameBody.l0] at h⟩
 | k + 1 => by
  obtain ⟨ih0, ih1⟩ := spec_SameBody.mono_l k
  refine ⟨?_, ?_⟩
  ·intro y0 y1 y2 y3 y4 y5 y6 y7 y8 y9 y10 y11 y12 y13 y14 y15 y16
   unfold spec_SameBody.j0
   with_reducible repeat' (first | apply ih0 | apply ih1 | exact LeO.refl _ | exact LeO.none _ | refine LeO.ite ?_ ?_ | refine LeO.bind ?_ (fun _ => ?_))
  ·intro y0 y1 y2 y3 y4 y5 y6 y7 y8 y9 y10 y11 y12 y13 y14 y15 y16
   unfold spec_SameBody.l0
   with_reducible repeat' (first | apply ih0 | apply ih1 | exact LeO.refl _ | exact LeO.none _ | refine LeO.ite ?_ ?_ | refine LeO.bind ?_ (fun _ => ?_))
theorem spec_SameBody.mono : ∀ a0 a1 a2 a3 a4 a5 a6 a7 a8 a9 a10 a11 a12 a13 a14 a15 k, LeO (spec_SameBody.f k a0 a1 a2 a3 a4 a5 a6 a7 a8 a9 a10 a11 a12 a13 a14 a15) (spec_SameBody.f (k + 1) a0 a1 a2 a3 a4 a5 a6 a7 a8 a9 a10 a11 a12 a13 a14 a15) := by
 intro a0 a1 a2 a3 a4 a5 a6 a7 a8 a9 a10 a11 a12 a13 a14 a15 k
 obtain ⟨ih0, ih1⟩ := spec_SameBody.mono_l k
 unfold spec_SameBody.f
 with_reducible repeat' (first | apply ih0 | apply ih1 | exact LeO.refl _ | exact LeO.none _ | refine LeO.ite ?_ ?_ | refine LeO.bind ?_ (fun _ => ?_))
set_option maxHeartbeats 8000000 in
set_option maxRecDepth 100000 in
theorem spec_SameBody.calls (k : Nat) (Ak : Int) (Al : Int) (Am : Int) (An : Int) (Ao : Int) (Bb : Option Addr) (Bc : Nat) (Ac : List (S63)) (Ah : Int) (Ae : Bool) (As : Int) (At : Int) (Au : Int) (Av : Int) (Aw : Int) (Ez : Option Addr) (Fa : Nat) (Af : List (S63)) (Ap : Int) (Ai : Bool) (r : Bool) (w : World) (hr0_5 : Kd.C k63 w Bb Ac.length Ac) (hc0_5 : Ac.length ≤ Bc) (hr1_5 : Kd.C k63 w Ez Af.length Af) (hc1_5 : Af.length ≤ Fa) (h : spec_SameBody.f k Ak Al Am An Ao Ac Ah Ae As At Au Av Aw Af Ap Ai = some r) :
  Calls Try.prog 73 #[.agg #[.int .i64 Ak, .int .i64 Al, .int .i64 Am, .int .i64 An, .int .i64 Ao, .slice Bb Ac.length Bc, .int .i64 Ah, .bool Ae], .agg #[.int .i64 As, .int .i64 At, .int .i64 Au, .int .i64 Av, .int .i64 Aw, .slice Ez Af.length Fa, .int .i64 Ap, .bool Ai]] w fun e w' => e = .returned (.bool r) ∧ Below w.heap.size w w' := by
 have hu24 := Try.underlying24; have hu63 := Try.underlying63; have Ax := ak hr0_5; have Az := ak hc0_5; clear hr0_5 hc0_5; have Ay := ak hr1_5; have Ba := ak hc1_5; clear hr1_5 hc1_5; have HB := ak (Below.refl w.heap.size w); have H := h
 clear h; unfold spec_SameBody.f at H; have Kk := ak H; clear H
 go_enter Try.func73, Try.ntmps73
 go_upto_region 1 with (first | ((with_reducible refine gate_dst (N := 2) rfl ?_); (try (refine gate_guard (by rfl) ?_; dsimp only)); refine box_q 2 #[.int .i64 Ak, .int .i64 Al, .int .i64 Am, .int .i64 An, .int .i64 Ao, .slice Bb Ac.length Bc, .int .i64 Ah, .bool Ae] 24 ?_; intro Ad hg w4 hbox hb; have Aa := ak (hbox); have Kg := gsz w (below_size (bw_q HB)) hg; have Kh := gsz w (below_size (bw_q HB)) hg; replace HB := ak (below_step (bw_q HB) hb); clear hb hbox hg) | ((with_reducible refine gate_dst (N := 3) rfl ?_); (try (refine gate_guard (by rfl) ?_; dsimp only)); refine box_q 3 #[.int .i64 As, .int .i64 At, .int .i64 Au, .int .i64 Av, .int .i64 Aw, .slice Ez Af.length Fa, .int .i64 Ap, .bool Ai] 24 ?_; intro Aj hg w5 hbox hb; have Ab := ak (hbox); have Ki := gsz w (below_size (bw_q HB)) hg; have Kj := gsz w (below_size (bw_q HB)) hg; replace HB := ak (below_step (bw_q HB) hb); have Aq := ak ((by rw [hg]; exact Nat.ne_of_lt (blk_lt (g := Ad) (o := .cells #[.int .i64 Ak, .int .i64 Al, .int .i64 Am, .int .i64 An, .int .i64 Ao, .slice Bb Ac.length Bc, .int .i64 Ah, .bool Ae] 24 (0, 0)) (bk_q Aa)) : Ad ≠ Aj)); have Ar := ak ((by rw [hg]; exact Nat.ne_of_gt (blk_lt (g := Ad) (o := .cells #[.int .i64 Ak, .int .i64 Al, .int .i64 Am, .int .i64 An, .int .i64 Ao, .slice Bb Ac.length Bc, .int .i64 Ah, .bool Ae] 24 (0, 0)) (bk_q Aa)) : Aj ≠ Ad)); replace Aa := ak (blk_below (g := Ad) (bk_q Aa) hb); clear hb hbox hg))
 repeat (go_quiet (first | ((with_reducible refine gate_dst (N := 2) rfl ?_); (try (refine gate_guard (by rfl) ?_; dsimp only)); refine box_q 2 #[.int .i64 Ak, .int .i64 Al, .int .i64 Am, .int .i64 An, .int .i64 Ao, .slice Bb Ac.length Bc, .int .i64 Ah, .bool Ae] 24 ?_; intro Ad hg w4 hbox hb; have Aa := ak (hbox); have Kg := gsz w (below_size (bw_q HB)) hg; have Kh := gsz w (below_size (bw_q HB)) hg; replace HB := ak (below_step (bw_q HB) hb); clear hb hbox hg) | ((with_reducible refine gate_dst (N := 3) rfl ?_); (try (refine gate_guard (by rfl) ?_; dsimp only)); refine box_q 3 #[.int .i64 As, .int .i64 At, .int .i64 Au, .int .i64 Av, .int .i64 Aw, .slice Ez Af.length Fa, .int .i64 Ap, .bool Ai] 24 ?_; intro Aj hg w5 hbox hb; have Ab := ak (hbox); have Ki := gsz w (below_size (bw_q HB)) hg; have Kj := gsz w (below_size (bw_q HB)) hg; replace HB := ak (below_step (bw_q HB) hb); have Aq := ak ((by rw [hg]; exact Nat.ne_of_lt (blk_lt (g := Ad) (o := .cells #[.int .i64 Ak, .int .i64 Al, .int .i64 Am, .int .i64 An, .int .i64 Ao, .slice Bb Ac.length Bc, .int .i64 Ah, .bool Ae] 24 (0, 0)) (bk_q Aa)) : Ad ≠ Aj)); have Ar := ak ((by rw [hg]; exact Nat.ne_of_gt (blk_lt (g := Ad) (o := .cells #[.int .i64 Ak, .int .i64 Al, .int .i64 Am, .int .i64 An, .int .i64 Ao, .slice Bb Ac.length Bc, .int .i64 Ah, .bool Ae] 24 (0, 0)) (bk_q Aa)) : Aj ≠ Ad)); replace Aa := ak (blk_below (g := Ad) (bk_q Aa) hb); clear hb hbox hg)); go_upto_region 1 with (first | ((with_reducible refine gate_dst (N := 2) rfl ?_); (try (refine gate_guard (by rfl) ?_; dsimp only)); refine box_q 2 #[.int .i64 Ak, .int .i64 Al, .int .i64 Am, .int .i64 An, .int .i64 Ao, .slice Bb Ac.length Bc, .int .i64 Ah, .bool Ae] 24 ?_; intro Ad hg w4 hbox hb; have Aa := ak (hbox); have Kg := gsz w (below_size (bw_q HB)) hg; have Kh := gsz w (below_size (bw_q HB)) hg; replace HB := ak (below_step (bw_q HB) hb); clear hb hbox hg) | ((with_reducible refine gate_dst (N := 3) rfl ?_); (try (refine gate_guard (by rfl) ?_; dsimp only)); refine box_q 3 #[.int .i64 As, .int .i64 At, .int .i64 Au, .int .i64 Av, .int .i64 Aw, .slice Ez Af.length Fa, .int .i64 Ap, .bool Ai] 24 ?_; intro Aj hg w5 hbox hb; have Ab := ak (hbox); have Ki := gsz w (below_size (bw_q HB)) hg; have Kj := gsz w (below_size (bw_q HB)) hg; replace HB := ak (below_step (bw_q HB) hb); have Aq := ak ((by rw [hg]; exact Nat.ne_of_lt (blk_lt (g := Ad) (o := .cells #[.int .i64 Ak, .int .i64 Al, .int .i64 Am, .int .i64 An, .int .i64 Ao, .slice Bb Ac.length Bc, .int .i64 Ah, .bool Ae] 24 (0, 0)) (bk_q Aa)) : Ad ≠ Aj)); have Ar := ak ((by rw [hg]; exact Nat.ne_of_gt (blk_lt (g := Ad) (o := .cells #[.int .i64 Ak, .int .i64 Al, .int .i64 Am, .int .i64 An, .int .i64 Ao, .slice Bb Ac.length Bc, .int .i64 Ah, .bool Ae] 24 (0, 0)) (bk_q Aa)) : Aj ≠ Ad)); replace Aa := ak (blk_below (g := Ad) (bk_q Aa) hb); clear hb hbox hg)))
 (try simp only [Act.put, List.setIfInBounds_toArray, List.set_cons_zero, List.set_cons_succ])
 go_cut [32] (fun v32 wc => ∃ (kq : Nat) (Fd : Bool), v32 = .bool Fd ∧ Aside0 (spec_SameBody.j0 kq Fd Ak Al Am An Ao Ac Ah Ae As At Au Av Aw Af Ap Ai = some r) ∧ Aside0 (kq ≤ k) ∧ Aside0 (wc.heap[Ad]? = some (.cells #[.int .i64 Ak, .int .i64 Al, .int .i64 Am, .int .i64 An, .int .i64 Ao, (.slice Bb Ac.length Bc), .int .i64 Ah, .bool Ae] 24 (0, 0))) ∧ Aside0 (wc.heap[Aj]? = some (.cells #[.int .i64 As, .int .i64 At, .int .i64 Au, .int .i64 Av, .int .i64 Aw, (.slice Ez Af.length Fa), .int .i64 Ap, .bool Ai] 24 (0, 0))) ∧ Aside0 (Below w.heap.size w wc))
 case first =>
  have H := Kk.out; clear Kk; replace H := bsi H; obtain ⟨Kq, A60, H⟩ := H
  (try dsimp only at H)
  have A6 := ak A60; clear A60
  by_cases c7 : Kq = true
  ·subst c7; rw [if_pos rfl] at H
   by_cases c8 : Ah = Ap
   ·rw [if_pos c8] at H
    have Fb : (Ah == Ap) = true := bqi c8
    have Fc : (Ah != Ap) = false := bnf c8
    clear c8
    (first | rw [Fb] | rw [Fc] | (simp only [i64_w, i32_w]; first | rw [Fb] | rw [Fc]) | skip)
    by_cases c9 : (Ae != Ai) = true
    ·rw [if_pos c9] at H
     have Kc : (Ae != Ai) = true := c9
     (try (have Ke : decide (Ae = Ai) = false := by simpa using c9))
     (try (have Kf : (Ae == Ai) = false := by simpa using c9))
     (try (have Oj : ¬ (Ae = Ai) := by simpa using c9))
     clear c9; have H' := ak H; clear H; have Nt := Aq.out; have Nu := Ar.out; obtain ⟨Fe, Ff, Fg, Fh, Fi, Fj, Fk, Fl, Fm, Fn, Fo, Fp, Fq, Fr, Fs, Ft⟩ := cf8_ Aa; obtain ⟨Fu, Fv, Fw, Fx, Fy, Fz, Ga, Gb, Gc, Gd, Ge, Gf, Gg, Gh, Gi, Gj⟩ := cf8_ Ab
     go_wp2_with (first | (go_at_call 93; (with_reducible refine (spec_SameKey.calls Ak Al Am An Ao _ _ Ac Ah Ae As At Au Av Aw _ _ Af Ap Ai true _ ?side1 ?side2 ?side3 ?side4 A6.out).mono ?_); (case side1 => exact cs_q (Kd.C_below Ax.out HB.out)); (case side2 => exact Az.out); (case side3 => exact cs_q (Kd.C_below Ay.out HB.out)); (case side4 => exact Ba.out); rintro e w13 ⟨rfl, hb⟩; replace Aa := ak (blk_below (g := Ad) (bk_q Aa) hb); replace Ab := ak (blk_below (g := Aj) (bk_q Ab) hb); replace HB := ak (below_step (bw_q HB) hb); obtain ⟨Bh, Bi, Bj, Bk, Bl, Bm, Bn, Bo, Bp, Bq, Br, Bs, Bt, Bu, Bv, Bw⟩ := cf8_ Aa; obtain ⟨Bx, By, Bz, Ca, Cb, Cc, Cd, Ce, Cf, Cg, Ch, Ci, Cj, Ck, Cl, Cm⟩ := cf8_ Ab))
     repeat (go_quiet (first | (go_at_call 93; (with_reducible refine (spec_SameKey.calls Ak Al Am An Ao _ _ Ac Ah Ae As At Au Av Aw _ _ Af Ap Ai true _ ?side1 ?side2 ?side3 ?side4 A6.out).mono ?_); (case side1 => exact cs_q (Kd.C_below Ax.out HB.out)); (case side2 => exact Az.out); (case side3 => exact cs_q (Kd.C_below Ay.out HB.out)); (case side4 => exact Ba.out); rintro e w13 ⟨rfl, hb⟩; replace Aa := ak (blk_below (g := Ad) (bk_q Aa) hb); replace Ab := ak (blk_below (g := Aj) (bk_q Ab) hb); replace HB := ak (below_step (bw_q HB) hb); obtain ⟨Bh, Bi, Bj, Bk, Bl, Bm, Bn, Bo, Bp, Bq, Br, Bs, Bt, Bu, Bv, Bw⟩ := cf8_ Aa; obtain ⟨Bx, By, Bz, Ca, Cb, Cc, Cd, Ce, Cf, Cg, Ch, Ci, Cj, Ck, Cl, Cm⟩ := cf8_ Ab)); try go_wp2_with (first | (go_at_call 93; (with_reducible refine (spec_SameKey.calls Ak Al Am An Ao _ _ Ac Ah Ae As At Au Av Aw _ _ Af Ap Ai true _ ?side1 ?side2 ?side3 ?side4 A6.out).mono ?_); (case side1 => exact cs_q (Kd.C_below Ax.out HB.out)); (case side2 => exact Az.out); (case side3 => exact cs_q (Kd.C_below Ay.out HB.out)); (case side4 => exact Ba.out); rintro e w13 ⟨rfl, hb⟩; replace Aa := ak (blk_below (g := Ad) (bk_q Aa) hb); replace Ab := ak (blk_below (g := Aj) (bk_q Ab) hb); replace HB := ak (below_step (bw_q HB) hb); obtain ⟨Bh, Bi, Bj, Bk, Bl, Bm, Bn, Bo, Bp, Bq, Br, Bs, Bt, Bu, Bv, Bw⟩ := cf8_ Aa; obtain ⟨Bx, By, Bz, Ca, Cb, Cc, Cd, Ce, Cf, Cg, Ch, Ci, Cj, Ck, Cl, Cm⟩ := cf8_ Ab)))
     go_meet
     case rel => exact ⟨_, (true), rs_q, H', ⟨by first | omega | exact Nat.le_refl _⟩, ⟨bk_q Aa⟩, ⟨bk_q Ab⟩, ⟨bw_q HB⟩⟩
    ·rw [if_neg c9] at H
     have Kc : (Ae != Ai) = false := by simpa using c9
     (try (have Ke : decide (Ae = Ai) = true := by simpa using c9))
     (try (have Kf : (Ae == Ai) = true := by simpa using c9))
     clear c9; have H' := ak H; clear H; have Nv := Aq.out; have Nw := Ar.out; obtain ⟨Gk, Gl, Gm, Gn, Go, Gp, Gq, Gr, Gs, Gt, Gu, Gv, Gw, Gx, Gy, Gz⟩ := cf8_ Aa; obtain ⟨Ha, Hb, Hc, Hd, He, Hf, Hg, Hh, Hi, Hj, Hk, Hl, Hm, Hn, Ho, Hp⟩ := cf8_ Ab
     go_wp2_with (first | (go_at_call 93; (with_reducible refine (spec_SameKey.calls Ak Al Am An Ao _ _ Ac Ah Ae As At Au Av Aw _ _ Af Ap Ai true _ ?side1 ?side2 ?side3 ?side4 A6.out).mono ?_); (case side1 => exact cs_q (Kd.C_below Ax.out HB.out)); (case side2 => exact Az.out); (case side3 => exact cs_q (Kd.C_below Ay.out HB.out)); (case side4 => exact Ba.out); rintro e w19 ⟨rfl, hb⟩; replace Aa := ak (blk_below (g := Ad) (bk_q Aa) hb); replace Ab := ak (blk_below (g := Aj) (bk_q Ab) hb); replace HB := ak (below_step (bw_q HB) hb); obtain ⟨Cn, Co, Cp, Cq, Cr, Cs, Ct, Cu, Cv, Cw, Cx, Cy, Cz, Da, Db, Dc⟩ := cf8_ Aa; obtain ⟨Dd, De, Df, Dg, Dh, Di, Dj, Dk, Dl, Dm, Dn, Do, Dp, Dq, Dr, Ds⟩ := cf8_ Ab))
     repeat (go_quiet (first | (go_at_call 93; (with_reducible refine (spec_SameKey.calls Ak Al Am An Ao _ _ Ac Ah Ae As At Au Av Aw _ _ Af Ap Ai true _ ?side1 ?side2 ?side3 ?side4 A6.out).mono ?_); (case side1 => exact cs_q (Kd.C_below Ax.out HB.out)); (case side2 => exact Az.out); (case side3 => exact cs_q (Kd.C_below Ay.out HB.out)); (case side4 => exact Ba.out); rintro e w19 ⟨rfl, hb⟩; replace Aa := ak (blk_below (g := Ad) (bk_q Aa) hb); replace Ab := ak (blk_below (g := Aj) (bk_q Ab) hb); replace HB := ak (below_step (bw_q HB) hb); obtain ⟨Cn, Co, Cp, Cq, Cr, Cs, Ct, Cu, Cv, Cw, Cx, Cy, Cz, Da, Db, Dc⟩ := cf8_ Aa; obtain ⟨Dd, De, Df, Dg, Dh, Di, Dj, Dk, Dl, Dm, Dn, Do, Dp, Dq, Dr, Ds⟩ := cf8_ Ab)); try go_wp2_with (first | (go_at_call 93; (with_reducible refine (spec_SameKey.calls Ak Al Am An Ao _ _ Ac Ah Ae As At Au Av Aw _ _ Af Ap Ai true _ ?side1 ?side2 ?side3 ?side4 A6.out).mono ?_); (case side1 => exact cs_q (Kd.C_below Ax.out HB.out)); (case side2 => exact Az.out); (case side3 => exact cs_q (Kd.C_below Ay.out HB.out)); (case side4 => exact Ba.out); rintro e w19 ⟨rfl, hb⟩; replace Aa := ak (blk_below (g := Ad) (bk_q Aa) hb); replace Ab := ak (blk_below (g := Aj) (bk_q Ab) hb); replace HB := ak (below_step (bw_q HB) hb); obtain ⟨Cn, Co, Cp, Cq, Cr, Cs, Ct, Cu, Cv, Cw, Cx, Cy, Cz, Da, Db, Dc⟩ := cf8_ Aa; obtain ⟨Dd, De, Df, Dg, Dh, Di, Dj, Dk, Dl, Dm, Dn, Do, Dp, Dq, Dr, Ds⟩ := cf8_ Ab)))
     go_meet
     case rel => exact ⟨_, (((Ac.length : Int) != (Af.length : Int))), rs_q, H', ⟨by first | omega | exact Nat.le_refl _⟩, ⟨bk_q Aa⟩, ⟨bk_q Ab⟩, ⟨bw_q HB⟩⟩
   ·rw [if_neg c8] at H
    have Fb : (Ah == Ap) = false := bqf c8
    have Fc : (Ah != Ap) = true := bni c8
    (first | rw [Fb] | rw [Fc] | (simp only [i64_w, i32_w]; first | rw [Fb] | rw [Fc]) | skip)
    have H' := ak H; clear H; have Nx := Aq.out; have Ny := Ar.out; obtain ⟨Hq, Hr, Hs, Ht, Hu, Hv, Hw, Hx, Hy, Hz, Ia, Ib, Ic, Id, Ie, If⟩ := cf8_ Aa; obtain ⟨Ig, Ih, Ii, Ij, Ik, Il, Im, In, Io, Ip, Iq, Ir, Is, It, Iu, Iv⟩ := cf8_ Ab
    go_wp2_with (first | (go_at_call 93; (with_reducible refine (spec_SameKey.calls Ak Al Am An Ao _ _ Ac Ah Ae As At Au Av Aw _ _ Af Ap Ai true _ ?side1 ?side2 ?side3 ?side4 A6.out).mono ?_); (case side1 => exact cs_q (Kd.C_below Ax.out HB.out)); (case side2 => exact Az.out); (case side3 => exact cs_q (Kd.C_below Ay.out HB.out)); (case side4 => exact Ba.out); rintro e w25 ⟨rfl, hb⟩; replace Aa := ak (blk_below (g := Ad) (bk_q Aa) hb); replace Ab := ak (blk_below (g := Aj) (bk_q Ab) hb); replace HB := ak (below_step (bw_q HB) hb); obtain ⟨Dt, Du, Dv, Dw, Dx, Dy, Dz, Ea, Eb, Ec, Ed, Ee, Ef, Eg, Eh, Ei⟩ := cf8_ Aa; obtain ⟨Ej, Ek, El, Em, En, Eo, Ep, Eq, Er, Es, Et, Eu, Ev, Ew, Ex, Ey⟩ := cf8_ Ab))
    repeat (go_quiet (first | (go_at_call 93; (with_reducible refine (spec_SameKey.calls Ak Al Am An Ao _ _ Ac Ah Ae As At Au Av Aw _ _ Af Ap Ai true _ ?side1 ?side2 ?side3 ?side4 A6.out).mono ?_); (case side1 => exact cs_q (Kd.C_below Ax.out HB.out)); (case side2 => exact Az.out); (case side3 => exact cs_q (Kd.C_below Ay.out HB.out)); (case side4 => exact Ba.out); rintro e w25 ⟨rfl, hb⟩; replace Aa := ak (blk_below (g := Ad) (bk_q Aa) hb); replace Ab := ak (blk_below (g := Aj) (bk_q Ab) hb); replace HB := ak (below_step (bw_q HB) hb); obtain ⟨Dt, Du, Dv, Dw, Dx, Dy, Dz, Ea, Eb, Ec, Ed, Ee, Ef, Eg, Eh, Ei⟩ := cf8_ Aa; obtain ⟨Ej, Ek, El, Em, En, Eo, Ep, Eq, Er, Es, Et, Eu, Ev, Ew, Ex, Ey⟩ := cf8_ Ab)); try go_wp2_with (first | (go_at_call 93; (with_reducible refine (spec_SameKey.calls Ak Al Am An Ao _ _ Ac Ah Ae As At Au Av Aw _ _ Af Ap Ai true _ ?side1 ?side2 ?side3 ?side4 A6.out).mono ?_); (case side1 => exact cs_q (Kd.C_below Ax.out HB.out)); (case side2 => exact Az.out); (case side3 => exact cs_q (Kd.C_below Ay.out HB.out)); (case side4 => exact Ba.out); rintro e w25 ⟨rfl, hb⟩; replace Aa := ak (blk_below (g := Ad) (bk_q Aa) hb); replace Ab := ak (blk_below (g := Aj) (bk_q Ab) hb); replace HB := ak (below_step (bw_q HB) hb); obtain ⟨Dt, Du, Dv, Dw, Dx, Dy, Dz, Ea, Eb, Ec, Ed, Ee, Ef, Eg, Eh, Ei⟩ := cf8_ Aa; obtain ⟨Ej, Ek, El, Em, En, Eo, Ep, Eq, Er, Es, Et, Eu, Ev, Ew, Ex, Ey⟩ := cf8_ Ab)))
    go_meet
    case rel => exact ⟨_, (true), rs_q, H', ⟨by first | omega | exact Nat.le_refl _⟩, ⟨bk_q Aa⟩, ⟨bk_q Ab⟩, ⟨bw_q HB⟩⟩
  ·replace c7 := Bool.eq_false_iff.mpr c7; subst c7
   rw [if_neg (show ¬ (false = true) by decide)] at H
   have H' := ak H; clear H; have Nz := Aq.out; have Oa := Ar.out; obtain ⟨Iw, Ix, Iy, Iz, Ja, Jb, Jc, Jd, Je, Jf, Jg, Jh, Ji, Jj, Jk, Jl⟩ := cf8_ Aa; obtain ⟨Jm, Jn, Jo, Jp, Jq, Jr, Js, Jt, Ju, Jv, Jw, Jx, Jy, Jz, Ka, Kb⟩ := cf8_ Ab
   go_wp2_with (first | (go_at_call 93; (with_reducible refine (spec_SameKey.calls Ak Al Am An Ao _ _ Ac Ah Ae As At Au Av Aw _ _ Af Ap Ai false _ ?side1 ?side2 ?side3 ?side4 A6.out).mono ?_); (case side1 => exact cs_q (Kd.C_below Ax.out HB.out)); (case side2 => exact Az.out); (case side3 => exact cs_q (Kd.C_below Ay.out HB.out)); (case side4 => exact Ba.out); rintro e w31 ⟨rfl, hb⟩; replace Aa := ak (blk_below (g := Ad) (bk_q Aa) hb); replace Ab := ak (blk_below (g := Aj) (bk_q Ab) hb); replace HB := ak (below_step (bw_q HB) hb)))
   repeat (go_quiet (first | (go_at_call 93; (with_reducible refine (spec_SameKey.calls Ak Al Am An Ao _ _ Ac Ah Ae As At Au Av Aw _ _ Af Ap Ai false _ ?side1 ?side2 ?side3 ?side4 A6.out).mono ?_); (case side1 => exact cs_q (Kd.C_below Ax.out HB.out)); (case side2 => exact Az.out); (case side3 => exact cs_q (Kd.C_below Ay.out HB.out)); (case side4 => exact Ba.out); rintro e w31 ⟨rfl, hb⟩; replace Aa := ak (blk_below (g := Ad) (bk_q Aa) hb); replace Ab := ak (blk_below (g := Aj) (bk_q Ab) hb); replace HB := ak (below_step (bw_q HB) hb))); try go_wp2_with (first | (go_at_call 93; (with_reducible refine (spec_SameKey.calls Ak Al Am An Ao _ _ Ac Ah Ae As At Au Av Aw _ _ Af Ap Ai false _ ?side1 ?side2 ?side3 ?side4 A6.out).mono ?_); (case side1 => exact cs_q (Kd.C_below Ax.out HB.out)); (case side2 => exact Az.out); (case side3 => exact cs_q (Kd.C_below Ay.out HB.out)); (case side4 => exact Ba.out); rintro e w31 ⟨rfl, hb⟩; replace Aa := ak (blk_below (g := Ad) (bk_q Aa) hb); replace Ab := ak (blk_below (g := Aj) (bk_q Ab) hb); replace HB := ak (below_step (bw_q HB) hb))))
   go_meet
   case rel => exact ⟨_, (true), rs_q, H', ⟨by first | omega | exact Nat.le_refl _⟩, ⟨bk_q Aa⟩, ⟨bk_q Ab⟩, ⟨bw_q HB⟩⟩
 case rest =>
  clear Kk; (try clear c1); (try clear c2); (try clear p2); (try clear c7); (try clear c8); (try clear Fb); (try clear Fc); (try clear c9); (try clear Kc); (try clear Ke); (try clear Kf); (try clear c10); (try clear c16); (try clear c22); (try clear c28)
  try clear Fe Ff Fg Fh Fi Fj Fk Fl
  try clear Fu Fv Fw Fx Fy Fz Ga Gb
  try clear Bh Bi Bj Bk Bl Bm Bn Bo
  try clear Bx By Bz Ca Cb Cc Cd Ce
  try clear Gk Gl Gm Gn Go Gp Gq Gr
  try clear Ha Hb Hc Hd He Hf Hg Hh
  try clear Cn Co Cp Cq Cr Cs Ct Cu
  try clear Dd De Df Dg Dh Di Dj Dk
  try clear Hq Hr Hs Ht Hu Hv Hw Hx
  try clear Ig Ih Ii Ij Ik Il Im In
  try clear Dt Du Dv Dw Dx Dy Dz Ea
  try clear Ej Ek El Em En Eo Ep Eq
  try clear Iw Ix Iy Iz Ja Jb Jc Jd
  try clear Jm Jn Jo Jp Jq Jr Js Jt
  try clear Fm Fn Fo Fp Fq Fr Fs Ft
  try clear Gc Gd Ge Gf Gg Gh Gi Gj
  try clear Bp Bq Br Bs Bt Bu Bv Bw
  try clear Cf Cg Ch Ci Cj Ck Cl Cm
  try clear Gs Gt Gu Gv Gw Gx Gy Gz
  try clear Hi Hj Hk Hl Hm Hn Ho Hp
  try clear Cv Cw Cx Cy Cz Da Db Dc
  try clear Dl Dm Dn Do Dp Dq Dr Ds
  try clear Hy Hz Ia Ib Ic Id Ie If
  try clear Io Ip Iq Ir Is It Iu Iv
  try clear Eb Ec Ed Ee Ef Eg Eh Ei
  try clear Er Es Et Eu Ev Ew Ex Ey
  try clear Je Jf Jg Jh Ji Jj Jk Jl
  try clear Ju Jv Jw Jx Jy Jz Ka Kb
  obtain ⟨kq, Fd, rfl, HA, HJ2, Aa, Ab, HB⟩ := hcut
  cases kq with
  | zero => exact absurd HA.out (by simp [spec_SameBody.j0])
  | succ kj2 =>
   have H := HA.out; clear HA
   simp only [spec_SameBody.j0] at H
   by_cases c32 : Fd = true
   ·subst c32; rw [if_pos rfl] at H; obtain rfl := Option.some.inj H
    go_wp2
    repeat (go_quiet (fail); try go_wp2)
    go_ret
    exact ⟨er_q, bw_q HB⟩
   ·replace c32 := Bool.eq_false_iff.mpr c32; subst c32
    rw [if_neg (show ¬ (false = true) by decide)] at H
    have H' := ak H; clear H
    go_wp2
    repeat (go_quiet (fail); try go_wp2)
    go_loopg [5] kj2 (fun kq v5 w' => ∃ (Ag : Int), v5 = .int .i64 Ag ∧ Aside0 (spec_SameBody.l0 kq Ag Ak Al Am An Ao Ac Ah Ae As At Au Av Aw Af Ap Ai = some r) ∧ Aside0 (kq ≤ kj2) ∧ Aside0 (w'.heap[Ad]? = some (.cells #[.int .i64 Ak, .int .i64 Al, .int .i64 Am, .int .i64 An, .int .i64 Ao, (.slice Bb Ac.length Bc), .int .i64 Ah, .bool Ae] 24 (0, 0))) ∧ Aside0 (w'.heap[Aj]? = some (.cells #[.int .i64 As, .int .i64 At, .int .i64 Au, .int .i64 Av, .int .i64 Aw, (.slice Ez Af.length Fa), .int .i64 Ap, .bool Ai] 24 (0, 0))) ∧ Aside0 (Below w.heap.size w w'))
    case atStart => exact ⟨(0), rs_q, H', ⟨Nat.le_refl _⟩, ⟨bk_q Aa⟩, ⟨bk_q Ab⟩, ⟨bw_q HB⟩⟩
    case round =>
     clear H'; (try clear c1); (try clear c2); (try clear p2); (try clear c3); (try clear c7); (try clear c8); (try clear Fb); (try clear Fc); (try clear c9); (try clear Kc); (try clear Ke); (try clear Kf); (try clear c10); (try clear c16); (try clear c22); (try clear c28); (try clear c32)
     try clear Fe Ff Fg Fh Fi Fj Fk Fl
     try clear Fu Fv Fw Fx Fy Fz Ga Gb
     try clear Bh Bi Bj Bk Bl Bm Bn Bo
     try clear Bx By Bz Ca Cb Cc Cd Ce
     try clear Gk Gl Gm Gn Go Gp Gq Gr
     try clear Ha Hb Hc Hd He Hf Hg Hh
     try clear Cn Co Cp Cq Cr Cs Ct Cu
     try clear Dd De Df Dg Dh Di Dj Dk
     try clear Hq Hr Hs Ht Hu Hv Hw Hx
     try clear Ig Ih Ii Ij Ik Il Im In
     try clear Dt Du Dv Dw Dx Dy Dz Ea
     try clear Ej Ek El Em En Eo Ep Eq
     try clear Iw Ix Iy Iz Ja Jb Jc Jd
     try clear Jm Jn Jo Jp Jq Jr Js Jt
     try clear Fm Fn Fo Fp Fq Fr Fs Ft
     try clear Gc Gd Ge Gf Gg Gh Gi Gj
     try clear Bp Bq Br Bs Bt Bu Bv Bw
     try clear Cf Cg Ch Ci Cj Ck Cl Cm
     try clear Gs Gt Gu Gv Gw Gx Gy Gz
     try clear Hi Hj Hk Hl Hm Hn Ho Hp
     try clear Cv Cw Cx Cy Cz Da Db Dc
     try clear Dl Dm Dn Do Dp Dq Dr Ds
     try clear Hy Hz Ia Ib Ic Id Ie If
     try clear Io Ip Iq Ir Is It Iu Iv
     try clear Eb Ec Ed Ee Ef Eg Eh Ei
     try clear Er Es Et Eu Ev Ew Ex Ey
     try clear Je Jf Jg Jh Ji Jj Jk Jl
     try clear Ju Jv Jw Jx Jy Jz Ka Kb
     (try clear p2); obtain ⟨Ag, rfl, HA, Kp, Aa, Ab, HB⟩ := hrel
     cases gk with
     | zero => exact absurd HA.out (by simp [spec_SameBody.l0])
     | succ k2 =>
      have H := HA.out; clear HA
      simp only [spec_SameBody.l0] at H
      by_cases c33 : Ag < (Ac.length : Int)
      ·rw [if_pos c33] at H
       have Kl : decide (Ag < (Ac.length : Int)) = true := decide_eq_true c33
       clear c33
       by_cases c34 : 0 ≤ Ag
       ·rw [if_pos c34] at H
        have Ob : decide (0 ≤ Ag) = true := decide_eq_true c34
        clear c34
        by_cases c35 : Ag < (Af.length : Int)
        ·rw [if_pos c35] at H
         have Oc : decide (Ag < (Af.length : Int)) = true := decide_eq_true c35
         clear c35
         by_cases c36 : (!(((rd_T63 Ac Ag).f0) == ((rd_T63 Af Ag).f0)) || (!(((rd_T63 Ac Ag).f1) == ((rd_T63 Af Ag).f1)))) = true
         ·rw [if_pos c36] at H
          have Km : (!(((rd_T63 Ac Ag).f0) == ((rd_T63 Af Ag).f0)) || (!(((rd_T63 Ac Ag).f1) == ((rd_T63 Af Ag).f1)))) = true := c36
          clear c36; obtain rfl := Option.some.inj H; have Od := Aq.out; have Oe := Ar.out; obtain ⟨Kr, Ks, Kt, Ku, Kv, Kw, Kx, Ky, Kz, La, Lb, Lc, Ld, Le, Lf, Lg⟩ := cf8_ Aa
          have p197 : 0 ≤ (Ag : Int) := of_decide_eq_true as_q
          have q197 : Ag < (Ac.length : Int) := of_decide_eq_true as_q
          obtain ⟨Kn, e197, Bd, Be⟩ := at_T63 Ax.out Ag p197 q197
          cases e197
          replace Bd := hbc HB Bd; replace Be := hbc HB Be; replace p197 := eq_true p197; replace q197 := eq_true q197; obtain ⟨Lh, Li, Lj, Lk, Ll, Lm, Ln, Lo, Lp, Lq, Lr, Ls, Lt, Lu, Lv, Lw⟩ := cf8_ Ab
          have p198 : 0 ≤ (Ag : Int) := of_decide_eq_true as_q
          have q198 : Ag < (Af.length : Int) := of_decide_eq_true as_q
          obtain ⟨Ko, e198, Bf, Bg⟩ := at_T63 Ay.out Ag p198 q198
          cases e198
          replace Bf := hbc HB Bf; replace Bg := hbc HB Bg; replace p198 := eq_true p198; replace q198 := eq_true q198
          go_wp2
          repeat (go_quiet (fail); try go_wp2)
          go_ret
          exact ⟨er_q, bw_q HB⟩
         ·rw [if_neg c36] at H
          have Km : (!(((rd_T63 Ac Ag).f0) == ((rd_T63 Af Ag).f0)) || (!(((rd_T63 Ac Ag).f1) == ((rd_T63 Af Ag).f1)))) = false := by simpa using c36
          clear c36; have H' := ak H; clear H; have Of := Aq.out; have Og := Ar.out; obtain ⟨Lx, Ly, Lz, Ma, Mb, Mc, Md, Me, Mf, Mg, Mh, Mi, Mj, Mk, Ml, Mm⟩ := cf8_ Aa
          have p197 : 0 ≤ (Ag : Int) := of_decide_eq_true as_q
          have q197 : Ag < (Ac.length : Int) := of_decide_eq_true as_q
          obtain ⟨Kn, e197, Bd, Be⟩ := at_T63 Ax.out Ag p197 q197
          cases e197
          replace Bd := hbc HB Bd; replace Be := hbc HB Be; replace p197 := eq_true p197; replace q197 := eq_true q197; obtain ⟨Mn, Mo, Mp, Mq, Mr, Ms, Mt, Mu, Mv, Mw, Mx, My, Mz, Na, Nb, Nc⟩ := cf8_ Ab
          have p198 : 0 ≤ (Ag : Int) := of_decide_eq_true as_q
          have q198 : Ag < (Af.length : Int) := of_decide_eq_true as_q
          obtain ⟨Ko, e198, Bf, Bg⟩ := at_T63 Ay.out Ag p198 q198
          cases e198
          replace Bf := hbc HB Bf; replace Bg := hbc HB Bg; replace p198 := eq_true p198; replace q198 := eq_true q198
          go_wp2
          repeat (go_quiet (fail); try go_wp2)
          go_roundg k2
          case measure => have := HJ2.out; have := Kp.out; omega
          case rel => exact ⟨(wrap64 (Ag + 1)), rs_q, H', ⟨by have := HJ2.out; have := Kp.out; omega⟩, ⟨bk_q Aa⟩, ⟨bk_q Ab⟩, ⟨bw_q HB⟩⟩
        ·rw [if_neg c35] at H
         exact absurd H (by simp)
       ·rw [if_neg c34] at H
        exact absurd H (by simp)
      ·rw [if_neg c33] at H
       have Kl : decide (Ag < (Ac.length : Int)) = false := decide_eq_false c33
       clear c33; obtain rfl := Option.some.inj H; have Oh := Aq.out; have Oi := Ar.out; obtain ⟨Nd, Ne, Nf, Ng, Nh, Ni, Nj, Nk, Nl, Nm, Nn, No, Np, Nq, Nr, Ns⟩ := cf8_ Aa
       go_wp2
       repeat (go_quiet (fail); try go_wp2)
       go_ret
       exact ⟨er_q, bw_q HB⟩

/-! ### spec_l09Head: function 74 -/
def spec_l09Head.f (c : Int) (b : Int) (d : Int) (e : Int) (g : Int) (h : List (S63)) (i : Int) (j : Bool) : Option (Int × Int × Int × Int × Int × (List (S63)) × Int × Bool) := (some (([] : List (S63)) : List (S63))).bind fun a => (if b = 3 then (some (c, b, d, e, g, a, 1, false)) else (some (c, b, d, e, g, a, 0, false)))
set_option maxHeartbeats 8000000 in
set_option maxRecDepth 100000 in
theorem spec_l09Head.calls (Ab : Int) (Aa : Int) (Ae : Int) (Af : Int) (Ag : Int) (At : Option Addr) (Au : Nat) (Al : List (S63)) (Ap : Int) (Am : Bool) (r1 : Int) (r2 : Int) (r3 : Int) (r4 : Int) (r5 : Int) (r6 : List (S63)) (r7 : Int) (r8 : Bool) (w : World) (hr0_5 : Kd.C k63 w At Al.length Al) (hc0_5 : Al.length ≤ Au) (h : spec_l09Head.f Ab Aa Ae Af Ag Al Ap Am = some (r1, r2, r3, r4, r5, r6, r7, r8)) :
  Calls Try.prog 74 #[.agg #[.int .i64 Ab, .int .i64 Aa, .int .i64 Ae, .int .i64 Af, .int .i64 Ag, .slice At Al.length Au, .int .i64 Ap, .bool Am]] w fun e w' => ∃ v5_ : Value, e = .returned (.agg #[.int .i64 r1, .int .i64 r2, .int .i64 r3, .int .i64 r4, .int .i64 r5, v5_, .int .i64 r7, .bool r8]) ∧ Kd.R k63 63 w' w.heap.size (fun _ => True) v5_ r6 ∧ Below w.heap.size w w' := by
 have hu24 := Try.underlying24; have Dz := ak hr0_5; have Ea := ak hc0_5; clear hr0_5 hc0_5; have HB := ak (Below.refl w.heap.size w); have H := h
 clear h; unfold spec_l09Head.f at H; obtain ⟨Ah, Aq⟩ : ∃ y_ : List (S63), y_ = (([] : List (S63))) := ⟨_, rfl⟩
 replace H : (if Aa = 3 then (some (Ab, Aa, Ae, Af, Ag, Ah, 1, false)) else (some (Ab, Aa, Ae, Af, Ag, Ah, 0, false))) = some (r1, r2, r3, r4, r5, r6, r7, r8) := by first | (rw [Aq]; with_reducible exact H) | (have H2_ := (Option.bind_some _ _).symm.trans H; rw [Aq]; with_reducible exact H2_) | (have H2_ := (Option.bind_some _ _).symm.trans H; with_reducible exact H2_) | with_reducible exact H | (rw [Aq]; exact H) | exact H
 have Av := ak Aq; clear Aq; have Aw := ak H; clear H
 go_enter Try.func74, Try.ntmps74
 go_upto_if 8 with (first | ((with_reducible refine gate_dst (N := 1) rfl ?_); refine box_q 1 #[.int .i64 Ab, .int .i64 Aa, .int .i64 Ae, .int .i64 Af, .int .i64 Ag, .slice At Al.length Au, .int .i64 Ap, .bool Am] 24 ?_; intro Ac hg w3 hbox hb; have Aj := ak (hbox); have Eb := gsz w (below_size (bw_q HB)) hg; have Ec := gsz w (below_size (bw_q HB)) hg; replace HB := ak (below_step (bw_q HB) hb); clear hb hbox hg) | ((with_reducible refine gate_dst (N := 2) rfl ?_); refine box_q 2 #[.int .i64 0, .int .i64 0, .int .i64 0, .int .i64 0, .int .i64 0, .slice none 0 0, .int .i64 0, .bool false] 24 ?_; intro Ad hg w4 hbox hb; have Ak := ak (hbox); have Ed := gsz w (below_size (bw_q HB)) hg; have Ee := gsz w (below_size (bw_q HB)) hg; replace HB := ak (below_step (bw_q HB) hb); have An := ak ((by rw [hg]; exact Nat.ne_of_lt (blk_lt (g := Ac) (o := .cells #[.int .i64 Ab, .int .i64 Aa, .int .i64 Ae, .int .i64 Af, .int .i64 Ag, .slice At Al.length Au, .int .i64 Ap, .bool Am] 24 (0, 0)) (bk_q Aj)) : Ac ≠ Ad)); have Ai := ak ((by rw [hg]; exact Nat.ne_of_gt (blk_lt (g := Ac) (o := .cells #[.int .i64 Ab, .int .i64 Aa, .int .i64 Ae, .int .i64 Af, .int .i64 Ag, .slice At Al.length Au, .int .i64 Ap, .bool Am] 24 (0, 0)) (bk_q Aj)) : Ad ≠ Ac)); replace Aj := ak (blk_below (g := Ac) (bk_q Aj) hb); clear hb hbox hg) | ((with_reducible refine gate_dst (N := 3) rfl ?_); refine Kd.R_lit k63 _ 63 ?hg (N := 3) ?hd (xs := ([] : List (S63))) (inner := []) (ok := fun _ => True) (okp := fun _ => True) ?hr ?hp (fun _ hk => hk) trivial (Below.refl _ _) (Nat.le_refl _) (by simp) ?_; (case hd => rfl); (case hg => rfl); (case hr => first | (go_simp; done) | (go_simp; rfl)); (case hp => exact (Reps.none _ _)); intro v202 w5 ho6 hb hg_ hnew_; clear hg_ hnew_; (first | rw [← Av.out] at ho6 | (simp only [Int.reduceToNat] at ho6; rw [← Av.out] at ho6)); have Ao := ak (Kd.R_lower ho6 (below_size (bw_q HB))); replace Aj := ak (blk_below (g := Ac) (bk_q Aj) hb); replace Ak := ak (blk_below (g := Ad) (bk_q Ak) hb); replace HB := ak (below_step (bw_q HB) hb); clear hb ho6; obtain ⟨Ao7, co7, eo7⟩ := Kd.R_slice Ao.out; subst eo7; have Ej := An.out; have Ek := Ai.out; obtain ⟨Dj, Dk, Dl, Dm, Dn, Do, Dp, Dq, Dr, Ds, Dt, Du, Dv, Dw, Dx, Dy⟩ := cf8_ Aj))
 have n0_ : Aside0 (Kd.R k63 63 ((w5.setCell ⟨Ac, 5, none⟩ (.slice Ao7 Ah.length co7)).setCell ⟨Ac, 6, none⟩ (.int .i64 0)) w.heap.size (fun _ => True) (.slice Ao7 Ah.length co7) Ah) := ⟨by (with_reducible repeat (first | apply Kd.R_alloc | apply Kd.R_drewN | apply Kd.R_drew)); exact Kd.R_mono (Kd.R_far (p := ⟨Ac, 6, none⟩) (Kd.R_far (p := ⟨Ac, 5, none⟩) (Kd.R_types Ao.out Aj.out (by decide)) (fun _ hk => hk.2) (.slice Ao7 Ah.length co7)) (fun _ hk => hk.2) (.int .i64 0)) (fun _ hk => trivial)⟩
 have n1_ : Aside0 (((w5.setCell ⟨Ac, 5, none⟩ (.slice Ao7 Ah.length co7)).setCell ⟨Ac, 6, none⟩ (.int .i64 0)).heap[Ac]? = some (.cells #[.int .i64 Ab, .int .i64 Aa, .int .i64 Ae, .int .i64 Af, .int .i64 Ag, .slice Ao7 Ah.length co7, .int .i64 0, .bool Am] 24 (0, 0))) := ⟨by refine bz_ ?_; refine blk_put (cs := #[.int .i64 Ab, .int .i64 Aa, .int .i64 Ae, .int .i64 Af, .int .i64 Ag, .slice Ao7 Ah.length co7, .int .i64 Ap, .bool Am]) ?_ 6 _ rfl; refine bz_ ?_; refine blk_put (cs := #[.int .i64 Ab, .int .i64 Aa, .int .i64 Ae, .int .i64 Af, .int .i64 Ag, .slice At Al.length Au, .int .i64 Ap, .bool Am]) ?_ 5 _ rfl; refine bz_ ?_; exact Aj.out⟩
 have n2_ : Aside0 (((w5.setCell ⟨Ac, 5, none⟩ (.slice Ao7 Ah.length co7)).setCell ⟨Ac, 6, none⟩ (.int .i64 0)).heap[Ad]? = some (.cells #[.int .i64 0, .int .i64 0, .int .i64 0, .int .i64 0, .int .i64 0, .slice none 0 0, .int .i64 0, .bool false] 24 (0, 0))) := ⟨by refine bz_ ?_; refine blk_far ?_ Ai.out _; refine bz_ ?_; refine blk_far ?_ Ai.out _; refine bz_ ?_; exact Ak.out⟩
 have n3_ : Aside0 (Below w.heap.size w ((w5.setCell ⟨Ac, 5, none⟩ (.slice Ao7 Ah.length co7)).setCell ⟨Ac, 6, none⟩ (.int .i64 0))) := ⟨bw_q HB⟩
 (try clear Ao); (try clear Aj); (try clear Ak); (try clear HB)
 generalize ((w5.setCell ⟨Ac, 5, none⟩ (.slice Ao7 Ah.length co7)).setCell ⟨Ac, 6, none⟩ (.int .i64 0)) = w10 at n0_ n1_ n2_ n3_ ⊢
 have Ao := n0_; have Aj := n1_; have Ak := n2_; have HB := n3_; clear n0_ n1_ n2_ n3_; have H := Aw.out; clear Aw
 by_cases c11 : Aa = 3
 ·rw [if_pos c11] at H
  have Ar : (Aa == 3) = true := bqi c11
  have As : (Aa != 3) = false := bnf c11
  clear c11
  (first | rw [Ar] | rw [As] | (simp only [i64_w, i32_w]; first | rw [Ar] | rw [As]) | skip)
  simp only [Option.some.injEq, Prod.mk.injEq] at H
  obtain ⟨rfl, rfl, rfl, rfl, rfl, rfl, rfl, rfl⟩ := H; have Ef := An.out; have Eg := Ai.out; obtain ⟨Ax, Ay, Az, Ba, Bb, Bc, Bd, Be, Bf, Bg, Bh, Bi, Bj, Bk, Bl, Bm⟩ := cf8_ Aj; obtain ⟨Bn, Bo, Bp, Bq, Br, Bs, Bt, Bu, Bv, Bw, Bx, By, Bz, Ca, Cb, Cc⟩ := cf8_ Ak
  go_wp2
  refine bodyPost_ret (results_cell_row rfl _ _ Ad 24 #[.int .i64 Ab, .int .i64 Aa, .int .i64 Ae, .int .i64 Af, .int .i64 Ag, .slice Ao7 Ah.length co7, .int .i64 1, .bool false] (0, 0) _ rfl (by refine bz_ ?_; refine blk_put (cs := #[.int .i64 Ab, .int .i64 Aa, .int .i64 Ae, .int .i64 Af, .int .i64 Ag, .slice Ao7 Ah.length co7, .int .i64 1, .bool false]) ?_ 7 _ rfl; refine bz_ ?_; refine blk_put (cs := #[.int .i64 Ab, .int .i64 Aa, .int .i64 Ae, .int .i64 Af, .int .i64 Ag, .slice Ao7 Ah.length co7, .int .i64 0, .bool false]) ?_ 6 _ rfl; refine bz_ ?_; refine blk_put (cs := #[.int .i64 Ab, .int .i64 Aa, .int .i64 Ae, .int .i64 Af, .int .i64 Ag, .slice none 0 0, .int .i64 0, .bool false]) ?_ 5 _ rfl; refine bz_ ?_; refine blk_put (cs := #[.int .i64 Ab, .int .i64 Aa, .int .i64 Ae, .int .i64 Af, .int .i64 0, .slice none 0 0, .int .i64 0, .bool false]) ?_ 4 _ rfl; refine bz_ ?_; refine blk_put (cs := #[.int .i64 Ab, .int .i64 Aa, .int .i64 Ae, .int .i64 0, .int .i64 0, .slice none 0 0, .int .i64 0, .bool false]) ?_ 3 _ rfl; refine bz_ ?_; refine blk_put (cs := #[.int .i64 Ab, .int .i64 Aa, .int .i64 0, .int .i64 0, .int .i64 0, .slice none 0 0, .int .i64 0, .bool false]) ?_ 2 _ rfl; refine bz_ ?_; refine blk_put (cs := #[.int .i64 Ab, .int .i64 0, .int .i64 0, .int .i64 0, .int .i64 0, .slice none 0 0, .int .i64 0, .bool false]) ?_ 1 _ rfl; refine bz_ ?_; refine blk_put (cs := #[.int .i64 0, .int .i64 0, .int .i64 0, .int .i64 0, .int .i64 0, .slice none 0 0, .int .i64 0, .bool false]) ?_ 0 _ rfl; refine bz_ ?_; refine blk_far ?_ Ai.out _; refine bz_ ?_; refine blk_far ?_ Ai.out _; refine bz_ ?_; exact Ak.out) Try.underlying24 rfl (by kernel_rfl)) rfl ?_
  exact ⟨_, er_q, by (with_reducible repeat (first | apply Kd.R_alloc | apply Kd.R_drewN | apply Kd.R_drew)); exact Kd.R_mono (Kd.R_far (p := ⟨Ad, 7, none⟩) (Kd.R_far (p := ⟨Ad, 6, none⟩) (Kd.R_far (p := ⟨Ad, 5, none⟩) (Kd.R_far (p := ⟨Ad, 4, none⟩) (Kd.R_far (p := ⟨Ad, 3, none⟩) (Kd.R_far (p := ⟨Ad, 2, none⟩) (Kd.R_far (p := ⟨Ad, 1, none⟩) (Kd.R_far (p := ⟨Ad, 0, none⟩) (Kd.R_far (p := ⟨Ac, 7, none⟩) (Kd.R_far (p := ⟨Ac, 6, none⟩) (Kd.R_types (Kd.R_types Ao.out Aj.out (by decide)) Ak.out (by decide)) (fun _ hk => hk.1.2) (.int .i64 1)) (fun _ hk => hk.1.2) (.bool false)) (fun _ hk => hk.2) (.int .i64 Ab)) (fun _ hk => hk.2) (.int .i64 Aa)) (fun _ hk => hk.2) (.int .i64 Ae)) (fun _ hk => hk.2) (.int .i64 Af)) (fun _ hk => hk.2) (.int .i64 Ag)) (fun _ hk => hk.2) (.slice Ao7 Ah.length co7)) (fun _ hk => hk.2) (.int .i64 1)) (fun _ hk => hk.2) (.bool false)) (fun _ hk => trivial), bw_q HB⟩
 ·rw [if_neg c11] at H
  have Ar : (Aa == 3) = false := bqf c11
  have As : (Aa != 3) = true := bni c11
  (first | rw [Ar] | rw [As] | (simp only [i64_w, i32_w]; first | rw [Ar] | rw [As]) | skip)
  simp only [Option.some.injEq, Prod.mk.injEq] at H
  obtain ⟨rfl, rfl, rfl, rfl, rfl, rfl, rfl, rfl⟩ := H; have Eh := An.out; have Ei := Ai.out; obtain ⟨Cd, Ce, Cf, Cg, Ch, Ci, Cj, Ck, Cl, Cm, Cn, Co, Cp, Cq, Cr, Cs⟩ := cf8_ Aj; obtain ⟨Ct, Cu, Cv, Cw, Cx, Cy, Cz, Da, Db, Dc, Dd, De, Df, Dg, Dh, Di⟩ := cf8_ Ak
  go_wp2
  refine bodyPost_ret (results_cell_row rfl _ _ Ad 24 #[.int .i64 Ab, .int .i64 Aa, .int .i64 Ae, .int .i64 Af, .int .i64 Ag, .slice Ao7 Ah.length co7, .int .i64 0, .bool false] (0, 0) _ rfl (by refine bz_ ?_; refine blk_put (cs := #[.int .i64 Ab, .int .i64 Aa, .int .i64 Ae, .int .i64 Af, .int .i64 Ag, .slice Ao7 Ah.length co7, .int .i64 0, .bool false]) ?_ 7 _ rfl; refine bz_ ?_; refine blk_put (cs := #[.int .i64 Ab, .int .i64 Aa, .int .i64 Ae, .int .i64 Af, .int .i64 Ag, .slice Ao7 Ah.length co7, .int .i64 0, .bool false]) ?_ 6 _ rfl; refine bz_ ?_; refine blk_put (cs := #[.int .i64 Ab, .int .i64 Aa, .int .i64 Ae, .int .i64 Af, .int .i64 Ag, .slice none 0 0, .int .i64 0, .bool false]) ?_ 5 _ rfl; refine bz_ ?_; refine blk_put (cs := #[.int .i64 Ab, .int .i64 Aa, .int .i64 Ae, .int .i64 Af, .int .i64 0, .slice none 0 0, .int .i64 0, .bool false]) ?_ 4 _ rfl; refine bz_ ?_; refine blk_put (cs := #[.int .i64 Ab, .int .i64 Aa, .int .i64 Ae, .int .i64 0, .int .i64 0, .slice none 0 0, .int .i64 0, .bool false]) ?_ 3 _ rfl; refine bz_ ?_; refine blk_put (cs := #[.int .i64 Ab, .int .i64 Aa, .int .i64 0, .int .i64 0, .int .i64 0, .slice none 0 0, .int .i64 0, .bool false]) ?_ 2 _ rfl; refine bz_ ?_; refine blk_put (cs := #[.int .i64 Ab, .int .i64 0, .int .i64 0, .int .i64 0, .int .i64 0, .slice none 0 0, .int .i64 0, .bool false]) ?_ 1 _ rfl; refine bz_ ?_; refine blk_put (cs := #[.int .i64 0, .int .i64 0, .int .i64 0, .int .i64 0, .int .i64 0, .slice none 0 0, .int .i64 0, .bool false]) ?_ 0 _ rfl; refine bz_ ?_; refine blk_far ?_ Ai.out _; refine bz_ ?_; exact Ak.out) Try.underlying24 rfl (by kernel_rfl)) rfl ?_
  exact ⟨_, er_q, by (with_reducible repeat (first | apply Kd.R_alloc | apply Kd.R_drewN | apply Kd.R_drew)); exact Kd.R_mono (Kd.R_far (p := ⟨Ad, 7, none⟩) (Kd.R_far (p := ⟨Ad, 6, none⟩) (Kd.R_far (p := ⟨Ad, 5, none⟩) (Kd.R_far (p := ⟨Ad, 4, none⟩) (Kd.R_far (p := ⟨Ad, 3, none⟩) (Kd.R_far (p := ⟨Ad, 2, none⟩) (Kd.R_far (p := ⟨Ad, 1, none⟩) (Kd.R_far (p := ⟨Ad, 0, none⟩) (Kd.R_far (p := ⟨Ac, 7, none⟩) (Kd.R_types (Kd.R_types Ao.out Aj.out (by decide)) Ak.out (by decide)) (fun _ hk => hk.1.2) (.bool false)) (fun _ hk => hk.2) (.int .i64 Ab)) (fun _ hk => hk.2) (.int .i64 Aa)) (fun _ hk => hk.2) (.int .i64 Ae)) (fun _ hk => hk.2) (.int .i64 Af)) (fun _ hk => hk.2) (.int .i64 Ag)) (fun _ hk => hk.2) (.slice Ao7 Ah.length co7)) (fun _ hk => hk.2) (.int .i64 0)) (fun _ hk => hk.2) (.bool false)) (fun _ hk => trivial), bw_q HB⟩

end Go.Proofs.Ytnecbkognpponaa.Q
