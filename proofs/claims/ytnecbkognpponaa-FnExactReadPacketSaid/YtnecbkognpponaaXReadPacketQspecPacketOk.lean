import Derived.Test.YtnecbkognpponaaXReadPacketQx45
import Derived.Test.YtnecbkognpponaaXReadPacketQspecl09Head
import Derived.Test.YtnecbkognpponaaXReadPacketQspecl04Copy
/- The contract of a Go function. -/






namespace Go.Proofs.Ytnecbkognpponaa.Q
open Go.RowKit Go.Proofs.YtnecbkognpponaaW.PrintWords Go.Proofs.YtnecbkognpponaaW.PrintLast Go.Proofs.YtnecbkognpponaaW.PrintMore
attribute [local go_sem] max2_int min2_int max_two min_two max_three min_three max_four min_four   -- for this text's walks alone
set_option linter.unusedVariables false
set_option linter.unusedSimpArgs false

/-! ### spec_PacketOk: function 30 -/
mutual
def spec_PacketOk.j0 : Nat → Bool → Int → Int → Int → Int → List Int → List (S24) → Option (Bool)
 | 0, _, _, _, _, _, _, _ => none
 | k + 1, h, a, b, c, d, e, g => if h = true then (some false) else (spec_PacketOk.l0 k 0 a b c d e g)
def spec_PacketOk.l0 : Nat → Int → Int → Int → Int → Int → List Int → List (S24) → Option (Bool)
 | 0, _, _, _, _, _, _, _ => none
 | k + 1, h, c, d, e, g, a, b => if h < (a.length : Int) then (if 0 ≤ h then ((spec_l01In.f (rd a h) 1 6).bind fun i => (if i = true then (if h > 0 then (if 0 ≤ (wrap64 (h - 1)) then (if (wrap64 (h - 1)) < (a.length : Int) then (if (rd a (wrap64 (h - 1))) ≥ (rd a h) then (some false) else (spec_PacketOk.l0 k (wrap64 (h + 1)) c d e g a b)) else (none)) else (none)) else (spec_PacketOk.l0 k (wrap64 (h + 1)) c d e g a b)) else (some false))) else (none)) else (if c = 1 then (if (b.length : Int) > 0 then (spec_PacketOk.j2 k true c d e g a b) else ((spec_StoreOk.f k b).bind fun j => (spec_PacketOk.j2 k (!j) c d e g a b))) else (if (a.length : Int) > 0 then (spec_PacketOk.j2 k true c d e g a b) else ((spec_StoreOk.f k b).bind fun l => (spec_PacketOk.j2 k (!l) c d e g a b))))
def spec_PacketOk.j2 : Nat → Bool → Int → Int → Int → Int → List Int → List (S24) → Option (Bool)
 | 0, _, _, _, _, _, _, _ => none
 | k + 1, h, a, b, c, d, e, g => if h = true then (some false) else (spec_PacketOk.l1 k 0 a b c d e g)
def spec_PacketOk.l1 : Nat → Int → Int → Int → Int → Int → List Int → List (S24) → Option (Bool)
 | 0, _, _, _, _, _, _, _ => none
 | k + 1, b, c, j, l, i, m, a => if b < (a.length : Int) then (if 0 ≤ b then (if ((rd_T24 a b).f0) = i then (if c = 2 then ((spec_l04Copy.f ((rd_T24 a b).f0) ((rd_T24 a b).f1) ((rd_T24 a b).f2) ((rd_T24 a b).f3) ((rd_T24 a b).f4) ((rd_T24 a b).f5) ((rd_T24 a b).f6) ((rd_T24 a b).f7)).bind fun d => ((spec_l09Head.f d.1 d.2.1 d.2.2.1 d.2.2.2.1 d.2.2.2.2.1 d.2.2.2.2.2.1 d.2.2.2.2.2.2.1 d.2.2.2.2.2.2.2).bind fun e => ((spec_SameBody.f k e.1 e.2.1 e.2.2.1 e.2.2.2.1 e.2.2.2.2.1 e.2.2.2.2.2.1 e.2.2.2.2.2.2.1 e.2.2.2.2.2.2.2 ((rd_T24 a b).f0) ((rd_T24 a b).f1) ((rd_T24 a b).f2) ((rd_T24 a b).f3) ((rd_T24 a b).f4) ((rd_T24 a b).f5) ((rd_T24 a b).f6) ((rd_T24 a b).f7)).bind fun n => (if n = true then (spec_PacketOk.l1 k (wrap64 (b + 1)) c j l i m a) else (some false))))) else (spec_PacketOk.l1 k (wrap64 (b + 1)) c j l i m a)) else (if ((rd_T24 a b).f0) = 9 then (if c = 2 then ((spec_l04Copy.f ((rd_T24 a b).f0) ((rd_T24 a b).f1) ((rd_T24 a b).f2) ((rd_T24 a b).f3) ((rd_T24 a b).f4) ((rd_T24 a b).f5) ((rd_T24 a b).f6) ((rd_T24 a b).f7)).bind fun g => ((spec_l09Head.f g.1 g.2.1 g.2.2.1 g.2.2.2.1 g.2.2.2.2.1 g.2.2.2.2.2.1 g.2.2.2.2.2.2.1 g.2.2.2.2.2.2.2).bind fun h => ((spec_SameBody.f k h.1 h.2.1 h.2.2.1 h.2.2.2.1 h.2.2.2.2.1 h.2.2.2.2.2.1 h.2.2.2.2.2.2.1 h.2.2.2.2.2.2.2 ((rd_T24 a b).f0) ((rd_T24 a b).f1) ((rd_T24 a b).f2) ((rd_T24 a b).f3) ((rd_T24 a b).f4) ((rd_T24 a b).f5) ((rd_T24 a b).f6) ((rd_T24 a b).f7)).bind fun o => (if o = true then (spec_PacketOk.l1 k (wrap64 (b + 1)) c j l i m a) else (some false))))) else (spec_PacketOk.l1 k (wrap64 (b + 1)) c j l i m a)) else (some false))) else (none)) else (some true)
end
def spec_PacketOk.f (k : Nat) (h : Int) (e : Int) (g : Int) (i : Int) (j : List Int) (l : List (S24)) : Option (Bool) := (spec_l01In.f h 1 3).bind fun a => (if a = true then ((spec_l01In.f e 1 6).bind fun b => (if b = true then ((spec_l01In.f g 1 6).bind fun c => (if c = true then (if e = g then (spec_PacketOk.j0 k true h e g i j l) else ((spec_l01In.f i 0 2).bind fun d => (spec_PacketOk.j0 k (!d) h e g i j l))) else (spec_PacketOk.j0 k true h e g i j l))) else (spec_PacketOk.j0 k true h e g i j l))) else (spec_PacketOk.j0 k true h e g i j l))
theorem spec_PacketOk.mono_l : ∀ k, (∀ y0 y1 y2 y3 y4 y5 y6, LeO (spec_PacketOk.j0 k y0 y1 y2 y3 y4 y5 y6) (spec_PacketOk.j0 (k + 1) y0 y1 y2 y3 y4 y5 y6)) ∧ (∀ y0 y1 y2 y3 y4 y5 y6, LeO (spec_PacketOk.l0 k y0 y1 y2 y3 y4 y5 y6) (spec_PacketOk.l0 (k + 1) y0 y1 y2 y3 y4 y5 y6)) ∧ (∀ y0 y1 y2 y3 y4 y5 y6, LeO (spec_PacketOk.j2 k y0 y1 y2 y3 y4 y5 y6) (spec_PacketOk.j2 (k + 1) y0 y1 y2 y3 y4 y5 y6)) ∧ (∀ y0 y1 y2 y3 y4 y5 y6, LeO (spec_PacketOk.l1 k y0 y1 y2 y3 y4 y5 y6) (spec_PacketOk.l1 (k + 1) y0 y1 y2 y3 y4 y5 y6))
 | 0 => ⟨fun _ _ _ _ _ _ _ r h => by simp [spec_PacketOk.j0] at h, fun _ _ _ _ _ _ _ r h => by simp [spec_PacketOk.l0] at h, fun _ _ _ _ _ _ _ r h => by simp [spec_PacketOk.j2] at h, fun _ _ _ _ _ _ _ r h => by simp [spec_PacketOk.l1] at h⟩
 | k + 1 => by
  obtain ⟨ih0, ih1, ih2, ih3⟩ := spec_PacketOk.mono_l k
  refine ⟨?_, ?_, ?_, ?_⟩
  ·intro y0 y1 y2 y3 y4 y5 y6
   unfold spec_PacketOk.j0
   with_reducible repeat' (first | apply ih0 | apply ih1 | apply ih2 | apply ih3 | apply spec_SameBody.mono | apply spec_StoreOk.mono | exact LeO.refl _ | exact LeO.none _ | refine LeO.ite ?_ ?_ | refine LeO.bind ?_ (fun _ => ?_))
  ·intro y0 y1 y2 y3 y4 y5 y6
   unfold spec_PacketOk.l0
   with_reducible repeat' (first | apply ih0 | apply ih1 | apply ih2 | apply ih3 | apply spec_SameBody.mono | apply spec_StoreOk.mono | exact LeO.refl _ | exact LeO.none _ | refine LeO.ite ?_ ?_ | refine LeO.bind ?_ (fun _ => ?_))
  ·intro y0 y1 y2 y3 y4 y5 y6
   unfold spec_PacketOk.j2
   with_reducible repeat' (first | apply ih0 | apply ih1 | apply ih2 | apply ih3 | apply spec_SameBody.mono | apply spec_StoreOk.mono | exact LeO.refl _ | exact LeO.none _ | refine LeO.ite ?_ ?_ | refine LeO.bind ?_ (fun _ => ?_))
  ·intro y0 y1 y2 y3 y4 y5 y6
   unfold spec_PacketOk.l1
   with_reducible repeat' (first | apply ih0 | apply ih1 | apply ih2 | apply ih3 | apply spec_SameBody.mono | apply spec_StoreOk.mono | exact LeO.refl _ | exact LeO.none _ | refine LeO.ite ?_ ?_ | refine LeO.bind ?_ (fun _ => ?_))
theorem spec_PacketOk.mono : ∀ a0 a1 a2 a3 a4 a5 k, LeO (spec_PacketOk.f k a0 a1 a2 a3 a4 a5) (spec_PacketOk.f (k + 1) a0 a1 a2 a3 a4 a5) := by
 intro a0 a1 a2 a3 a4 a5 k
 obtain ⟨ih0, ih1, ih2, ih3⟩ := spec_PacketOk.mono_l k
 unfold spec_PacketOk.f
 with_reducible repeat' (first | apply ih0 | apply ih1 | apply ih2 | apply ih3 | apply spec_SameBody.mono | apply spec_StoreOk.mono | exact LeO.refl _ | exact LeO.none _ | refine LeO.ite ?_ ?_ | refine LeO.bind ?_ (fun _ => ?_))
def spec_PacketOk.T6 : Bool × List (List Nat × List Nat) := (true, [([], []), ([0], [0]), ([], []), ([1, 2], [1, 2]), ([3], [3]), ([4], [4]), ([5], [5]), ([6, 5], [6]), ([7], [7]), ([8, 7], [7, 8]), ([9, 7, 7], [7, 9]), ([10], [10]), ([11, 10], [10, 11]), ([10], [10]), ([13, 10], [10, 13]), ([12, 14, 10], [10, 12, 14]), ([15, 10], [10, 15]), ([10], [10]), ([17, 10], [10, 17]), ([10], [10]), ([18, 19, 10], [10, 18, 19]), ([20, 10], [10, 20]), ([16, 21, 10], [10, 16, 21]), ([10, 22, 7], [7, 10, 22]), ([7, 23], [7, 23])])
def spec_PacketOk.B6 : List Nat := [0, 1, 0, 7, 15, 31, 63, 127, 255, 511, 1023, 2047, 4095, 2047, 10239, 32767, 65535, 2047, 133119, 2047, 919551, 1968127, 4194303, 8388607, 16777215]
theorem spec_PacketOk.tab6 : rtab .any (opsOf Try.f30 6) = spec_PacketOk.T6 := by kernel_rfl
theorem spec_PacketOk.bits6 : waitsOk spec_PacketOk.T6.2 spec_PacketOk.B6 = true := by kernel_rfl
def spec_PacketOk.T14 : Bool × List (List Nat × List Nat) := (true, [([], []), ([0], [0]), ([], []), ([2], [2]), ([1, 3], [1, 3]), ([4], [4]), ([5], [5]), ([6, 5], [5, 6]), ([7, 5], [5, 7]), ([5, 8], [5, 8]), ([9, 5], [9]), ([10], [10]), ([11, 10], [10, 11]), ([12, 10], [10, 12]), ([13, 10, 10], [10, 13]), ([14], [14]), ([15, 14, 14], [14, 15]), ([16, 16, 14], [14, 16]), ([14], [14]), ([17, 18, 17, 14], [14, 17, 18]), ([19, 14], [14, 19]), ([14, 20, 10], [10, 14, 20]), ([10, 21], [10, 21])])
def spec_PacketOk.B14 : List Nat := [0, 1, 0, 4, 15, 31, 63, 127, 255, 511, 1023, 2047, 4095, 8191, 16383, 32767, 65535, 131071, 32767, 524287, 1048575, 2097151, 4194303]
theorem spec_PacketOk.tab14 : rtab .any (opsOf Try.f30 14) = spec_PacketOk.T14 := by kernel_rfl
theorem spec_PacketOk.bits14 : waitsOk spec_PacketOk.T14.2 spec_PacketOk.B14 = true := by kernel_rfl
set_option maxHeartbeats 8000000 in
set_option maxRecDepth 100000 in
theorem spec_PacketOk.calls (k : Nat) (Ah : Int) (Aj : Int) (Ak : Int) (Al : Int) (Ar : Option Addr) (An : Nat) (Af : List Int) (Au : Option Addr) (Ao : Nat) (Aa : List (S24)) (r : Bool) (w : World) (hr0_4 : Kd.C (Kd.int .i64) w Ar Af.length Af) (hc0_4 : Af.length ≤ An) (hr0_5 : Kd.C k24 w Au Aa.length Aa) (hc0_5 : Aa.length ≤ Ao) (h : spec_PacketOk.f k Ah Aj Ak Al Af Aa = some r) :
  Calls Try.prog 30 #[.agg #[.int .i64 Ah, .int .i64 Aj, .int .i64 Ak, .int .i64 Al, .slice Ar Af.length An, .slice Au Aa.length Ao]] w fun e w' => e = .returned (.bool r) ∧ Below w.heap.size w w' := by
 have hu39 := Try.underlying39; have hu24 := Try.underlying24; have If := ak hr0_4; have Ls := ak hc0_4; clear hr0_4 hc0_4; have Gr := ak hr0_5; have Ig := ak hc0_5; clear hr0_5 hc0_5; have HB := ak (Below.refl w.heap.size w); have H := h
 clear h; unfold spec_PacketOk.f at H; have Jf := ak H; clear H
 go_enter Try.func30, Try.ntmps30
 go_upto_region 1 with (first | ((with_reducible refine gate_dst (N := 1) rfl ?_); (try (refine gate_guard (by rfl) ?_; dsimp only)); refine box_q 1 #[.int .i64 Ah, .int .i64 Aj, .int .i64 Ak, .int .i64 Al, .slice Ar Af.length An, .slice Au Aa.length Ao] 39 ?_; intro Ag hg w3 hbox hb; have Ac := ak (hbox); have Lt := gsz w (below_size (bw_q HB)) hg; have Lu := gsz w (below_size (bw_q HB)) hg; replace HB := ak (below_step (bw_q HB) hb); clear hb hbox hg))
 (try simp only [Act.put, List.setIfInBounds_toArray, List.set_cons_zero, List.set_cons_succ])
 go_cut [34] (fun v34 wc => ∃ (kq : Nat) (Br : Bool), v34 = .bool Br ∧ Aside0 (spec_PacketOk.j0 kq Br Ah Aj Ak Al Af Aa = some r) ∧ Aside0 (kq ≤ k) ∧ Aside0 (wc.heap[Ag]? = some (.cells #[.int .i64 Ah, .int .i64 Aj, .int .i64 Ak, .int .i64 Al, (.slice Ar Af.length An), (.slice Au Aa.length Ao)] 39 (0, 0))) ∧ Aside0 (Below w.heap.size w wc))
 case first =>
  have H := Jf.out; clear Jf; replace H := bsi H; obtain ⟨Jo, A40, H⟩ := H
  (try dsimp only at H)
  have A4 := ak A40; clear A40
  by_cases c5 : Jo = true
  ·subst c5; rw [if_pos rfl] at H; replace H := bsi H; obtain ⟨Jp, A60, H⟩ := H
   (try dsimp only at H)
   have A6 := ak A60; clear A60
   by_cases c7 : Jp = true
   ·subst c7; rw [if_pos rfl] at H; replace H := bsi H; obtain ⟨Jq, A80, H⟩ := H
    (try dsimp only at H)
    have A8 := ak A80; clear A80
    by_cases c9 : Jq = true
    ·subst c9; rw [if_pos rfl] at H
     by_cases c10 : Aj = Ak
     ·rw [if_pos c10] at H
      have Av : (Aj == Ak) = true := bqi c10
      have Aw : (Aj != Ak) = false := bnf c10
      clear c10
      (first | rw [Av] | rw [Aw] | (simp only [i64_w, i32_w]; first | rw [Av] | rw [Aw]) | skip)
      have H' := ak H; clear H; obtain ⟨Bt, Bu, Bv, Bw, Bx, By, Bz, Ca, Cb, Cc, Cd, Ce⟩ := cf6_ Ac
      go_wp2_with (first | ((with_reducible refine gate_callee (f := 67) rfl ?_); refine goesL_ (some 8) rfl rfl Try.func67 (by kernel_rfl) rfl #[.int .i64 Ah, .int .i64 1, .int .i64 3] rfl mp_q ?_; (with_reducible refine (spec_l01In.calls Ah 1 3 true _ A4.out).mono ?_); rintro e w' ⟨rfl, ⟨nd, rfl⟩⟩; refine ⟨_, rfl, ?_⟩) | (go_at_call 67; (with_reducible refine (spec_l01In.calls Aj 1 6 true _ A6.out).mono ?_); rintro e w' ⟨rfl, ⟨nd, rfl⟩⟩) | (go_at_call 67; (with_reducible refine (spec_l01In.calls Ak 1 6 true _ A8.out).mono ?_); rintro e w' ⟨rfl, ⟨nd, rfl⟩⟩))
      go_meet
      case rel => exact ⟨_, (true), rs_q, H', ⟨by first | omega | exact Nat.le_refl _⟩, ⟨bk_q Ac⟩, ⟨bw_q HB⟩⟩
     ·rw [if_neg c10] at H
      have Av : (Aj == Ak) = false := bqf c10
      have Aw : (Aj != Ak) = true := bni c10
      (first | rw [Av] | rw [Aw] | (simp only [i64_w, i32_w]; first | rw [Av] | rw [Aw]) | skip)
      replace H := bsi H; obtain ⟨Jg, A120, H⟩ := H
      (try dsimp only at H)
      have A12 := ak A120; clear A120; have H' := ak H; clear H; obtain ⟨Cf, Cg, Ch, Ci, Cj, Ck, Cl, Cm, Cn, Co, Cp, Cq⟩ := cf6_ Ac
      go_wp2_with (first | ((with_reducible refine gate_callee (f := 67) rfl ?_); refine goesL_ (some 8) rfl rfl Try.func67 (by kernel_rfl) rfl #[.int .i64 Ah, .int .i64 1, .int .i64 3] rfl mp_q ?_; (with_reducible refine (spec_l01In.calls Ah 1 3 true _ A4.out).mono ?_); rintro e w' ⟨rfl, ⟨nd, rfl⟩⟩; refine ⟨_, rfl, ?_⟩) | (go_at_call 67; (with_reducible refine (spec_l01In.calls Aj 1 6 true _ A6.out).mono ?_); rintro e w' ⟨rfl, ⟨nd, rfl⟩⟩) | (go_at_call 67; (with_reducible refine (spec_l01In.calls Ak 1 6 true _ A8.out).mono ?_); rintro e w' ⟨rfl, ⟨nd, rfl⟩⟩) | (go_at_call 67; (with_reducible refine (spec_l01In.calls Al 0 2 Jg _ A12.out).mono ?_); rintro e w' ⟨rfl, ⟨nd, rfl⟩⟩))
      go_meet
      case rel => exact ⟨_, (!Jg), rs_q, H', ⟨by first | omega | exact Nat.le_refl _⟩, ⟨bk_q Ac⟩, ⟨bw_q HB⟩⟩
    ·replace c9 := Bool.eq_false_iff.mpr c9; subst c9
     rw [if_neg (show ¬ (false = true) by decide)] at H
     have H' := ak H; clear H; obtain ⟨Cr, Cs, Ct, Cu, Cv, Cw, Cx, Cy, Cz, Da, Db, Dc⟩ := cf6_ Ac
     go_wp2_with (first | ((with_reducible refine gate_callee (f := 67) rfl ?_); refine goesL_ (some 8) rfl rfl Try.func67 (by kernel_rfl) rfl #[.int .i64 Ah, .int .i64 1, .int .i64 3] rfl mp_q ?_; (with_reducible refine (spec_l01In.calls Ah 1 3 true _ A4.out).mono ?_); rintro e w' ⟨rfl, ⟨nd, rfl⟩⟩; refine ⟨_, rfl, ?_⟩) | (go_at_call 67; (with_reducible refine (spec_l01In.calls Aj 1 6 true _ A6.out).mono ?_); rintro e w' ⟨rfl, ⟨nd, rfl⟩⟩) | (go_at_call 67; (with_reducible refine (spec_l01In.calls Ak 1 6 false _ A8.out).mono ?_); rintro e w' ⟨rfl, ⟨nd, rfl⟩⟩))
     go_meet
     case rel => exact ⟨_, (true), rs_q, H', ⟨by first | omega | exact Nat.le_refl _⟩, ⟨bk_q Ac⟩, ⟨bw_q HB⟩⟩
   ·replace c7 := Bool.eq_false_iff.mpr c7; subst c7
    rw [if_neg (show ¬ (false = true) by decide)] at H
    have H' := ak H; clear H; obtain ⟨Dd, De, Df, Dg, Dh, Di, Dj, Dk, Dl, Dm, Dn, Do⟩ := cf6_ Ac
    go_wp2_with (first | ((with_reducible refine gate_callee (f := 67) rfl ?_); refine goesL_ (some 8) rfl rfl Try.func67 (by kernel_rfl) rfl #[.int .i64 Ah, .int .i64 1, .int .i64 3] rfl mp_q ?_; (with_reducible refine (spec_l01In.calls Ah 1 3 true _ A4.out).mono ?_); rintro e w' ⟨rfl, ⟨nd, rfl⟩⟩; refine ⟨_, rfl, ?_⟩) | (go_at_call 67; (with_reducible refine (spec_l01In.calls Aj 1 6 false _ A6.out).mono ?_); rintro e w' ⟨rfl, ⟨nd, rfl⟩⟩))
    go_meet
    case rel => exact ⟨_, (true), rs_q, H', ⟨by first | omega | exact Nat.le_refl _⟩, ⟨bk_q Ac⟩, ⟨bw_q HB⟩⟩
  ·replace c5 := Bool.eq_false_iff.mpr c5; subst c5
   rw [if_neg (show ¬ (false = true) by decide)] at H
   have H' := ak H; clear H; obtain ⟨Dp, Dq, Dr, Ds, Dt, Du, Dv, Dw, Dx, Dy, Dz, Ea⟩ := cf6_ Ac
   go_wp2_with (first | ((with_reducible refine gate_callee (f := 67) rfl ?_); refine goesL_ (some 8) rfl rfl Try.func67 (by kernel_rfl) rfl #[.int .i64 Ah, .int .i64 1, .int .i64 3] rfl mp_q ?_; (with_reducible refine (spec_l01In.calls Ah 1 3 false _ A4.out).mono ?_); rintro e w' ⟨rfl, ⟨nd, rfl⟩⟩; refine ⟨_, rfl, ?_⟩))
   go_meet
   case rel => exact ⟨_, (true), rs_q, H', ⟨by first | omega | exact Nat.le_refl _⟩, ⟨bk_q Ac⟩, ⟨bw_q HB⟩⟩
 case rest =>
  clear Jf; (try clear c1); (try clear p2); (try clear c3); (try clear c5); (try clear c6); (try clear c7); (try clear c9); (try clear c10); (try clear Av); (try clear Aw)
  try clear Bt Bu Bv Bw Bx By
  try clear Cf Cg Ch Ci Cj Ck
  try clear Cr Cs Ct Cu Cv Cw
  try clear Dd De Df Dg Dh Di
  try clear Dp Dq Dr Ds Dt Du
  try clear Bz Ca Cb Cc Cd Ce
  try clear Cl Cm Cn Co Cp Cq
  try clear Cx Cy Cz Da Db Dc
  try clear Dj Dk Dl Dm Dn Do
  try clear Dv Dw Dx Dy Dz Ea
  obtain ⟨kq, Br, rfl, HA, HJ1, Ac, HB⟩ := hcut
  cases kq with
  | zero => exact absurd HA.out (by simp [spec_PacketOk.j0])
  | succ kj1 =>
   have H := HA.out; clear HA
   simp only [spec_PacketOk.j0] at H
   by_cases c17 : Br = true
   ·subst c17; rw [if_pos rfl] at H; obtain rfl := Option.some.inj H
    go_wp2
    go_ret
    exact ⟨er_q, bw_q HB⟩
   ·replace c17 := Bool.eq_false_iff.mpr c17; subst c17
    rw [if_neg (show ¬ (false = true) by decide)] at H
    have H' := ak H; clear H
    go_wp2
    go_loopg [3] kj1 (fun kq v3 w' => ∃ (Ai : Int), v3 = .int .i64 Ai ∧ Aside0 (spec_PacketOk.l0 kq Ai Ah Aj Ak Al Af Aa = some r) ∧ Aside0 (kq ≤ kj1) ∧ Aside0 (w'.heap[Ag]? = some (.cells #[.int .i64 Ah, .int .i64 Aj, .int .i64 Ak, .int .i64 Al, (.slice Ar Af.length An), (.slice Au Aa.length Ao)] 39 (0, 0))) ∧ Aside0 (Below w.heap.size w w'))
    case atStart => exact ⟨(0), rs_q, H', ⟨Nat.le_refl _⟩, ⟨bk_q Ac⟩, ⟨bw_q HB⟩⟩
    case round =>
     clear H'; (try clear c1); (try clear p2); (try clear c3); (try clear c5); (try clear c6); (try clear c7); (try clear c9); (try clear c10); (try clear Av); (try clear Aw); (try clear c17)
     try clear Bt Bu Bv Bw Bx By
     try clear Cf Cg Ch Ci Cj Ck
     try clear Cr Cs Ct Cu Cv Cw
     try clear Dd De Df Dg Dh Di
     try clear Dp Dq Dr Ds Dt Du
     try clear Bz Ca Cb Cc Cd Ce
     try clear Cl Cm Cn Co Cp Cq
     try clear Cx Cy Cz Da Db Dc
     try clear Dj Dk Dl Dm Dn Do
     try clear Dv Dw Dx Dy Dz Ea
     (try clear p2); obtain ⟨Ai, rfl, HA, Ap, Ac, HB⟩ := hrel
     cases gk with
     | zero => exact absurd HA.out (by simp [spec_PacketOk.l0])
     | succ k2 =>
      have H := HA.out; clear HA
      simp only [spec_PacketOk.l0] at H
      by_cases c18 : Ai < (Af.length : Int)
      ·rw [if_pos c18] at H
       have Gs : decide (Ai < (Af.length : Int)) = true := decide_eq_true c18
       clear c18
       by_cases c19 : 0 ≤ Ai
       ·rw [if_pos c19] at H
        have Lv : decide (0 ≤ Ai) = true := decide_eq_true c19
        clear c19; replace H := bsi H; obtain ⟨Jh, A200, H⟩ := H
        (try dsimp only at H)
        have A20 := ak A200; clear A200; have HZ11 := ak H; clear H; obtain ⟨Ke, Kf, Kg, Kh, Ki, Kj, Kk, Kl, Km, Kn, Ko, Kp⟩ := cf6_ Ac
        try go_wp2
        replace Ac := ak (blk_drew Ac.out); replace HB := ak (below_drew1 HB.out)
        have p217 : 0 ≤ (Ai : Int) := of_decide_eq_true as_q
        have q217 : Ai < (Af.length : Int) := of_decide_eq_true as_q
        obtain ⟨Ba, e217, Aq⟩ := Kd.at_int If.out Ai p217 q217; have hw217_0 := Aq
        cases e217
        replace Aq := hbc HB Aq; replace p217 := eq_true p217; replace q217 := eq_true q217
        refine start_ (n := 25) (S := fun w' => w'.cell? ⟨Ag, 0, none⟩ = some (.int .i64 Ah) ∧ w'.cell? ⟨Ag, 1, none⟩ = some (.int .i64 Aj) ∧ w'.cell? ⟨Ag, 2, none⟩ = some (.int .i64 Ak) ∧ w'.cell? ⟨Ag, 3, none⟩ = some (.int .i64 Al) ∧ w'.cell? ⟨Ag, 4, none⟩ = some (.slice (some Ba) Af.length An) ∧ w'.cell? ⟨Ag, 5, none⟩ = some (.slice Au Aa.length Ao) ∧ w'.cell? (Ba.add (Ai).toNat) = some (.int .i64 (rd Af Ai))) (ds := []) (bL 25 0) (by kernel_rfl) rfl rfl ⟨(blk_cell Ac.out 0).trans rfl, (blk_cell Ac.out 1).trans rfl, (blk_cell Ac.out 2).trans rfl, (blk_cell Ac.out 3).trans rfl, (blk_cell Ac.out 4).trans rfl, (blk_cell Ac.out 5).trans rfl, ((HB.out.cell (World.block_lt_of_cell? w _ hw217_0)).trans hw217_0)⟩ (fun hHeld => ?_); refine with_tabW spec_PacketOk.tab6 spec_PacketOk.bits6 (fun HT_ HW_ => ?_)
        generalize wr.drew = w28 at Ac HB Aq hHeld ⊢
        refine pq_ 0 42 (bL 25 1) HT_.out rfl rfl ?_
        refine pq_ 2 44 (bL 25 5) HT_.out rfl rfl ?_
        refine take_ (i := 1) (N := some 43) (v := ?_) (a' := ?_) (bL 25 7) rfl rfl (take_ofW HT_.out HW_.out (by kernel_rfl)) (fun _ _ _ h => h) (Or.inl ⟨by rfl, ?_⟩) hHeld ?_ ?_; rotate_left; (rintro w' ⟨s0, s1, s2, s3, s4, s5, s6⟩; go_simp; with_reducible rfl); rotate_left; (exact put_q)
        refine pq_ 3 45 (bL 25 15) HT_.out rfl rfl ?_
        refine take_ (i := 4) (N := some 46) (v := ?_) (a' := ?_) (bL 25 31) rfl rfl (take_ofW HT_.out HW_.out (by kernel_rfl)) (fun _ _ _ h => h) (Or.inl ⟨by rfl, ?_⟩) hHeld ?_ ?_; rotate_left; (rintro w' ⟨s0, s1, s2, s3, s4, s5, s6⟩; go_simp; with_reducible rfl); rotate_left; (exact put_q)
        refine one_ (i := 5) (N := some 47) (bL 25 63) rfl rfl (one_of HT_.out (by kernel_rfl)) (by decide) (fun K hK => ?_)
        refine goes_ Try.func67 (by kernel_rfl) rfl #[.int .i64 (rd Af Ai), .int .i64 1, .int .i64 6] (by rfl) rfl rfl mp_q ?_
        with_reducible refine (spec_l01In.calls (rd Af Ai) 1 6 Jh _ A20.out).mono ?_
        rintro e w' ⟨rfl, ⟨nd, rfl⟩⟩
        refine ⟨_, rfl, ?_⟩
        refine hK.out _ _ ⟨(blk_cell Ac.out 0).trans rfl, (blk_cell Ac.out 1).trans rfl, (blk_cell Ac.out 2).trans rfl, (blk_cell Ac.out 3).trans rfl, (blk_cell Ac.out 4).trans rfl, (blk_cell Ac.out 5).trans rfl, ((HB.out.cell (World.block_lt_of_cell? w _ hw217_0)).trans hw217_0)⟩ (fun hHeld => ?_)
        clear hK K
        refine norm_ (a' := ?_) ?_ ?_; rotate_left; (show Act.put _ (some 47) _ = _; simp only [Act.put, List.setIfInBounds_toArray, List.set_cons_zero, List.set_cons_succ, i64_w, i32_w]; rfl)
        refine pq_ 6 48 (bL 25 127) HT_.out rfl rfl ?_
        refine pq_ 7 49 (bL 25 255) HT_.out rfl rfl ?_
        have H := HZ11.out; clear HZ11
        by_cases c21 : Jh = true
        ·subst c21; rw [if_pos rfl] at H; have HZ12 := ak H; clear H
         refine pq_ 8 50 (bL 25 511) HT_.out rfl rfl ?_
         refine pq_ 9 51 (bL 25 1023) HT_.out rfl rfl ?_
         refine pq_ 10 52 (bL 25 2047) HT_.out rfl rfl ?_
         have H := HZ12.out; clear HZ12
         by_cases c22 : Ai > 0
         ·rw [if_pos c22] at H
          have Ax : decide (0 < Ai) = true := decide_eq_true c22
          (first | rw [Ax] | (simp only [i64_w, i32_w]; first | rw [Ax]) | skip)
          clear c22; obtain ⟨ji23, hji23⟩ : ∃ j_ : Int, (wrap64 (Ai - 1)) = j_ := ⟨_, rfl⟩
          replace H : (if 0 ≤ (ji23) then (if (ji23) < (Af.length : Int) then (if (rd Af (ji23)) ≥ (rd Af Ai) then (some false) else (spec_PacketOk.l0 k2 (wrap64 (Ai + 1)) Ah Aj Ak Al Af Aa)) else (none)) else (none)) = some r := by first | (rw [hji23] at H; exact H) | (simp only [hji23] at H ⊢; exact H)
          (try rw [hji23] at A20)
          have hji23w : (IntKind.i64.wrap (Ai - 1)) = ji23 := (i64_w _).trans hji23
          by_cases c24 : 0 ≤ (ji23)
          ·rw [if_pos c24] at H
           have Lw : decide (0 ≤ (ji23)) = true := decide_eq_true c24
           clear c24
           by_cases c25 : (ji23) < (Af.length : Int)
           ·rw [if_pos c25] at H
            have Lx : decide ((ji23) < (Af.length : Int)) = true := decide_eq_true c25
            clear c25; have HZ13 := ak H; clear H
            have p219 : 0 ≤ ((ji23) : Int) := of_decide_eq_true as_q
            have q219 : (ji23) < (Af.length : Int) := of_decide_eq_true as_q
            obtain ⟨Jm, e219, Bp⟩ := Kd.at_int If.out (ji23) p219 q219; have hw219_0 := Bp
            obtain rfl : Ba = Jm := (by injection e219)
            replace Bp := hbc HB Bp; replace p219 := eq_true p219; replace q219 := eq_true q219
            refine last_weaken (fun w' => w'.cell? ⟨Ag, 0, none⟩ = some (.int .i64 Ah) ∧ w'.cell? ⟨Ag, 1, none⟩ = some (.int .i64 Aj) ∧ w'.cell? ⟨Ag, 2, none⟩ = some (.int .i64 Ak) ∧ w'.cell? ⟨Ag, 3, none⟩ = some (.int .i64 Al) ∧ w'.cell? ⟨Ag, 4, none⟩ = some (.slice (some Ba) Af.length An) ∧ w'.cell? ⟨Ag, 5, none⟩ = some (.slice Au Aa.length Ao) ∧ w'.cell? (Ba.add (Ai).toNat) = some (.int .i64 (rd Af Ai)) ∧ w'.cell? (Ba.add ((ji23)).toNat) = some (.int .i64 (rd Af (ji23)))) (fun w' h_ => ⟨h_.1, h_.2.1, h_.2.2.1, h_.2.2.2.1, h_.2.2.2.2.1, h_.2.2.2.2.2.1, h_.2.2.2.2.2.2.1⟩) ⟨hHeld.1, hHeld.2.1, hHeld.2.2.1, hHeld.2.2.2.1, hHeld.2.2.2.2.1, hHeld.2.2.2.2.2.1, hHeld.2.2.2.2.2.2, (by first | assumption | exact ((HB.out.cell (World.block_lt_of_cell? w _ hw219_0)).trans hw219_0))⟩ (fun hHeld => ?_)
            refine pq_ 11 53 (bL 25 4095) HT_.out rfl rfl ?_
            refine pq_ 13 55 (bL 25 12287) HT_.out rfl rfl ?_
            refine pq_ 14 56 (bL 25 28671) HT_.out rfl rfl ?_
            refine pq_ 17 59 (bL 25 159743) HT_.out rfl rfl ?_
            refine pq_ 19 61 (bL 25 684031) HT_.out rfl rfl ?_
            refine take_ (i := 12) (N := some 54) (v := ?_) (a' := ?_) (bL 25 688127) rfl rfl (take_ofW HT_.out HW_.out (by kernel_rfl)) (fun _ _ _ h => h) (Or.inl ⟨by rfl, ?_⟩) hHeld ?_ ?_; rotate_left; (rintro w' ⟨s0, s1, s2, s3, s4, s5, s6, s7⟩; go_simp; with_reducible rfl); rotate_left; (exact put_q)
            refine pq_ 15 57 (bL 25 720895) HT_.out rfl rfl ?_
            refine take_ (i := 16) (N := some 58) (v := ?_) (a' := ?_) (bL 25 786431) rfl rfl (take_ofW HT_.out HW_.out (by kernel_rfl)) (fun _ _ _ h => h) (Or.inl ⟨by rfl, ?_⟩) hHeld ?_ ?_; rotate_left; (rintro w' ⟨s0, s1, s2, s3, s4, s5, s6, s7⟩; go_simp; with_reducible rfl); rotate_left; (exact put_q)
            refine take_ (i := 18) (N := some 60) (v := ?_) (a' := ?_) (bL 25 1048575) rfl rfl (take_ofW HT_.out HW_.out (by kernel_rfl)) (fun _ _ _ h => h) (Or.inl ⟨by rfl, ?_⟩) hHeld ?_ ?_; rotate_left; (rintro w' ⟨s0, s1, s2, s3, s4, s5, s6, s7⟩; go_simp; with_reducible rfl); rotate_left; (exact put_q)
            refine pq_ 20 62 (bL 25 2097151) HT_.out rfl rfl ?_
            refine take_ (i := 21) (N := some 63) (v := ?_) (a' := ?_) (bL 25 4194303) rfl rfl (take_ofW HT_.out HW_.out (by kernel_rfl)) (fun _ _ _ h => h) (Or.inl ⟨by rfl, ?_⟩) hHeld ?_ ?_; rotate_left; (rintro w' ⟨s0, s1, s2, s3, s4, s5, s6, s7⟩; go_simp; with_reducible rfl); rotate_left; (exact put_q)
            refine pq_ 22 64 (bL 25 8388607) HT_.out rfl rfl ?_
            refine pq_ 23 65 (bL 25 16777215) HT_.out rfl rfl ?_
            refine pq_ 24 66 (bL 25 33554431) HT_.out rfl rfl ?_
            have H := HZ13.out; clear HZ13
            by_cases c26 : (rd Af (ji23)) ≥ (rd Af Ai)
            ·rw [if_pos c26] at H
             have Bd : decide ((rd Af Ai) ≤ (rd Af (ji23))) = true := decide_eq_true c26
             (first | rw [Bd] | (simp only [i64_w, i32_w]; first | rw [Bd]) | skip)
             clear c26; obtain rfl := Option.some.inj H
             refine done_ (done_of HT_.out (by kernel_rfl)) ?_
             try go_wp2
             go_ret
             exact ⟨by first | rfl | (simp [errW_none, errW_some] <;> rfl) | (simp only [← hji23]; first | rfl | (simp [errW_none, errW_some] <;> rfl)) | (simp [*, errW_none, errW_some] <;> rfl), bw_q HB⟩
            ·rw [if_neg c26] at H
             have Bd : decide ((rd Af Ai) ≤ (rd Af (ji23))) = false := decide_eq_false c26
             (first | rw [Bd] | (simp only [i64_w, i32_w]; first | rw [Bd]) | skip)
             clear c26; have H' := ak H; clear H
             refine done_ (done_of HT_.out (by kernel_rfl)) ?_
             try go_wp2
             go_roundg k2
             case measure => have := HJ1.out; have := Ap.out; omega
             case rel => exact ⟨(wrap64 (Ai + 1)), rs_q, H', ⟨by have := HJ1.out; have := Ap.out; omega⟩, ⟨bk_q Ac⟩, ⟨bw_q HB⟩⟩
           ·rw [if_neg c25] at H
            exact absurd H (by simp)
          ·rw [if_neg c24] at H
           exact absurd H (by simp)
         ·rw [if_neg c22] at H
          have Ax : decide (0 < Ai) = false := decide_eq_false c22
          (first | rw [Ax] | (simp only [i64_w, i32_w]; first | rw [Ax]) | skip)
          clear c22; have H' := ak H; clear H
          refine pu_ 11 53 (bL 25 4095) HT_.out rfl rfl ?_
          refine pu_ 12 54 (bL 25 8191) HT_.out rfl rfl ?_
          refine pu_ 13 55 (bL 25 16383) HT_.out rfl rfl ?_
          refine pu_ 14 56 (bL 25 32767) HT_.out rfl rfl ?_
          refine pu_ 15 57 (bL 25 65535) HT_.out rfl rfl ?_
          refine pu_ 16 58 (bL 25 131071) HT_.out rfl rfl ?_
          refine pu_ 17 59 (bL 25 262143) HT_.out rfl rfl ?_
          refine pu_ 18 60 (bL 25 524287) HT_.out rfl rfl ?_
          refine pu_ 19 61 (bL 25 1048575) HT_.out rfl rfl ?_
          refine pu_ 20 62 (bL 25 2097151) HT_.out rfl rfl ?_
          refine pu_ 21 63 (bL 25 4194303) HT_.out rfl rfl ?_
          refine pu_ 22 64 (bL 25 8388607) HT_.out rfl rfl ?_
          refine pq_ 23 65 (bL 25 16777215) HT_.out rfl rfl ?_
          refine pq_ 24 66 (bL 25 33554431) HT_.out rfl rfl ?_
          refine done_ (done_of HT_.out (by kernel_rfl)) ?_
          try go_wp2
          go_roundg k2
          case measure => have := HJ1.out; have := Ap.out; omega
          case rel => exact ⟨(wrap64 (Ai + 1)), rs_q, H', ⟨by have := HJ1.out; have := Ap.out; omega⟩, ⟨bk_q Ac⟩, ⟨bw_q HB⟩⟩
        ·replace c21 := Bool.eq_false_iff.mpr c21; subst c21
         rw [if_neg (show ¬ (false = true) by decide)] at H
         obtain rfl := Option.some.inj H
         refine pu_ 8 50 (bL 25 511) HT_.out rfl rfl ?_
         refine pu_ 9 51 (bL 25 1023) HT_.out rfl rfl ?_
         refine pu_ 10 52 (bL 25 2047) HT_.out rfl rfl ?_
         refine pu_ 11 53 (bL 25 4095) HT_.out rfl rfl ?_
         refine pu_ 12 54 (bL 25 8191) HT_.out rfl rfl ?_
         refine pu_ 13 55 (bL 25 16383) HT_.out rfl rfl ?_
         refine pu_ 14 56 (bL 25 32767) HT_.out rfl rfl ?_
         refine pu_ 15 57 (bL 25 65535) HT_.out rfl rfl ?_
         refine pu_ 16 58 (bL 25 131071) HT_.out rfl rfl ?_
         refine pu_ 17 59 (bL 25 262143) HT_.out rfl rfl ?_
         refine pu_ 18 60 (bL 25 524287) HT_.out rfl rfl ?_
         refine pu_ 19 61 (bL 25 1048575) HT_.out rfl rfl ?_
         refine pu_ 20 62 (bL 25 2097151) HT_.out rfl rfl ?_
         refine pu_ 21 63 (bL 25 4194303) HT_.out rfl rfl ?_
         refine pu_ 22 64 (bL 25 8388607) HT_.out rfl rfl ?_
         refine pu_ 23 65 (bL 25 16777215) HT_.out rfl rfl ?_
         refine pq_ 24 66 (bL 25 33554431) HT_.out rfl rfl ?_
         refine done_ (done_of HT_.out (by kernel_rfl)) ?_
         try go_wp2
         go_ret
         exact ⟨er_q, bw_q HB⟩
       ·rw [if_neg c19] at H
        exact absurd H (by simp)
      ·rw [if_neg c18] at H
       have Gs : decide (Ai < (Af.length : Int)) = false := decide_eq_false c18
       clear c18; have Gy := ak H; clear H; obtain ⟨Eb, Ec, Ed, Ee, Ef, Eg, Eh, Ei, Ej, Ek, El, Em⟩ := cf6_ Ac
       go_upto_region 8 with (fail)
       go_cut [92] (fun v92 wc => ∃ (kq : Nat) (Be : Bool), v92 = .bool Be ∧ Aside0 (spec_PacketOk.j2 kq Be Ah Aj Ak Al Af Aa = some r) ∧ Aside0 (kq ≤ k2) ∧ Aside0 (wc.heap[Ag]? = some (.cells #[.int .i64 Ah, .int .i64 Aj, .int .i64 Ak, .int .i64 Al, (.slice Ar Af.length An), (.slice Au Aa.length Ao)] 39 (0, 0))) ∧ Aside0 (Below w.heap.size w wc))
       case first =>
        have H := Gy.out; clear Gy
        by_cases c37 : Ah = 1
        ·rw [if_pos c37] at H
         have Ay : (Ah == 1) = true := bqi c37
         have Az : (Ah != 1) = false := bnf c37
         clear c37
         (first | rw [Ay] | rw [Az] | (simp only [i64_w, i32_w]; first | rw [Ay] | rw [Az]) | skip)
         by_cases c38 : (Aa.length : Int) > 0
         ·rw [if_pos c38] at H
          have Gt : decide (0 < (Aa.length : Int)) = true := decide_eq_true c38
          have Gu : decide (0 < Aa.length) = true := decide_eq_true (by omega)
          clear c38; have H' := ak H; clear H; obtain ⟨En, Eo, Ep, Eq, Er, Es, Et, Eu, Ev, Ew, Ex, Ey⟩ := cf6_ Ac
          go_wp2
          go_meet
          case rel => exact ⟨_, (true), rs_q, H', ⟨by have := HJ1.out; have := Ap.out; first | omega | exact Nat.le_refl _⟩, ⟨bk_q Ac⟩, ⟨bw_q HB⟩⟩
         ·rw [if_neg c38] at H
          have Gt : decide (0 < (Aa.length : Int)) = false := decide_eq_false c38
          have Gu : decide (0 < Aa.length) = false := decide_eq_false (by omega)
          clear c38; replace H := bsi H; obtain ⟨Ji, A400, H⟩ := H
          (try dsimp only at H)
          have A40 := ak A400; clear A400; have H' := ak H; clear H; obtain ⟨Ez, Fa, Fb, Fc, Fd, Fe, Ff, Fg, Fh, Fi, Fj, Fk⟩ := cf6_ Ac
          go_wp2_with (first | (go_at_call 72; (with_reducible refine (spec_StoreOk.calls k2 _ _ Aa Ji _ ?side1 ?side2 A40.out).mono ?_); (case side1 => exact cs_q (Kd.C_below Gr.out HB.out)); (case side2 => exact Ig.out); rintro e w42 ⟨rfl, hb⟩; replace Ac := ak (blk_below (g := Ag) (bk_q Ac) hb); replace HB := ak (below_step (bw_q HB) hb)))
          go_meet
          case rel => exact ⟨_, (!Ji), rs_q, H', ⟨by have := HJ1.out; have := Ap.out; first | omega | exact Nat.le_refl _⟩, ⟨bk_q Ac⟩, ⟨bw_q HB⟩⟩
        ·rw [if_neg c37] at H
         have Ay : (Ah == 1) = false := bqf c37
         have Az : (Ah != 1) = true := bni c37
         (first | rw [Ay] | rw [Az] | (simp only [i64_w, i32_w]; first | rw [Ay] | rw [Az]) | skip)
         by_cases c43 : (Af.length : Int) > 0
         ·rw [if_pos c43] at H
          have Gv : decide (0 < (Af.length : Int)) = true := decide_eq_true c43
          have Gw : decide (0 < Af.length) = true := decide_eq_true (by omega)
          clear c43; have H' := ak H; clear H; obtain ⟨Fl, Fm, Fn, Fo, Fp, Fq, Fr, Fs, Ft, Fu, Fv, Fw⟩ := cf6_ Ac
          go_wp2
          go_meet
          case rel => exact ⟨_, (true), rs_q, H', ⟨by have := HJ1.out; have := Ap.out; first | omega | exact Nat.le_refl _⟩, ⟨bk_q Ac⟩, ⟨bw_q HB⟩⟩
         ·rw [if_neg c43] at H
          have Gv : decide (0 < (Af.length : Int)) = false := decide_eq_false c43
          have Gw : decide (0 < Af.length) = false := decide_eq_false (by omega)
          clear c43; replace H := bsi H; obtain ⟨Jj, A450, H⟩ := H
          (try dsimp only at H)
          have A45 := ak A450; clear A450; have H' := ak H; clear H; obtain ⟨Fx, Fy, Fz, Ga, Gb, Gc, Gd, Ge, Gf, Gg, Gh, Gi⟩ := cf6_ Ac
          go_wp2_with (first | (go_at_call 72; (with_reducible refine (spec_StoreOk.calls k2 _ _ Aa Jj _ ?side1 ?side2 A45.out).mono ?_); (case side1 => exact cs_q (Kd.C_below Gr.out HB.out)); (case side2 => exact Ig.out); rintro e w47 ⟨rfl, hb⟩; replace Ac := ak (blk_below (g := Ag) (bk_q Ac) hb); replace HB := ak (below_step (bw_q HB) hb)))
          go_meet
          case rel => exact ⟨_, (!Jj), rs_q, H', ⟨by have := HJ1.out; have := Ap.out; first | omega | exact Nat.le_refl _⟩, ⟨bk_q Ac⟩, ⟨bw_q HB⟩⟩
       case rest =>
        clear Gy; (try clear c1); (try clear c2); (try clear p2); (try clear q2); (try clear hx2); (try clear c3); (try clear c4); (try clear c6); (try clear p6); (try clear c18); (try clear Gs); (try clear c19); (try clear c21); (try clear p21); (try clear q21); (try clear hx21); (try clear c22); (try clear Ax); (try clear c24); (try clear c25); (try clear c37); (try clear Ay); (try clear Az); (try clear c38); (try clear Gt); (try clear Gu); (try clear c43); (try clear Gv); (try clear Gw)
        try clear Ih Ii Ij Ik Il Im
        try clear In Io Ip Iq Ir Is
        try clear Eb Ec Ed Ee Ef Eg
        try clear En Eo Ep Eq Er Es
        try clear Ez Fa Fb Fc Fd Fe
        try clear Fl Fm Fn Fo Fp Fq
        try clear Fx Fy Fz Ga Gb Gc
        try clear It Iu Iv Iw Ix Iy
        try clear Iz Ja Jb Jc Jd Je
        try clear Eh Ei Ej Ek El Em
        try clear Et Eu Ev Ew Ex Ey
        try clear Ff Fg Fh Fi Fj Fk
        try clear Fr Fs Ft Fu Fv Fw
        try clear Gd Ge Gf Gg Gh Gi
        (try clear Aq); (try clear p217); (try clear q217); obtain ⟨kq, Be, rfl, HA, HJ34, Ac, HB⟩ := hcut
        cases kq with
        | zero => exact absurd HA.out (by simp [spec_PacketOk.j2])
        | succ kj34 =>
         have H := HA.out; clear HA
         simp only [spec_PacketOk.j2] at H
         by_cases c48 : Be = true
         ·subst c48; rw [if_pos rfl] at H; obtain rfl := Option.some.inj H
          go_wp2
          go_ret
          exact ⟨er_q, bw_q HB⟩
         ·replace c48 := Bool.eq_false_iff.mpr c48; subst c48
          rw [if_neg (show ¬ (false = true) by decide)] at H
          have H' := ak H; clear H
          go_wp2
          go_loopg [4] kj34 (fun kq v4 w' => ∃ (Ab : Int), v4 = .int .i64 Ab ∧ Aside0 (spec_PacketOk.l1 kq Ab Ah Aj Ak Al Af Aa = some r) ∧ Aside0 (kq ≤ kj34) ∧ Aside0 (w'.heap[Ag]? = some (.cells #[.int .i64 Ah, .int .i64 Aj, .int .i64 Ak, .int .i64 Al, (.slice Ar Af.length An), (.slice Au Aa.length Ao)] 39 (0, 0))) ∧ Aside0 (Below w.heap.size w w'))
          case atStart => exact ⟨(0), rs_q, H', ⟨Nat.le_refl _⟩, ⟨bk_q Ac⟩, ⟨bw_q HB⟩⟩
          case round =>
           clear H'; (try clear c1); (try clear c2); (try clear p2); (try clear q2); (try clear hx2); (try clear c3); (try clear c4); (try clear c6); (try clear p6); (try clear c18); (try clear Gs); (try clear c19); (try clear c21); (try clear p21); (try clear q21); (try clear hx21); (try clear c22); (try clear Ax); (try clear c24); (try clear c25); (try clear c37); (try clear Ay); (try clear Az); (try clear c38); (try clear Gt); (try clear Gu); (try clear c43); (try clear Gv); (try clear Gw); (try clear c48)
           try clear Ih Ii Ij Ik Il Im
           try clear In Io Ip Iq Ir Is
           try clear Eb Ec Ed Ee Ef Eg
           try clear En Eo Ep Eq Er Es
           try clear Ez Fa Fb Fc Fd Fe
           try clear Fl Fm Fn Fo Fp Fq
           try clear Fx Fy Fz Ga Gb Gc
           try clear It Iu Iv Iw Ix Iy
           try clear Iz Ja Jb Jc Jd Je
           try clear Eh Ei Ej Ek El Em
           try clear Et Eu Ev Ew Ex Ey
           try clear Ff Fg Fh Fi Fj Fk
           try clear Fr Fs Ft Fu Fv Fw
           try clear Gd Ge Gf Gg Gh Gi
           (try clear Aq); (try clear p2); (try clear p21); (try clear p217); (try clear p6); (try clear q2); (try clear q21); (try clear q217); obtain ⟨Ab, rfl, HA, Bq, Ac, HB⟩ := hrel
           cases gk with
           | zero => exact absurd HA.out (by simp [spec_PacketOk.l1])
           | succ k4 =>
            have H := HA.out; clear HA
            simp only [spec_PacketOk.l1] at H
            by_cases c49 : Ab < (Aa.length : Int)
            ·rw [if_pos c49] at H
             have Jn : decide (Ab < (Aa.length : Int)) = true := decide_eq_true c49
             clear c49
             by_cases c50 : 0 ≤ Ab
             ·rw [if_pos c50] at H
              have Ly : decide (0 ≤ Ab) = true := decide_eq_true c50
              clear c50; have HZ14 := ak H; clear H; obtain ⟨Kq, Kr, Ks, Kt, Ku, Kv, Kw, Kx, Ky, Kz, La, Lb⟩ := cf6_ Ac
              have p222 : 0 ≤ (Ab : Int) := of_decide_eq_true as_q
              have q222 : Ab < (Aa.length : Int) := of_decide_eq_true as_q
              obtain ⟨Bs, A222_5, c222_5, e222, Gj, Gk, Gl, Gm, Gn, Go, Gp, Gq, hl222_5, hi222_5⟩ := at_T24 Gr.out Ab p222 q222
              cases e222
              replace Gj := hbc HB Gj; replace Gk := hbc HB Gk; replace Gl := hbc HB Gl; replace Gm := hbc HB Gm; replace Gn := hbc HB Gn; replace Go := hbc HB Go; replace Gp := hbc HB Gp; replace Gq := hbc HB Gq; have Bb := ak hi222_5; have Bc := ak hl222_5; clear hi222_5 hl222_5; replace p222 := eq_true p222; replace q222 := eq_true q222
              try go_wp2_with (first | ((with_reducible refine gate_dst (N := 5) rfl ?_); (try (refine gate_guard (by rfl) ?_; dsimp only)); refine box_q 5 #[.int .i64 0, .int .i64 0, .int .i64 0, .int .i64 0, .int .i64 0, .slice none 0 0, .int .i64 0, .bool false] 24 ?_; intro Ae hg w58 hbox hb; have Ad := ak (hbox); have Lz := gsz w (below_size (bw_q HB)) hg; have Ma := gsz w (below_size (bw_q HB)) hg; replace HB := ak (below_step (bw_q HB) hb); have Am := ak ((by rw [hg]; exact Nat.ne_of_lt (blk_lt (g := Ag) (o := .cells #[.int .i64 Ah, .int .i64 Aj, .int .i64 Ak, .int .i64 Al, .slice Ar Af.length An, .slice (some Bs) Aa.length Ao] 39 (0, 0)) (bk_q Ac)) : Ag ≠ Ae)); have Gx := ak ((by rw [hg]; exact Nat.ne_of_gt (blk_lt (g := Ag) (o := .cells #[.int .i64 Ah, .int .i64 Aj, .int .i64 Ak, .int .i64 Al, .slice Ar Af.length An, .slice (some Bs) Aa.length Ao] 39 (0, 0)) (bk_q Ac)) : Ae ≠ Ag)); replace Ac := ak (blk_below (g := Ag) (bk_q Ac) hb); clear hb hbox hg; have Mb := Gx.out; have Mc := Am.out; obtain ⟨Lc, Ld, Le, Lf, Lg, Lh, Li, Lj, Lk, Ll, Lm, Ln, Lo, Lp, Lq, Lr⟩ := cf8_ Ad))
              have n0_ : Aside0 (((((((((w58.setCell ⟨Ae, 0, none⟩ (.int .i64 ((rd_T24 Aa Ab).f0))).setCell ⟨Ae, 1, none⟩ (.int .i64 ((rd_T24 Aa Ab).f1))).setCell ⟨Ae, 2, none⟩ (.int .i64 ((rd_T24 Aa Ab).f2))).setCell ⟨Ae, 3, none⟩ (.int .i64 ((rd_T24 Aa Ab).f3))).setCell ⟨Ae, 4, none⟩ (.int .i64 ((rd_T24 Aa Ab).f4))).setCell ⟨Ae, 5, none⟩ (.slice A222_5 ((rd_T24 Aa Ab).f5).length c222_5)).setCell ⟨Ae, 6, none⟩ (.int .i64 ((rd_T24 Aa Ab).f6))).setCell ⟨Ae, 7, none⟩ (.bool ((rd_T24 Aa Ab).f7))).heap[Ag]? = some (.cells #[.int .i64 Ah, .int .i64 Aj, .int .i64 Ak, .int .i64 Al, .slice Ar Af.length An, .slice (some Bs) Aa.length Ao] 39 (0, 0))) := ⟨by refine bz_ ?_; refine blk_far ?_ Am.out _; refine bz_ ?_; refine blk_far ?_ Am.out _; refine bz_ ?_; refine blk_far ?_ Am.out _; refine bz_ ?_; refine blk_far ?_ Am.out _; refine bz_ ?_; refine blk_far ?_ Am.out _; refine bz_ ?_; refine blk_far ?_ Am.out _; refine bz_ ?_; refine blk_far ?_ Am.out _; refine bz_ ?_; refine blk_far ?_ Am.out _; refine bz_ ?_; exact Ac.out⟩
              have n1_ : Aside0 (((((((((w58.setCell ⟨Ae, 0, none⟩ (.int .i64 ((rd_T24 Aa Ab).f0))).setCell ⟨Ae, 1, none⟩ (.int .i64 ((rd_T24 Aa Ab).f1))).setCell ⟨Ae, 2, none⟩ (.int .i64 ((rd_T24 Aa Ab).f2))).setCell ⟨Ae, 3, none⟩ (.int .i64 ((rd_T24 Aa Ab).f3))).setCell ⟨Ae, 4, none⟩ (.int .i64 ((rd_T24 Aa Ab).f4))).setCell ⟨Ae, 5, none⟩ (.slice A222_5 ((rd_T24 Aa Ab).f5).length c222_5)).setCell ⟨Ae, 6, none⟩ (.int .i64 ((rd_T24 Aa Ab).f6))).setCell ⟨Ae, 7, none⟩ (.bool ((rd_T24 Aa Ab).f7))).heap[Ae]? = some (.cells #[.int .i64 ((rd_T24 Aa Ab).f0), .int .i64 ((rd_T24 Aa Ab).f1), .int .i64 ((rd_T24 Aa Ab).f2), .int .i64 ((rd_T24 Aa Ab).f3), .int .i64 ((rd_T24 Aa Ab).f4), .slice A222_5 ((rd_T24 Aa Ab).f5).length c222_5, .int .i64 ((rd_T24 Aa Ab).f6), .bool ((rd_T24 Aa Ab).f7)] 24 (0, 0))) := ⟨by refine bz_ ?_; refine blk_put (cs := #[.int .i64 ((rd_T24 Aa Ab).f0), .int .i64 ((rd_T24 Aa Ab).f1), .int .i64 ((rd_T24 Aa Ab).f2), .int .i64 ((rd_T24 Aa Ab).f3), .int .i64 ((rd_T24 Aa Ab).f4), .slice A222_5 ((rd_T24 Aa Ab).f5).length c222_5, .int .i64 ((rd_T24 Aa Ab).f6), .bool false]) ?_ 7 _ rfl; refine bz_ ?_; refine blk_put (cs := #[.int .i64 ((rd_T24 Aa Ab).f0), .int .i64 ((rd_T24 Aa Ab).f1), .int .i64 ((rd_T24 Aa Ab).f2), .int .i64 ((rd_T24 Aa Ab).f3), .int .i64 ((rd_T24 Aa Ab).f4), .slice A222_5 ((rd_T24 Aa Ab).f5).length c222_5, .int .i64 0, .bool false]) ?_ 6 _ rfl; refine bz_ ?_; refine blk_put (cs := #[.int .i64 ((rd_T24 Aa Ab).f0), .int .i64 ((rd_T24 Aa Ab).f1), .int .i64 ((rd_T24 Aa Ab).f2), .int .i64 ((rd_T24 Aa Ab).f3), .int .i64 ((rd_T24 Aa Ab).f4), .slice none 0 0, .int .i64 0, .bool false]) ?_ 5 _ rfl; refine bz_ ?_; refine blk_put (cs := #[.int .i64 ((rd_T24 Aa Ab).f0), .int .i64 ((rd_T24 Aa Ab).f1), .int .i64 ((rd_T24 Aa Ab).f2), .int .i64 ((rd_T24 Aa Ab).f3), .int .i64 0, .slice none 0 0, .int .i64 0, .bool false]) ?_ 4 _ rfl; refine bz_ ?_; refine blk_put (cs := #[.int .i64 ((rd_T24 Aa Ab).f0), .int .i64 ((rd_T24 Aa Ab).f1), .int .i64 ((rd_T24 Aa Ab).f2), .int .i64 0, .int .i64 0, .slice none 0 0, .int .i64 0, .bool false]) ?_ 3 _ rfl; refine bz_ ?_; refine blk_put (cs := #[.int .i64 ((rd_T24 Aa Ab).f0), .int .i64 ((rd_T24 Aa Ab).f1), .int .i64 0, .int .i64 0, .int .i64 0, .slice none 0 0, .int .i64 0, .bool false]) ?_ 2 _ rfl; refine bz_ ?_; refine blk_put (cs := #[.int .i64 ((rd_T24 Aa Ab).f0), .int .i64 0, .int .i64 0, .int .i64 0, .int .i64 0, .slice none 0 0, .int .i64 0, .bool false]) ?_ 1 _ rfl; refine bz_ ?_; refine blk_put (cs := #[.int .i64 0, .int .i64 0, .int .i64 0, .int .i64 0, .int .i64 0, .slice none 0 0, .int .i64 0, .bool false]) ?_ 0 _ rfl; refine bz_ ?_; exact Ad.out⟩
              have n2_ : Aside0 (Below w.heap.size w ((((((((w58.setCell ⟨Ae, 0, none⟩ (.int .i64 ((rd_T24 Aa Ab).f0))).setCell ⟨Ae, 1, none⟩ (.int .i64 ((rd_T24 Aa Ab).f1))).setCell ⟨Ae, 2, none⟩ (.int .i64 ((rd_T24 Aa Ab).f2))).setCell ⟨Ae, 3, none⟩ (.int .i64 ((rd_T24 Aa Ab).f3))).setCell ⟨Ae, 4, none⟩ (.int .i64 ((rd_T24 Aa Ab).f4))).setCell ⟨Ae, 5, none⟩ (.slice A222_5 ((rd_T24 Aa Ab).f5).length c222_5)).setCell ⟨Ae, 6, none⟩ (.int .i64 ((rd_T24 Aa Ab).f6))).setCell ⟨Ae, 7, none⟩ (.bool ((rd_T24 Aa Ab).f7)))) := ⟨bw_q HB⟩
              (try clear Ac); (try clear Ad); (try clear HB)
              generalize ((((((((w58.setCell ⟨Ae, 0, none⟩ (.int .i64 ((rd_T24 Aa Ab).f0))).setCell ⟨Ae, 1, none⟩ (.int .i64 ((rd_T24 Aa Ab).f1))).setCell ⟨Ae, 2, none⟩ (.int .i64 ((rd_T24 Aa Ab).f2))).setCell ⟨Ae, 3, none⟩ (.int .i64 ((rd_T24 Aa Ab).f3))).setCell ⟨Ae, 4, none⟩ (.int .i64 ((rd_T24 Aa Ab).f4))).setCell ⟨Ae, 5, none⟩ (.slice A222_5 ((rd_T24 Aa Ab).f5).length c222_5)).setCell ⟨Ae, 6, none⟩ (.int .i64 ((rd_T24 Aa Ab).f6))).setCell ⟨Ae, 7, none⟩ (.bool ((rd_T24 Aa Ab).f7))) = w61 at n0_ n1_ n2_ ⊢
              have Ac := n0_; have Ad := n1_; have HB := n2_; clear n0_ n1_ n2_; replace Ac := ak (blk_drew Ac.out); replace Ad := ak (blk_drew Ad.out); replace HB := ak (below_drew1 HB.out)
              refine start_ (n := 23) (S := fun w' => w'.cell? ⟨Ae, 0, none⟩ = some (.int .i64 ((rd_T24 Aa Ab).f0)) ∧ w'.cell? ⟨Ae, 1, none⟩ = some (.int .i64 ((rd_T24 Aa Ab).f1)) ∧ w'.cell? ⟨Ae, 2, none⟩ = some (.int .i64 ((rd_T24 Aa Ab).f2)) ∧ w'.cell? ⟨Ae, 3, none⟩ = some (.int .i64 ((rd_T24 Aa Ab).f3)) ∧ w'.cell? ⟨Ae, 4, none⟩ = some (.int .i64 ((rd_T24 Aa Ab).f4)) ∧ w'.cell? ⟨Ae, 5, none⟩ = some (.slice A222_5 ((rd_T24 Aa Ab).f5).length c222_5) ∧ w'.cell? ⟨Ae, 6, none⟩ = some (.int .i64 ((rd_T24 Aa Ab).f6)) ∧ w'.cell? ⟨Ae, 7, none⟩ = some (.bool ((rd_T24 Aa Ab).f7)) ∧ w'.cell? ⟨Ag, 0, none⟩ = some (.int .i64 Ah) ∧ w'.cell? ⟨Ag, 1, none⟩ = some (.int .i64 Aj) ∧ w'.cell? ⟨Ag, 2, none⟩ = some (.int .i64 Ak) ∧ w'.cell? ⟨Ag, 3, none⟩ = some (.int .i64 Al) ∧ w'.cell? ⟨Ag, 4, none⟩ = some (.slice Ar Af.length An) ∧ w'.cell? ⟨Ag, 5, none⟩ = some (.slice (some Bs) Aa.length Ao)) (ds := []) (bL 23 0) (by kernel_rfl) rfl rfl ⟨(blk_cell Ad.out 0).trans rfl, (blk_cell Ad.out 1).trans rfl, (blk_cell Ad.out 2).trans rfl, (blk_cell Ad.out 3).trans rfl, (blk_cell Ad.out 4).trans rfl, (blk_cell Ad.out 5).trans rfl, (blk_cell Ad.out 6).trans rfl, (blk_cell Ad.out 7).trans rfl, (blk_cell Ac.out 0).trans rfl, (blk_cell Ac.out 1).trans rfl, (blk_cell Ac.out 2).trans rfl, (blk_cell Ac.out 3).trans rfl, (blk_cell Ac.out 4).trans rfl, (blk_cell Ac.out 5).trans rfl⟩ (fun hHeld => ?_); refine with_tabW spec_PacketOk.tab14 spec_PacketOk.bits14 (fun HT_ HW_ => ?_)
              generalize w61.drew = w62 at Ac Ad HB hHeld ⊢
              refine pq_ 0 105 (bL 23 1) HT_.out rfl rfl ?_
              refine pq_ 2 107 (bL 23 5) HT_.out rfl rfl ?_
              refine take_ (i := 1) (N := some 106) (v := ?_) (a' := ?_) (bL 23 7) rfl rfl (take_ofW HT_.out HW_.out (by kernel_rfl)) (fun _ _ _ h => h) (Or.inl ⟨by rfl, ?_⟩) hHeld ?_ ?_; rotate_left; (rintro w' ⟨s0, s1, s2, s3, s4, s5, s6, s7, s8, s9, s10, s11, s12, s13⟩; go_simp; with_reducible rfl); rotate_left; (exact put_q)
              refine take_ (i := 3) (N := some 108) (v := ?_) (a' := ?_) (bL 23 15) rfl rfl (take_ofW HT_.out HW_.out (by kernel_rfl)) (fun _ _ _ h => h) (Or.inl ⟨by rfl, ?_⟩) hHeld ?_ ?_; rotate_left; (rintro w' ⟨s0, s1, s2, s3, s4, s5, s6, s7, s8, s9, s10, s11, s12, s13⟩; go_simp; with_reducible rfl); rotate_left; (exact put_q)
              refine pq_ 4 109 (bL 23 31) HT_.out rfl rfl ?_
              refine pq_ 5 110 (bL 23 63) HT_.out rfl rfl ?_
              have H := HZ14.out; clear HZ14
              by_cases c51 : ((rd_T24 Aa Ab).f0) = Al
              ·rw [if_pos c51] at H
               have Bf : (((rd_T24 Aa Ab).f0) == Al) = true := bqi c51
               have Bg : (((rd_T24 Aa Ab).f0) != Al) = false := bnf c51
               (first | rw [Bf] | rw [Bg] | (simp only [i64_w, i32_w]; first | rw [Bf] | rw [Bg]) | skip)
               clear c51; have HZ15 := ak H; clear H
               refine pu_ 6 111 (bL 23 127) HT_.out rfl rfl ?_
               refine pu_ 7 112 (bL 23 255) HT_.out rfl rfl ?_
               refine pu_ 8 113 (bL 23 511) HT_.out rfl rfl ?_
               refine pq_ 9 114 (bL 23 1023) HT_.out rfl rfl ?_
               refine pq_ 10 115 (bL 23 2047) HT_.out rfl rfl ?_
               refine pq_ 11 116 (bL 23 4095) HT_.out rfl rfl ?_
               refine take_ (i := 12) (N := some 117) (v := ?_) (a' := ?_) (bL 23 8191) rfl rfl (take_ofW HT_.out HW_.out (by kernel_rfl)) (fun _ _ _ h => h) (Or.inl ⟨by rfl, ?_⟩) hHeld ?_ ?_; rotate_left; (rintro w' ⟨s0, s1, s2, s3, s4, s5, s6, s7, s8, s9, s10, s11, s12, s13⟩; go_simp; with_reducible rfl); rotate_left; (exact put_q)
               refine pq_ 13 118 (bL 23 16383) HT_.out rfl rfl ?_
               refine pq_ 14 119 (bL 23 32767) HT_.out rfl rfl ?_
               have H := HZ15.out; clear HZ15
               by_cases c52 : Ah = 2
               ·rw [if_pos c52] at H
                have Bh : (Ah == 2) = true := bqi c52
                have Bi : (Ah != 2) = false := bnf c52
                (first | rw [Bh] | rw [Bi] | (simp only [i64_w, i32_w]; first | rw [Bh] | rw [Bi]) | skip)
                clear c52; replace H := bsi H; obtain ⟨⟨Gz, Ha, Hb, Hc, Hd, He, Hf, Hg⟩, A530, H⟩ := H
                (try dsimp only at H)
                have A53 := ak A530; clear A530; replace H := bsi H; obtain ⟨⟨Hh, Hi, Hj, Hk, Hl, Hm, Hn, Ho⟩, A540, H⟩ := H
                (try dsimp only at H)
                have A54 := ak A540; clear A540; replace H := bsi H; obtain ⟨Jk, A550, H⟩ := H
                (try dsimp only at H)
                have A55 := ak A550; clear A550; have HZ16 := ak H; clear H
                refine take_ (i := 15) (N := some 120) (v := ?_) (a' := ?_) (bL 23 65535) rfl rfl (take_ofW HT_.out HW_.out (by kernel_rfl)) (fun _ _ _ h => h) (Or.inl ⟨by rfl, ?_⟩) hHeld ?_ ?_; rotate_left; (rintro w' ⟨s0, s1, s2, s3, s4, s5, s6, s7, s8, s9, s10, s11, s12, s13⟩; go_simp; with_reducible rfl); rotate_left; (exact put_q)
                refine take_ (i := 18) (N := some 123) (v := ?_) (a' := ?_) (bL 23 327679) rfl rfl (take_ofW HT_.out HW_.out (by kernel_rfl)) (fun _ _ _ h => h) (Or.inl ⟨by rfl, ?_⟩) hHeld ?_ ?_; rotate_left; (rintro w' ⟨s0, s1, s2, s3, s4, s5, s6, s7, s8, s9, s10, s11, s12, s13⟩; go_simp; with_reducible rfl); rotate_left; (exact put_q)
                refine one_ (i := 16) (N := some 121) (bL 23 393215) rfl rfl (one_of HT_.out (by kernel_rfl)) (by decide) (fun K hK => ?_)
                refine goes_ Try.func75 (by kernel_rfl) rfl #[.agg #[.int .i64 ((rd_T24 Aa Ab).f0), .int .i64 ((rd_T24 Aa Ab).f1), .int .i64 ((rd_T24 Aa Ab).f2), .int .i64 ((rd_T24 Aa Ab).f3), .int .i64 ((rd_T24 Aa Ab).f4), .slice A222_5 ((rd_T24 Aa Ab).f5).length c222_5, .int .i64 ((rd_T24 Aa Ab).f6), .bool ((rd_T24 Aa Ab).f7)]] (by rfl) rfl rfl mp_q ?_
                with_reducible refine (spec_l04Copy.calls ((rd_T24 Aa Ab).f0) ((rd_T24 Aa Ab).f1) ((rd_T24 Aa Ab).f2) ((rd_T24 Aa Ab).f3) ((rd_T24 Aa Ab).f4) _ _ ((rd_T24 Aa Ab).f5) ((rd_T24 Aa Ab).f6) ((rd_T24 Aa Ab).f7) Gz Ha Hb Hc Hd He Hf Hg _ ?side1 ?side2 A53.out).mono ?_
                (case side1 => exact cs_q (Kd.C_below Bb.out HB.out))
                (case side2 => exact Bc.out)
                rintro e w63 ⟨v230, rfl, ho0, hb⟩
                refine ⟨_, rfl, ?_⟩
                have hs_v230 : (v230 : Value).oneCell' = true := (by first | (have h_ := Kd.R_slice ho0; obtain ⟨A_, c_, e_⟩ := h_; simp [e_, Value.oneCell']) | (have h_ := Kd.S_slice ho0; obtain ⟨A_, c_, e_⟩ := h_; simp [e_, Value.oneCell']) | (have h_ := Kd.N_slice ho0; obtain ⟨A_, c_, e_⟩ := h_; simp [e_, Value.oneCell']) | (have h_ := Kd.V_slice ho0; obtain ⟨A_, c_, e_⟩ := h_; simp [e_, Value.oneCell']))
                have hst_v230 := fun (w_ : World) (a_ : Addr) m_ => run_store Try.prog w_ a_ v230 m_ hs_v230
                have As := ak (Kd.R_lower ho0 (below_size (bw_q HB))); replace Ac := ak (blk_below (g := Ag) (bk_q Ac) hb); replace Ad := ak (blk_below (g := Ae) (bk_q Ad) hb); replace HB := ak (below_step (bw_q HB) hb); (try clear ho0); obtain ⟨Ao64, co64, eo64⟩ := Kd.R_slice As.out
                (first | subst eo64 | (injection eo64 with f1_ f2_ f3_; have f4_ := f1_.symm; have f5_ := f3_.symm; clear f1_ f2_ f3_; subst f4_; subst f5_))
                refine hK.out _ _ ⟨(blk_cell Ad.out 0).trans rfl, (blk_cell Ad.out 1).trans rfl, (blk_cell Ad.out 2).trans rfl, (blk_cell Ad.out 3).trans rfl, (blk_cell Ad.out 4).trans rfl, (blk_cell Ad.out 5).trans rfl, (blk_cell Ad.out 6).trans rfl, (blk_cell Ad.out 7).trans rfl, (blk_cell Ac.out 0).trans rfl, (blk_cell Ac.out 1).trans rfl, (blk_cell Ac.out 2).trans rfl, (blk_cell Ac.out 3).trans rfl, (blk_cell Ac.out 4).trans rfl, (blk_cell Ac.out 5).trans rfl⟩ (fun hHeld => ?_)
                clear hK K
                refine norm_ (a' := ?_) ?_ ?_; rotate_left; (show Act.put _ (some 121) _ = _; simp only [Act.put, List.setIfInBounds_toArray, List.set_cons_zero, List.set_cons_succ, i64_w, i32_w]; rfl)
                refine one_ (i := 17) (N := some 122) (bL 23 524287) rfl rfl (one_of HT_.out (by kernel_rfl)) (by decide) (fun K hK => ?_)
                refine goes_ Try.func74 (by kernel_rfl) rfl #[.agg #[.int .i64 Gz, .int .i64 Ha, .int .i64 Hb, .int .i64 Hc, .int .i64 Hd, .slice Ao64 He.length co64, .int .i64 Hf, .bool Hg]] (by rfl) rfl rfl mp_q ?_
                with_reducible refine (spec_l09Head.calls Gz Ha Hb Hc Hd _ _ He Hf Hg Hh Hi Hj Hk Hl Hm Hn Ho _ ?side1 ?side2 A54.out).mono ?_
                (case side1 => repeat (first | exact (Kd.R_reads' As.out).2.2 | (with_reducible refine Kd.C_alloc ?_ _) | (with_reducible refine Kd.C_drewN ?_ _) | (with_reducible refine Kd.C_drew ?_)))
                (case side2 => exact (Kd.R_reads' As.out).2.1)
                rintro e w65 ⟨v240, rfl, ho0, hb⟩
                refine ⟨_, rfl, ?_⟩
                have hs_v240 : (v240 : Value).oneCell' = true := (by first | (have h_ := Kd.R_slice ho0; obtain ⟨A_, c_, e_⟩ := h_; simp [e_, Value.oneCell']) | (have h_ := Kd.S_slice ho0; obtain ⟨A_, c_, e_⟩ := h_; simp [e_, Value.oneCell']) | (have h_ := Kd.N_slice ho0; obtain ⟨A_, c_, e_⟩ := h_; simp [e_, Value.oneCell']) | (have h_ := Kd.V_slice ho0; obtain ⟨A_, c_, e_⟩ := h_; simp [e_, Value.oneCell']))
                have hst_v240 := fun (w_ : World) (a_ : Addr) m_ => run_store Try.prog w_ a_ v240 m_ hs_v240
                have Bj := ak (Kd.R_lower (Kd.R_new' ho0 (Kd.R_lt (kR_q As))) (below_size (bw_q HB))); replace As := ak (Kd.R_elder' (kR_q As) (Kd.R_base ho0) hb); replace Ac := ak (blk_below (g := Ag) (bk_q Ac) hb); replace Ad := ak (blk_below (g := Ae) (bk_q Ad) hb); replace HB := ak (below_step (bw_q HB) hb); (try clear ho0); obtain ⟨Ao66, co66, eo66⟩ := Kd.R_slice Bj.out
                (first | subst eo66 | (injection eo66 with f1_ f2_ f3_; have f4_ := f1_.symm; have f5_ := f3_.symm; clear f1_ f2_ f3_; subst f4_; subst f5_))
                refine hK.out _ _ ⟨(blk_cell Ad.out 0).trans rfl, (blk_cell Ad.out 1).trans rfl, (blk_cell Ad.out 2).trans rfl, (blk_cell Ad.out 3).trans rfl, (blk_cell Ad.out 4).trans rfl, (blk_cell Ad.out 5).trans rfl, (blk_cell Ad.out 6).trans rfl, (blk_cell Ad.out 7).trans rfl, (blk_cell Ac.out 0).trans rfl, (blk_cell Ac.out 1).trans rfl, (blk_cell Ac.out 2).trans rfl, (blk_cell Ac.out 3).trans rfl, (blk_cell Ac.out 4).trans rfl, (blk_cell Ac.out 5).trans rfl⟩ (fun hHeld => ?_)
                clear hK K
                refine norm_ (a' := ?_) ?_ ?_; rotate_left; (show Act.put _ (some 122) _ = _; simp only [Act.put, List.setIfInBounds_toArray, List.set_cons_zero, List.set_cons_succ, i64_w, i32_w]; rfl)
                refine one_ (i := 19) (N := some 124) (bL 23 1048575) rfl rfl (one_of HT_.out (by kernel_rfl)) (by decide) (fun K hK => ?_)
                refine goes_ Try.func73 (by kernel_rfl) rfl #[.agg #[.int .i64 Hh, .int .i64 Hi, .int .i64 Hj, .int .i64 Hk, .int .i64 Hl, .slice Ao66 Hm.length co66, .int .i64 Hn, .bool Ho], .agg #[.int .i64 ((rd_T24 Aa Ab).f0), .int .i64 ((rd_T24 Aa Ab).f1), .int .i64 ((rd_T24 Aa Ab).f2), .int .i64 ((rd_T24 Aa Ab).f3), .int .i64 ((rd_T24 Aa Ab).f4), .slice A222_5 ((rd_T24 Aa Ab).f5).length c222_5, .int .i64 ((rd_T24 Aa Ab).f6), .bool ((rd_T24 Aa Ab).f7)]] (by rfl) rfl rfl mp_q ?_
                with_reducible refine (spec_SameBody.calls k4 Hh Hi Hj Hk Hl _ _ Hm Hn Ho ((rd_T24 Aa Ab).f0) ((rd_T24 Aa Ab).f1) ((rd_T24 Aa Ab).f2) ((rd_T24 Aa Ab).f3) ((rd_T24 Aa Ab).f4) _ _ ((rd_T24 Aa Ab).f5) ((rd_T24 Aa Ab).f6) ((rd_T24 Aa Ab).f7) Jk _ ?side1 ?side2 ?side3 ?side4 A55.out).mono ?_
                (case side1 => repeat (first | exact (Kd.R_reads' Bj.out).2.2 | (with_reducible refine Kd.C_alloc ?_ _) | (with_reducible refine Kd.C_drewN ?_ _) | (with_reducible refine Kd.C_drew ?_)))
                (case side2 => exact (Kd.R_reads' Bj.out).2.1)
                (case side3 => exact cs_q (Kd.C_below Bb.out HB.out))
                (case side4 => exact Bc.out)
                rintro e w67 ⟨rfl, hb⟩
                refine ⟨_, rfl, ?_⟩
                replace As := ak (Kd.R_below (kR_q As) hb); replace Bj := ak (Kd.R_below (kR_q Bj) hb); replace Ac := ak (blk_below (g := Ag) (bk_q Ac) hb); replace Ad := ak (blk_below (g := Ae) (bk_q Ad) hb); replace HB := ak (below_step (bw_q HB) hb)
                refine hK.out _ _ ⟨(blk_cell Ad.out 0).trans rfl, (blk_cell Ad.out 1).trans rfl, (blk_cell Ad.out 2).trans rfl, (blk_cell Ad.out 3).trans rfl, (blk_cell Ad.out 4).trans rfl, (blk_cell Ad.out 5).trans rfl, (blk_cell Ad.out 6).trans rfl, (blk_cell Ad.out 7).trans rfl, (blk_cell Ac.out 0).trans rfl, (blk_cell Ac.out 1).trans rfl, (blk_cell Ac.out 2).trans rfl, (blk_cell Ac.out 3).trans rfl, (blk_cell Ac.out 4).trans rfl, (blk_cell Ac.out 5).trans rfl⟩ (fun hHeld => ?_)
                clear hK K
                refine norm_ (a' := ?_) ?_ ?_; rotate_left; (show Act.put _ (some 124) _ = _; simp only [Act.put, List.setIfInBounds_toArray, List.set_cons_zero, List.set_cons_succ, i64_w, i32_w]; rfl)
                refine pq_ 20 125 (bL 23 2097151) HT_.out rfl rfl ?_
                refine pq_ 21 126 (bL 23 4194303) HT_.out rfl rfl ?_
                refine pq_ 22 127 (bL 23 8388607) HT_.out rfl rfl ?_
                have H := HZ16.out; clear HZ16
                by_cases c56 : Jk = true
                ·subst c56; rw [if_pos rfl] at H; have H' := ak H; clear H
                 refine done_ (done_of HT_.out (by kernel_rfl)) ?_
                 try go_wp2
                 go_roundg k4
                 case measure => have := HJ1.out; have := Ap.out; have := HJ34.out; have := Bq.out; omega
                 case rel => exact ⟨(wrap64 (Ab + 1)), rs_q, H', ⟨by have := HJ1.out; have := Ap.out; have := HJ34.out; have := Bq.out; omega⟩, ⟨bk_q Ac⟩, ⟨bw_q HB⟩⟩
                ·replace c56 := Bool.eq_false_iff.mpr c56; subst c56
                 rw [if_neg (show ¬ (false = true) by decide)] at H
                 obtain rfl := Option.some.inj H
                 refine done_ (done_of HT_.out (by kernel_rfl)) ?_
                 try go_wp2
                 go_ret
                 exact ⟨er_q, bw_q HB⟩
               ·rw [if_neg c52] at H
                have Bh : (Ah == 2) = false := bqf c52
                have Bi : (Ah != 2) = true := bni c52
                (first | rw [Bh] | rw [Bi] | (simp only [i64_w, i32_w]; first | rw [Bh] | rw [Bi]) | skip)
                have H' := ak H; clear H
                refine pu_ 15 120 (bL 23 65535) HT_.out rfl rfl ?_
                refine pu_ 16 121 (bL 23 131071) HT_.out rfl rfl ?_
                refine pu_ 17 122 (bL 23 262143) HT_.out rfl rfl ?_
                refine pu_ 18 123 (bL 23 524287) HT_.out rfl rfl ?_
                refine pu_ 19 124 (bL 23 1048575) HT_.out rfl rfl ?_
                refine pu_ 20 125 (bL 23 2097151) HT_.out rfl rfl ?_
                refine pq_ 21 126 (bL 23 4194303) HT_.out rfl rfl ?_
                refine pq_ 22 127 (bL 23 8388607) HT_.out rfl rfl ?_
                refine done_ (done_of HT_.out (by kernel_rfl)) ?_
                try go_wp2
                go_roundg k4
                case measure => have := HJ1.out; have := Ap.out; have := HJ34.out; have := Bq.out; omega
                case rel => exact ⟨(wrap64 (Ab + 1)), rs_q, H', ⟨by have := HJ1.out; have := Ap.out; have := HJ34.out; have := Bq.out; omega⟩, ⟨bk_q Ac⟩, ⟨bw_q HB⟩⟩
              ·rw [if_neg c51] at H
               have Bf : (((rd_T24 Aa Ab).f0) == Al) = false := bqf c51
               have Bg : (((rd_T24 Aa Ab).f0) != Al) = true := bni c51
               (first | rw [Bf] | rw [Bg] | (simp only [i64_w, i32_w]; first | rw [Bf] | rw [Bg]) | skip)
               have HZ17 := ak H; clear H
               refine pq_ 6 111 (bL 23 127) HT_.out rfl rfl ?_
               refine take_ (i := 7) (N := some 112) (v := ?_) (a' := ?_) (bL 23 255) rfl rfl (take_ofW HT_.out HW_.out (by kernel_rfl)) (fun _ _ _ h => h) (Or.inl ⟨by rfl, ?_⟩) hHeld ?_ ?_; rotate_left; (rintro w' ⟨s0, s1, s2, s3, s4, s5, s6, s7, s8, s9, s10, s11, s12, s13⟩; go_simp; with_reducible rfl); rotate_left; (exact put_q)
               refine pq_ 8 113 (bL 23 511) HT_.out rfl rfl ?_
               refine pq_ 9 114 (bL 23 1023) HT_.out rfl rfl ?_
               refine pq_ 10 115 (bL 23 2047) HT_.out rfl rfl ?_
               have H := HZ17.out; clear HZ17
               by_cases c85 : ((rd_T24 Aa Ab).f0) = 9
               ·rw [if_pos c85] at H
                have Bk : (((rd_T24 Aa Ab).f0) == 9) = true := bqi c85
                have Bl : (((rd_T24 Aa Ab).f0) != 9) = false := bnf c85
                (first | rw [Bk] | rw [Bl] | (simp only [i64_w, i32_w]; first | rw [Bk] | rw [Bl]) | skip)
                clear c85; have HZ18 := ak H; clear H
                refine pq_ 11 116 (bL 23 4095) HT_.out rfl rfl ?_
                refine take_ (i := 12) (N := some 117) (v := ?_) (a' := ?_) (bL 23 8191) rfl rfl (take_ofW HT_.out HW_.out (by kernel_rfl)) (fun _ _ _ h => h) (Or.inl ⟨by rfl, ?_⟩) hHeld ?_ ?_; rotate_left; (rintro w' ⟨s0, s1, s2, s3, s4, s5, s6, s7, s8, s9, s10, s11, s12, s13⟩; go_simp; with_reducible rfl); rotate_left; (exact put_q)
                refine pq_ 13 118 (bL 23 16383) HT_.out rfl rfl ?_
                refine pq_ 14 119 (bL 23 32767) HT_.out rfl rfl ?_
                have H := HZ18.out; clear HZ18
                by_cases c86 : Ah = 2
                ·rw [if_pos c86] at H
                 have Bm : (Ah == 2) = true := bqi c86
                 have Bn : (Ah != 2) = false := bnf c86
                 (first | rw [Bm] | rw [Bn] | (simp only [i64_w, i32_w]; first | rw [Bm] | rw [Bn]) | skip)
                 clear c86; replace H := bsi H; obtain ⟨⟨Hp, Hq, Hr, Hs, Ht, Hu, Hv, Hw⟩, A870, H⟩ := H
                 (try dsimp only at H)
                 have A87 := ak A870; clear A870; replace H := bsi H; obtain ⟨⟨Hx, Hy, Hz, Ia, Ib, Ic, Id, Ie⟩, A880, H⟩ := H
                 (try dsimp only at H)
                 have A88 := ak A880; clear A880; replace H := bsi H; obtain ⟨Jl, A890, H⟩ := H
                 (try dsimp only at H)
                 have A89 := ak A890; clear A890; have HZ19 := ak H; clear H
                 refine take_ (i := 15) (N := some 120) (v := ?_) (a' := ?_) (bL 23 65535) rfl rfl (take_ofW HT_.out HW_.out (by kernel_rfl)) (fun _ _ _ h => h) (Or.inl ⟨by rfl, ?_⟩) hHeld ?_ ?_; rotate_left; (rintro w' ⟨s0, s1, s2, s3, s4, s5, s6, s7, s8, s9, s10, s11, s12, s13⟩; go_simp; with_reducible rfl); rotate_left; (exact put_q)
                 refine take_ (i := 18) (N := some 123) (v := ?_) (a' := ?_) (bL 23 327679) rfl rfl (take_ofW HT_.out HW_.out (by kernel_rfl)) (fun _ _ _ h => h) (Or.inl ⟨by rfl, ?_⟩) hHeld ?_ ?_; rotate_left; (rintro w' ⟨s0, s1, s2, s3, s4, s5, s6, s7, s8, s9, s10, s11, s12, s13⟩; go_simp; with_reducible rfl); rotate_left; (exact put_q)
                 refine one_ (i := 16) (N := some 121) (bL 23 393215) rfl rfl (one_of HT_.out (by kernel_rfl)) (by decide) (fun K hK => ?_)
                 refine goes_ Try.func75 (by kernel_rfl) rfl #[.agg #[.int .i64 ((rd_T24 Aa Ab).f0), .int .i64 ((rd_T24 Aa Ab).f1), .int .i64 ((rd_T24 Aa Ab).f2), .int .i64 ((rd_T24 Aa Ab).f3), .int .i64 ((rd_T24 Aa Ab).f4), .slice A222_5 ((rd_T24 Aa Ab).f5).length c222_5, .int .i64 ((rd_T24 Aa Ab).f6), .bool ((rd_T24 Aa Ab).f7)]] (by rfl) rfl rfl mp_q ?_
                 with_reducible refine (spec_l04Copy.calls ((rd_T24 Aa Ab).f0) ((rd_T24 Aa Ab).f1) ((rd_T24 Aa Ab).f2) ((rd_T24 Aa Ab).f3) ((rd_T24 Aa Ab).f4) _ _ ((rd_T24 Aa Ab).f5) ((rd_T24 Aa Ab).f6) ((rd_T24 Aa Ab).f7) Hp Hq Hr Hs Ht Hu Hv Hw _ ?side1 ?side2 A87.out).mono ?_
                 (case side1 => exact cs_q (Kd.C_below Bb.out HB.out))
                 (case side2 => exact Bc.out)
                 rintro e w97 ⟨v251, rfl, ho0, hb⟩
                 refine ⟨_, rfl, ?_⟩
                 have hs_v251 : (v251 : Value).oneCell' = true := (by first | (have h_ := Kd.R_slice ho0; obtain ⟨A_, c_, e_⟩ := h_; simp [e_, Value.oneCell']) | (have h_ := Kd.S_slice ho0; obtain ⟨A_, c_, e_⟩ := h_; simp [e_, Value.oneCell']) | (have h_ := Kd.N_slice ho0; obtain ⟨A_, c_, e_⟩ := h_; simp [e_, Value.oneCell']) | (have h_ := Kd.V_slice ho0; obtain ⟨A_, c_, e_⟩ := h_; simp [e_, Value.oneCell']))
                 have hst_v251 := fun (w_ : World) (a_ : Addr) m_ => run_store Try.prog w_ a_ v251 m_ hs_v251
                 have At := ak (Kd.R_lower ho0 (below_size (bw_q HB))); replace Ac := ak (blk_below (g := Ag) (bk_q Ac) hb); replace Ad := ak (blk_below (g := Ae) (bk_q Ad) hb); replace HB := ak (below_step (bw_q HB) hb); (try clear ho0); obtain ⟨Ao98, co98, eo98⟩ := Kd.R_slice At.out
                 (first | subst eo98 | (injection eo98 with f1_ f2_ f3_; have f4_ := f1_.symm; have f5_ := f3_.symm; clear f1_ f2_ f3_; subst f4_; subst f5_))
                 refine hK.out _ _ ⟨(blk_cell Ad.out 0).trans rfl, (blk_cell Ad.out 1).trans rfl, (blk_cell Ad.out 2).trans rfl, (blk_cell Ad.out 3).trans rfl, (blk_cell Ad.out 4).trans rfl, (blk_cell Ad.out 5).trans rfl, (blk_cell Ad.out 6).trans rfl, (blk_cell Ad.out 7).trans rfl, (blk_cell Ac.out 0).trans rfl, (blk_cell Ac.out 1).trans rfl, (blk_cell Ac.out 2).trans rfl, (blk_cell Ac.out 3).trans rfl, (blk_cell Ac.out 4).trans rfl, (blk_cell Ac.out 5).trans rfl⟩ (fun hHeld => ?_)
                 clear hK K
                 refine norm_ (a' := ?_) ?_ ?_; rotate_left; (show Act.put _ (some 121) _ = _; simp only [Act.put, List.setIfInBounds_toArray, List.set_cons_zero, List.set_cons_succ, i64_w, i32_w]; rfl)
                 refine one_ (i := 17) (N := some 122) (bL 23 524287) rfl rfl (one_of HT_.out (by kernel_rfl)) (by decide) (fun K hK => ?_)
                 refine goes_ Try.func74 (by kernel_rfl) rfl #[.agg #[.int .i64 Hp, .int .i64 Hq, .int .i64 Hr, .int .i64 Hs, .int .i64 Ht, .slice Ao98 Hu.length co98, .int .i64 Hv, .bool Hw]] (by rfl) rfl rfl mp_q ?_
                 with_reducible refine (spec_l09Head.calls Hp Hq Hr Hs Ht _ _ Hu Hv Hw Hx Hy Hz Ia Ib Ic Id Ie _ ?side1 ?side2 A88.out).mono ?_
                 (case side1 => repeat (first | exact (Kd.R_reads' At.out).2.2 | (with_reducible refine Kd.C_alloc ?_ _) | (with_reducible refine Kd.C_drewN ?_ _) | (with_reducible refine Kd.C_drew ?_)))
                 (case side2 => exact (Kd.R_reads' At.out).2.1)
                 rintro e w99 ⟨v261, rfl, ho0, hb⟩
                 refine ⟨_, rfl, ?_⟩
                 have hs_v261 : (v261 : Value).oneCell' = true := (by first | (have h_ := Kd.R_slice ho0; obtain ⟨A_, c_, e_⟩ := h_; simp [e_, Value.oneCell']) | (have h_ := Kd.S_slice ho0; obtain ⟨A_, c_, e_⟩ := h_; simp [e_, Value.oneCell']) | (have h_ := Kd.N_slice ho0; obtain ⟨A_, c_, e_⟩ := h_; simp [e_, Value.oneCell']) | (have h_ := Kd.V_slice ho0; obtain ⟨A_, c_, e_⟩ := h_; simp [e_, Value.oneCell']))
                 have hst_v261 := fun (w_ : World) (a_ : Addr) m_ => run_store Try.prog w_ a_ v261 m_ hs_v261
                 have Bo := ak (Kd.R_lower (Kd.R_new' ho0 (Kd.R_lt (kR_q At))) (below_size (bw_q HB))); replace At := ak (Kd.R_elder' (kR_q At) (Kd.R_base ho0) hb); replace Ac := ak (blk_below (g := Ag) (bk_q Ac) hb); replace Ad := ak (blk_below (g := Ae) (bk_q Ad) hb); replace HB := ak (below_step (bw_q HB) hb); (try clear ho0); obtain ⟨Ao100, co100, eo100⟩ := Kd.R_slice Bo.out
                 (first | subst eo100 | (injection eo100 with f1_ f2_ f3_; have f4_ := f1_.symm; have f5_ := f3_.symm; clear f1_ f2_ f3_; subst f4_; subst f5_))
                 refine hK.out _ _ ⟨(blk_cell Ad.out 0).trans rfl, (blk_cell Ad.out 1).trans rfl, (blk_cell Ad.out 2).trans rfl, (blk_cell Ad.out 3).trans rfl, (blk_cell Ad.out 4).trans rfl, (blk_cell Ad.out 5).trans rfl, (blk_cell Ad.out 6).trans rfl, (blk_cell Ad.out 7).trans rfl, (blk_cell Ac.out 0).trans rfl, (blk_cell Ac.out 1).trans rfl, (blk_cell Ac.out 2).trans rfl, (blk_cell Ac.out 3).trans rfl, (blk_cell Ac.out 4).trans rfl, (blk_cell Ac.out 5).trans rfl⟩ (fun hHeld => ?_)
                 clear hK K
                 refine norm_ (a' := ?_) ?_ ?_; rotate_left; (show Act.put _ (some 122) _ = _; simp only [Act.put, List.setIfInBounds_toArray, List.set_cons_zero, List.set_cons_succ, i64_w, i32_w]; rfl)
                 refine one_ (i := 19) (N := some 124) (bL 23 1048575) rfl rfl (one_of HT_.out (by kernel_rfl)) (by decide) (fun K hK => ?_)
                 refine goes_ Try.func73 (by kernel_rfl) rfl #[.agg #[.int .i64 Hx, .int .i64 Hy, .int .i64 Hz, .int .i64 Ia, .int .i64 Ib, .slice Ao100 Ic.length co100, .int .i64 Id, .bool Ie], .agg #[.int .i64 ((rd_T24 Aa Ab).f0), .int .i64 ((rd_T24 Aa Ab).f1), .int .i64 ((rd_T24 Aa Ab).f2), .int .i64 ((rd_T24 Aa Ab).f3), .int .i64 ((rd_T24 Aa Ab).f4), .slice A222_5 ((rd_T24 Aa Ab).f5).length c222_5, .int .i64 ((rd_T24 Aa Ab).f6), .bool ((rd_T24 Aa Ab).f7)]] (by rfl) rfl rfl mp_q ?_
                 with_reducible refine (spec_SameBody.calls k4 Hx Hy Hz Ia Ib _ _ Ic Id Ie ((rd_T24 Aa Ab).f0) ((rd_T24 Aa Ab).f1) ((rd_T24 Aa Ab).f2) ((rd_T24 Aa Ab).f3) ((rd_T24 Aa Ab).f4) _ _ ((rd_T24 Aa Ab).f5) ((rd_T24 Aa Ab).f6) ((rd_T24 Aa Ab).f7) Jl _ ?side1 ?side2 ?side3 ?side4 A89.out).mono ?_
                 (case side1 => repeat (first | exact (Kd.R_reads' Bo.out).2.2 | (with_reducible refine Kd.C_alloc ?_ _) | (with_reducible refine Kd.C_drewN ?_ _) | (with_reducible refine Kd.C_drew ?_)))
                 (case side2 => exact (Kd.R_reads' Bo.out).2.1)
                 (case side3 => exact cs_q (Kd.C_below Bb.out HB.out))
                 (case side4 => exact Bc.out)
                 rintro e w101 ⟨rfl, hb⟩
                 refine ⟨_, rfl, ?_⟩
                 replace At := ak (Kd.R_below (kR_q At) hb); replace Bo := ak (Kd.R_below (kR_q Bo) hb); replace Ac := ak (blk_below (g := Ag) (bk_q Ac) hb); replace Ad := ak (blk_below (g := Ae) (bk_q Ad) hb); replace HB := ak (below_step (bw_q HB) hb)
                 refine hK.out _ _ ⟨(blk_cell Ad.out 0).trans rfl, (blk_cell Ad.out 1).trans rfl, (blk_cell Ad.out 2).trans rfl, (blk_cell Ad.out 3).trans rfl, (blk_cell Ad.out 4).trans rfl, (blk_cell Ad.out 5).trans rfl, (blk_cell Ad.out 6).trans rfl, (blk_cell Ad.out 7).trans rfl, (blk_cell Ac.out 0).trans rfl, (blk_cell Ac.out 1).trans rfl, (blk_cell Ac.out 2).trans rfl, (blk_cell Ac.out 3).trans rfl, (blk_cell Ac.out 4).trans rfl, (blk_cell Ac.out 5).trans rfl⟩ (fun hHeld => ?_)
                 clear hK K
                 refine norm_ (a' := ?_) ?_ ?_; rotate_left; (show Act.put _ (some 124) _ = _; simp only [Act.put, List.setIfInBounds_toArray, List.set_cons_zero, List.set_cons_succ, i64_w, i32_w]; rfl)
                 refine pq_ 20 125 (bL 23 2097151) HT_.out rfl rfl ?_
                 refine pq_ 21 126 (bL 23 4194303) HT_.out rfl rfl ?_
                 refine pq_ 22 127 (bL 23 8388607) HT_.out rfl rfl ?_
                 have H := HZ19.out; clear HZ19
                 by_cases c90 : Jl = true
                 ·subst c90; rw [if_pos rfl] at H; have H' := ak H; clear H
                  refine done_ (done_of HT_.out (by kernel_rfl)) ?_
                  try go_wp2
                  go_roundg k4
                  case measure => have := HJ1.out; have := Ap.out; have := HJ34.out; have := Bq.out; omega
                  case rel => exact ⟨(wrap64 (Ab + 1)), rs_q, H', ⟨by have := HJ1.out; have := Ap.out; have := HJ34.out; have := Bq.out; omega⟩, ⟨bk_q Ac⟩, ⟨bw_q HB⟩⟩
                 ·replace c90 := Bool.eq_false_iff.mpr c90; subst c90
                  rw [if_neg (show ¬ (false = true) by decide)] at H
                  obtain rfl := Option.some.inj H
                  refine done_ (done_of HT_.out (by kernel_rfl)) ?_
                  try go_wp2
                  go_ret
                  exact ⟨er_q, bw_q HB⟩
                ·rw [if_neg c86] at H
                 have Bm : (Ah == 2) = false := bqf c86
                 have Bn : (Ah != 2) = true := bni c86
                 (first | rw [Bm] | rw [Bn] | (simp only [i64_w, i32_w]; first | rw [Bm] | rw [Bn]) | skip)
                 have H' := ak H; clear H
                 refine pu_ 15 120 (bL 23 65535) HT_.out rfl rfl ?_
                 refine pu_ 16 121 (bL 23 131071) HT_.out rfl rfl ?_
                 refine pu_ 17 122 (bL 23 262143) HT_.out rfl rfl ?_
                 refine pu_ 18 123 (bL 23 524287) HT_.out rfl rfl ?_
                 refine pu_ 19 124 (bL 23 1048575) HT_.out rfl rfl ?_
                 refine pu_ 20 125 (bL 23 2097151) HT_.out rfl rfl ?_
                 refine pq_ 21 126 (bL 23 4194303) HT_.out rfl rfl ?_
                 refine pq_ 22 127 (bL 23 8388607) HT_.out rfl rfl ?_
                 refine done_ (done_of HT_.out (by kernel_rfl)) ?_
                 try go_wp2
                 go_roundg k4
                 case measure => have := HJ1.out; have := Ap.out; have := HJ34.out; have := Bq.out; omega
                 case rel => exact ⟨(wrap64 (Ab + 1)), rs_q, H', ⟨by have := HJ1.out; have := Ap.out; have := HJ34.out; have := Bq.out; omega⟩, ⟨bk_q Ac⟩, ⟨bw_q HB⟩⟩
               ·rw [if_neg c85] at H
                have Bk : (((rd_T24 Aa Ab).f0) == 9) = false := bqf c85
                have Bl : (((rd_T24 Aa Ab).f0) != 9) = true := bni c85
                (first | rw [Bk] | rw [Bl] | (simp only [i64_w, i32_w]; first | rw [Bk] | rw [Bl]) | skip)
                obtain rfl := Option.some.inj H
                refine pu_ 11 116 (bL 23 4095) HT_.out rfl rfl ?_
                refine pu_ 12 117 (bL 23 8191) HT_.out rfl rfl ?_
                refine pu_ 13 118 (bL 23 16383) HT_.out rfl rfl ?_
                refine pu_ 14 119 (bL 23 32767) HT_.out rfl rfl ?_
                refine pu_ 15 120 (bL 23 65535) HT_.out rfl rfl ?_
                refine pu_ 16 121 (bL 23 131071) HT_.out rfl rfl ?_
                refine pu_ 17 122 (bL 23 262143) HT_.out rfl rfl ?_
                refine pu_ 18 123 (bL 23 524287) HT_.out rfl rfl ?_
                refine pu_ 19 124 (bL 23 1048575) HT_.out rfl rfl ?_
                refine pu_ 20 125 (bL 23 2097151) HT_.out rfl rfl ?_
                refine pu_ 21 126 (bL 23 4194303) HT_.out rfl rfl ?_
                refine pq_ 22 127 (bL 23 8388607) HT_.out rfl rfl ?_
                refine done_ (done_of HT_.out (by kernel_rfl)) ?_
                try go_wp2
                go_ret
                exact ⟨er_q, bw_q HB⟩
             ·rw [if_neg c50] at H
              exact absurd H (by simp)
            ·rw [if_neg c49] at H
             have Jn : decide (Ab < (Aa.length : Int)) = false := decide_eq_false c49
             clear c49; obtain rfl := Option.some.inj H; obtain ⟨Jr, Js, Jt, Ju, Jv, Jw, Jx, Jy, Jz, Ka, Kb, Kc⟩ := cf6_ Ac
             go_wp2
             go_ret
             exact ⟨er_q, bw_q HB⟩

end Go.Proofs.Ytnecbkognpponaa.Q
