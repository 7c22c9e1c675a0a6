import Derived.Test.YtnecbkognpponaaXReadPacketQx45
import Derived.Test.YtnecbkognpponaaXReadPacketQimplStoreOk
import Derived.Test.YtnecbkognpponaaXReadPacketQimplsumsOk
/- The contract of a Go function. -/





namespace Go.Proofs.Ytnecbkognpponaa.Q
open Go.RowKit Go.Proofs.YtnecbkognpponaaW.PrintWords Go.Proofs.YtnecbkognpponaaW.PrintLast Go.Proofs.YtnecbkognpponaaW.PrintMore
attribute [local go_sem] max2_int min2_int max_two min_two max_three min_three max_four min_four   -- for this text's walks alone
set_option linter.unusedVariables false
set_option linter.unusedSimpArgs false

/-! ### impl_PacketOk: function 31 -/
mutual
def impl_PacketOk.j0 : Nat → Bool → Int → Int → Int → Int → List Int → List (S24) → Option (Bool)
 | 0, _, _, _, _, _, _, _ => none
 | k + 1, i, b, d, e, g, c, a => if i = true then (some false) else (if b = 1 then ((impl_heardUp.f k c).bind fun h => (if h = true then (some ((a.length : Int) == 0)) else (some false))) else (impl_PacketOk.l0 k a (a.length : Int) 0 b d e g c a))
def impl_PacketOk.l0 : Nat → List (S24) → Int → Int → Int → Int → Int → Int → List Int → List (S24) → Option (Bool)
 | 0, _, _, _, _, _, _, _, _, _ => none
 | k + 1, i, j, e, b, g, h, c, d, a => if e < j then (if 0 ≤ e then (if e < (i.length : Int) then (if ((rd_T24 i e).f0) = c then (impl_PacketOk.l0 k i j (wrap64 (e + 1)) b g h c d a) else (if ((rd_T24 i e).f0) = 9 then (impl_PacketOk.l0 k i j (wrap64 (e + 1)) b g h c d a) else (some false))) else (none)) else (none)) else (if (d.length : Int) = 0 then ((impl_StoreOk.f k a).bind fun l => (if l = true then (if b = 3 then (some true) else ((impl_sumsOk.f k a).bind fun m => (some m))) else (some false))) else (some false))
end
def impl_PacketOk.f (k : Nat) (h : Int) (e : Int) (g : Int) (i : Int) (j : List Int) (l : List (S24)) : Option (Bool) := (impl_in.f h 1 3).bind fun a => (if a = true then ((impl_in.f e 1 6).bind fun b => (if b = true then ((impl_in.f g 1 6).bind fun c => (if c = true then (if e = g then (impl_PacketOk.j0 k true h e g i j l) else ((impl_in.f i 0 2).bind fun d => (impl_PacketOk.j0 k (!d) h e g i j l))) else (impl_PacketOk.j0 k true h e g i j l))) else (impl_PacketOk.j0 k true h e g i j l))) else (impl_PacketOk.j0 k true h e g i j l))
theorem impl_PacketOk.mono_l : ∀ k, (∀ y0 y1 y2 y3 y4 y5 y6, LeO (impl_PacketOk.j0 k y0 y1 y2 y3 y4 y5 y6) (impl_PacketOk.j0 (k + 1) y0 y1 y2 y3 y4 y5 y6)) ∧ (∀ y0 y1 y2 y3 y4 y5 y6 y7 y8, LeO (impl_PacketOk.l0 k y0 y1 y2 y3 y4 y5 y6 y7 y8) (impl_PacketOk.l0 (k + 1) y0 y1 y2 y3 y4 y5 y6 y7 y8))
 | 0 => ⟨fun _ _ _ _ _ _ _ r h => by simp [impl_PacketOk.j0] at h, fun _ _ _ _ _ _ _ _ _ r h => by simp [impl_PacketOk.l0] at h⟩
 | k + 1 => by
  obtain ⟨ih0, ih1⟩ := impl_PacketOk.mono_l k
  refine ⟨?_, ?_⟩
  ·intro y0 y1 y2 y3 y4 y5 y6
   unfold impl_PacketOk.j0
   with_reducible repeat' (first | apply ih0 | apply ih1 | apply impl_StoreOk.mono | apply impl_heardUp.mono | apply impl_sumsOk.mono | exact LeO.refl _ | exact LeO.none _ | refine LeO.ite ?_ ?_ | refine LeO.bind ?_ (fun _ => ?_))
  ·intro y0 y1 y2 y3 y4 y5 y6 y7 y8
   unfold impl_PacketOk.l0
   with_reducible repeat' (first | apply ih0 | apply ih1 | apply impl_StoreOk.mono | apply impl_heardUp.mono | apply impl_sumsOk.mono | exact LeO.refl _ | exact LeO.none _ | refine LeO.ite ?_ ?_ | refine LeO.bind ?_ (fun _ => ?_))
theorem impl_PacketOk.mono : ∀ a0 a1 a2 a3 a4 a5 k, LeO (impl_PacketOk.f k a0 a1 a2 a3 a4 a5) (impl_PacketOk.f (k + 1) a0 a1 a2 a3 a4 a5) := by
 intro a0 a1 a2 a3 a4 a5 k
 obtain ⟨ih0, ih1⟩ := impl_PacketOk.mono_l k
 unfold impl_PacketOk.f
 with_reducible repeat' (first | apply ih0 | apply ih1 | apply impl_StoreOk.mono | apply impl_heardUp.mono | apply impl_sumsOk.mono | exact LeO.refl _ | exact LeO.none _ | refine LeO.ite ?_ ?_ | refine LeO.bind ?_ (fun _ => ?_))
set_option maxHeartbeats 8000000 in
set_option maxRecDepth 100000 in
theorem impl_PacketOk.calls (k : Nat) (Af : Int) (Ai : Int) (Aj : Int) (Ak : Int) (Al : Option Addr) (Am : Nat) (Ag : List Int) (Bg : Option Addr) (Aw : Nat) (Ab : List (S24)) (r : Bool) (w : World) (hr0_4 : Kd.C (Kd.int .i64) w Al Ag.length Ag) (hc0_4 : Ag.length ≤ Am) (hr0_5 : Kd.C k24 w Bg Ab.length Ab) (hc0_5 : Ab.length ≤ Aw) (h : impl_PacketOk.f k Af Ai Aj Ak Ag Ab = some r) :
  Calls Try.prog 31 #[.agg #[.int .i64 Af, .int .i64 Ai, .int .i64 Aj, .int .i64 Ak, .slice Al Ag.length Am, .slice Bg Ab.length Aw]] w fun e w' => e = .returned (.bool r) ∧ Below w.heap.size w w' := by
 have hu39 := Try.underlying39; have hu24 := Try.underlying24; have Dp := ak hr0_4; have Dq := ak hc0_4; clear hr0_4 hc0_4; have Bb := ak hr0_5; have Be := ak hc0_5; clear hr0_5 hc0_5; have HB := ak (Below.refl w.heap.size w); have H := h
 clear h; unfold impl_PacketOk.f at H; have Fg := ak H; clear H
 go_enter Try.func31, Try.ntmps31
 go_upto_region 1 with (first | ((with_reducible refine gate_dst (N := 1) rfl ?_); (try (refine gate_guard (by rfl) ?_; dsimp only)); refine box_q 1 #[.int .i64 Af, .int .i64 Ai, .int .i64 Aj, .int .i64 Ak, .slice Al Ag.length Am, .slice Bg Ab.length Aw] 39 ?_; intro Ah hg w3 hbox hb; have Ad := ak (hbox); have Ky := gsz w (below_size (bw_q HB)) hg; have Kz := gsz w (below_size (bw_q HB)) hg; replace HB := ak (below_step (bw_q HB) hb); clear hb hbox hg))
 (try simp only [Act.put, List.setIfInBounds_toArray, List.set_cons_zero, List.set_cons_succ])
 go_cut [33] (fun v33 wc => ∃ (kq : Nat) (Bf : Bool), v33 = .bool Bf ∧ Aside0 (impl_PacketOk.j0 kq Bf Af Ai Aj Ak Ag Ab = some r) ∧ Aside0 (kq ≤ k) ∧ Aside0 (wc.heap[Ah]? = some (.cells #[.int .i64 Af, .int .i64 Ai, .int .i64 Aj, .int .i64 Ak, (.slice Al Ag.length Am), (.slice Bg Ab.length Aw)] 39 (0, 0))) ∧ Aside0 (Below w.heap.size w wc))
 case first =>
  have H := Fg.out; clear Fg; replace H := bsi H; obtain ⟨Ft, A40, H⟩ := H
  (try dsimp only at H)
  have A4 := ak A40; clear A40
  by_cases c5 : Ft = true
  ·subst c5; rw [if_pos rfl] at H; replace H := bsi H; obtain ⟨Fu, A60, H⟩ := H
   (try dsimp only at H)
   have A6 := ak A60; clear A60
   by_cases c7 : Fu = true
   ·subst c7; rw [if_pos rfl] at H; replace H := bsi H; obtain ⟨Fv, A80, H⟩ := H
    (try dsimp only at H)
    have A8 := ak A80; clear A80
    by_cases c9 : Fv = true
    ·subst c9; rw [if_pos rfl] at H
     by_cases c10 : Ai = Aj
     ·rw [if_pos c10] at H
      have Ax : (Ai == Aj) = true := bqi c10
      have Ay : (Ai != Aj) = false := bnf c10
      clear c10
      (first | rw [Ax] | rw [Ay] | (simp only [i64_w, i32_w]; first | rw [Ax] | rw [Ay]) | skip)
      have H' := ak H; clear H; obtain ⟨Bh, Bi, Bj, Bk, Bl, Bm, Bn, Bo, Bp, Bq, Br, Bs⟩ := cf6_ Ad
      go_wp2_with (first | ((with_reducible refine gate_callee (f := 69) rfl ?_); refine goesL_ (some 7) rfl rfl Try.func69 (by kernel_rfl) rfl #[.int .i64 Af, .int .i64 1, .int .i64 3] rfl mp_q ?_; (with_reducible refine (impl_in.calls Af 1 3 true _ A4.out).mono ?_); rintro e w' ⟨rfl, ⟨nd, rfl⟩⟩; refine ⟨_, rfl, ?_⟩) | (go_at_call 69; (with_reducible refine (impl_in.calls Ai 1 6 true _ A6.out).mono ?_); rintro e w' ⟨rfl, ⟨nd, rfl⟩⟩) | (go_at_call 69; (with_reducible refine (impl_in.calls Aj 1 6 true _ A8.out).mono ?_); rintro e w' ⟨rfl, ⟨nd, rfl⟩⟩))
      go_meet
      case rel => exact ⟨_, (true), rs_q, H', ⟨by first | omega | exact Nat.le_refl _⟩, ⟨bk_q Ad⟩, ⟨bw_q HB⟩⟩
     ·rw [if_neg c10] at H
      have Ax : (Ai == Aj) = false := bqf c10
      have Ay : (Ai != Aj) = true := bni c10
      (first | rw [Ax] | rw [Ay] | (simp only [i64_w, i32_w]; first | rw [Ax] | rw [Ay]) | skip)
      replace H := bsi H; obtain ⟨Fh, A120, H⟩ := H
      (try dsimp only at H)
      have A12 := ak A120; clear A120; have H' := ak H; clear H; obtain ⟨Bt, Bu, Bv, Bw, Bx, By, Bz, Ca, Cb, Cc, Cd, Ce⟩ := cf6_ Ad
      go_wp2_with (first | ((with_reducible refine gate_callee (f := 69) rfl ?_); refine goesL_ (some 7) rfl rfl Try.func69 (by kernel_rfl) rfl #[.int .i64 Af, .int .i64 1, .int .i64 3] rfl mp_q ?_; (with_reducible refine (impl_in.calls Af 1 3 true _ A4.out).mono ?_); rintro e w' ⟨rfl, ⟨nd, rfl⟩⟩; refine ⟨_, rfl, ?_⟩) | (go_at_call 69; (with_reducible refine (impl_in.calls Ai 1 6 true _ A6.out).mono ?_); rintro e w' ⟨rfl, ⟨nd, rfl⟩⟩) | (go_at_call 69; (with_reducible refine (impl_in.calls Aj 1 6 true _ A8.out).mono ?_); rintro e w' ⟨rfl, ⟨nd, rfl⟩⟩) | (go_at_call 69; (with_reducible refine (impl_in.calls Ak 0 2 Fh _ A12.out).mono ?_); rintro e w' ⟨rfl, ⟨nd, rfl⟩⟩))
      go_meet
      case rel => exact ⟨_, (!Fh), rs_q, H', ⟨by first | omega | exact Nat.le_refl _⟩, ⟨bk_q Ad⟩, ⟨bw_q HB⟩⟩
    ·replace c9 := Bool.eq_false_iff.mpr c9; subst c9
     rw [if_neg (show ¬ (false = true) by decide)] at H
     have H' := ak H; clear H; obtain ⟨Cf, Cg, Ch, Ci, Cj, Ck, Cl, Cm, Cn, Co, Cp, Cq⟩ := cf6_ Ad
     go_wp2_with (first | ((with_reducible refine gate_callee (f := 69) rfl ?_); refine goesL_ (some 7) rfl rfl Try.func69 (by kernel_rfl) rfl #[.int .i64 Af, .int .i64 1, .int .i64 3] rfl mp_q ?_; (with_reducible refine (impl_in.calls Af 1 3 true _ A4.out).mono ?_); rintro e w' ⟨rfl, ⟨nd, rfl⟩⟩; refine ⟨_, rfl, ?_⟩) | (go_at_call 69; (with_reducible refine (impl_in.calls Ai 1 6 true _ A6.out).mono ?_); rintro e w' ⟨rfl, ⟨nd, rfl⟩⟩) | (go_at_call 69; (with_reducible refine (impl_in.calls Aj 1 6 false _ A8.out).mono ?_); rintro e w' ⟨rfl, ⟨nd, rfl⟩⟩))
     go_meet
     case rel => exact ⟨_, (true), rs_q, H', ⟨by first | omega | exact Nat.le_refl _⟩, ⟨bk_q Ad⟩, ⟨bw_q HB⟩⟩
   ·replace c7 := Bool.eq_false_iff.mpr c7; subst c7
    rw [if_neg (show ¬ (false = true) by decide)] at H
    have H' := ak H; clear H; obtain ⟨Cr, Cs, Ct, Cu, Cv, Cw, Cx, Cy, Cz, Da, Db, Dc⟩ := cf6_ Ad
    go_wp2_with (first | ((with_reducible refine gate_callee (f := 69) rfl ?_); refine goesL_ (some 7) rfl rfl Try.func69 (by kernel_rfl) rfl #[.int .i64 Af, .int .i64 1, .int .i64 3] rfl mp_q ?_; (with_reducible refine (impl_in.calls Af 1 3 true _ A4.out).mono ?_); rintro e w' ⟨rfl, ⟨nd, rfl⟩⟩; refine ⟨_, rfl, ?_⟩) | (go_at_call 69; (with_reducible refine (impl_in.calls Ai 1 6 false _ A6.out).mono ?_); rintro e w' ⟨rfl, ⟨nd, rfl⟩⟩))
    go_meet
    case rel => exact ⟨_, (true), rs_q, H', ⟨by first | omega | exact Nat.le_refl _⟩, ⟨bk_q Ad⟩, ⟨bw_q HB⟩⟩
  ·replace c5 := Bool.eq_false_iff.mpr c5; subst c5
   rw [if_neg (show ¬ (false = true) by decide)] at H
   have H' := ak H; clear H; obtain ⟨Dd, De, Df, Dg, Dh, Di, Dj, Dk, Dl, Dm, Dn, Do⟩ := cf6_ Ad
   go_wp2_with (first | ((with_reducible refine gate_callee (f := 69) rfl ?_); refine goesL_ (some 7) rfl rfl Try.func69 (by kernel_rfl) rfl #[.int .i64 Af, .int .i64 1, .int .i64 3] rfl mp_q ?_; (with_reducible refine (impl_in.calls Af 1 3 false _ A4.out).mono ?_); rintro e w' ⟨rfl, ⟨nd, rfl⟩⟩; refine ⟨_, rfl, ?_⟩))
   go_meet
   case rel => exact ⟨_, (true), rs_q, H', ⟨by first | omega | exact Nat.le_refl _⟩, ⟨bk_q Ad⟩, ⟨bw_q HB⟩⟩
 case rest =>
  clear Fg; (try clear c1); (try clear p2); (try clear c3); (try clear c5); (try clear c6); (try clear c7); (try clear c9); (try clear c10); (try clear Ax); (try clear Ay)
  try clear Bh Bi Bj Bk Bl Bm
  try clear Bt Bu Bv Bw Bx By
  try clear Cf Cg Ch Ci Cj Ck
  try clear Cr Cs Ct Cu Cv Cw
  try clear Dd De Df Dg Dh Di
  try clear Bn Bo Bp Bq Br Bs
  try clear Bz Ca Cb Cc Cd Ce
  try clear Cl Cm Cn Co Cp Cq
  try clear Cx Cy Cz Da Db Dc
  try clear Dj Dk Dl Dm Dn Do
  obtain ⟨kq, Bf, rfl, HA, HJ1, Ad, HB⟩ := hcut
  cases kq with
  | zero => exact absurd HA.out (by simp [impl_PacketOk.j0])
  | succ kj1 =>
   have H := HA.out; clear HA
   simp only [impl_PacketOk.j0] at H
   by_cases c17 : Bf = true
   ·subst c17; rw [if_pos rfl] at H; obtain rfl := Option.some.inj H
    go_wp2
    go_ret
    exact ⟨er_q, bw_q HB⟩
   ·replace c17 := Bool.eq_false_iff.mpr c17; subst c17
    rw [if_neg (show ¬ (false = true) by decide)] at H
    by_cases c18 : Af = 1
    ·rw [if_pos c18] at H
     have Dr : (Af == 1) = true := bqi c18
     have Ds : (Af != 1) = false := bnf c18
     clear c18; replace H := bsi H; obtain ⟨Fw, A190, H⟩ := H
     (try dsimp only at H)
     have A19 := ak A190; clear A190
     by_cases c20 : Fw = true
     ·subst c20; rw [if_pos rfl] at H; obtain rfl := Option.some.inj H; obtain ⟨Du, Dv, Dw, Dx, Dy, Dz, Ea, Eb, Ec, Ed, Ee, Ef⟩ := cf6_ Ad
      go_wp2_with (first | ((with_reducible refine gate_callee (f := 76) rfl ?_); refine goesL_ (some 39) rfl rfl Try.func76 (by kernel_rfl) rfl #[.slice Al Ag.length Am] rfl mp_q ?_; (with_reducible refine (impl_heardUp.calls kj1 _ _ Ag true _ ?side1 ?side2 A19.out).mono ?_); (case side1 => exact cs_q (Kd.C_below Dp.out HB.out)); (case side2 => exact Dq.out); rintro e w' ⟨rfl, ⟨nd, rfl⟩⟩; refine ⟨_, rfl, ?_⟩))
      go_ret
      exact ⟨er_q, bw_q HB⟩
     ·replace c20 := Bool.eq_false_iff.mpr c20; subst c20
      rw [if_neg (show ¬ (false = true) by decide)] at H
      obtain rfl := Option.some.inj H; obtain ⟨Eg, Eh, Ei, Ej, Ek, El, Em, En, Eo, Ep, Eq, Er⟩ := cf6_ Ad
      go_wp2_with (first | ((with_reducible refine gate_callee (f := 76) rfl ?_); refine goesL_ (some 39) rfl rfl Try.func76 (by kernel_rfl) rfl #[.slice Al Ag.length Am] rfl mp_q ?_; (with_reducible refine (impl_heardUp.calls kj1 _ _ Ag false _ ?side1 ?side2 A19.out).mono ?_); (case side1 => exact cs_q (Kd.C_below Dp.out HB.out)); (case side2 => exact Dq.out); rintro e w' ⟨rfl, ⟨nd, rfl⟩⟩; refine ⟨_, rfl, ?_⟩))
      go_ret
      exact ⟨er_q, bw_q HB⟩
    ·rw [if_neg c18] at H
     have Dr : (Af == 1) = false := bqf c18
     have Ds : (Af != 1) = true := bni c18
     have H' := ak H; clear H; obtain ⟨Es, Et, Eu, Ev, Ew, Ex, Ey, Ez, Fa, Fb, Fc, Fd⟩ := cf6_ Ad
     go_wp2
     go_loopg [49] kj1 (fun kq v49 w' => ∃ (Aa : Int), v49 = .int .i64 Aa ∧ Aside0 (impl_PacketOk.l0 kq Ab (Ab.length : Int) Aa Af Ai Aj Ak Ag Ab = some r) ∧ Aside0 (kq ≤ kj1) ∧ Aside0 (w'.heap[Ah]? = some (.cells #[.int .i64 Af, .int .i64 Ai, .int .i64 Aj, .int .i64 Ak, (.slice Al Ag.length Am), (.slice Bg Ab.length Aw)] 39 (0, 0))) ∧ Aside0 (Below w.heap.size w w'))
     case atStart => exact ⟨(0), rs_q, H', ⟨Nat.le_refl _⟩, ⟨bk_q Ad⟩, ⟨bw_q HB⟩⟩
     case round =>
      clear H'; (try clear c1); (try clear c2); (try clear p2); (try clear c3); (try clear c5); (try clear c6); (try clear c7); (try clear c9); (try clear c10); (try clear Ax); (try clear Ay); (try clear c17); (try clear c18); (try clear Dr); (try clear Ds); (try clear c20)
      try clear Bh Bi Bj Bk Bl Bm
      try clear Bt Bu Bv Bw Bx By
      try clear Cf Cg Ch Ci Cj Ck
      try clear Cr Cs Ct Cu Cv Cw
      try clear Dd De Df Dg Dh Di
      try clear Du Dv Dw Dx Dy Dz
      try clear Eg Eh Ei Ej Ek El
      try clear Es Et Eu Ev Ew Ex
      try clear Bn Bo Bp Bq Br Bs
      try clear Bz Ca Cb Cc Cd Ce
      try clear Cl Cm Cn Co Cp Cq
      try clear Cx Cy Cz Da Db Dc
      try clear Dj Dk Dl Dm Dn Do
      try clear Ea Eb Ec Ed Ee Ef
      try clear Em En Eo Ep Eq Er
      try clear Ey Ez Fa Fb Fc Fd
      (try clear p2); obtain ⟨Aa, rfl, HA, Dt, Ad, HB⟩ := hrel
      cases gk with
      | zero => exact absurd HA.out (by simp [impl_PacketOk.l0])
      | succ k2 =>
       have H := HA.out; clear HA
       simp only [impl_PacketOk.l0] at H
       by_cases c24 : Aa < (Ab.length : Int)
       ·rw [if_pos c24] at H
        have Fk : decide (Aa < (Ab.length : Int)) = true := decide_eq_true c24
        clear c24
        by_cases c25 : 0 ≤ Aa
        ·rw [if_pos c25] at H
         have La : decide (0 ≤ Aa) = true := decide_eq_true c25
         clear c25
         by_cases c26 : Aa < (Ab.length : Int)
         ·rw [if_pos c26] at H
          have Lb : decide (Aa < (Ab.length : Int)) = true := decide_eq_true c26
          clear c26
          by_cases c27 : ((rd_T24 Ab Aa).f0) = Ak
          ·rw [if_pos c27] at H
           have Fl : (((rd_T24 Ab Aa).f0) == Ak) = true := bqi c27
           have Fm : (((rd_T24 Ab Aa).f0) != Ak) = false := bnf c27
           clear c27; have Fi := ak H; clear H
           have p322 : 0 ≤ (Aa : Int) := of_decide_eq_true as_q
           have q322 : Aa < (Ab.length : Int) := of_decide_eq_true as_q
           obtain ⟨Az, A322_5, c322_5, e322, An, Ao, Ap, Aq, Ar, As, At, Au, hl322_5, hi322_5⟩ := at_T24 Bb.out Aa p322 q322
           cases e322
           replace An := hbc HB An; replace Ao := hbc HB Ao; replace Ap := hbc HB Ap; replace Aq := hbc HB Aq; replace Ar := hbc HB Ar; replace As := hbc HB As; replace At := hbc HB At; replace Au := hbc HB Au; have Fe := ak hi322_5; have Ff := ak hl322_5; clear hi322_5 hl322_5; replace p322 := eq_true p322; replace q322 := eq_true q322
           go_upto_if 62 with (first | ((with_reducible refine gate_dst (N := 4) rfl ?_); (try (refine gate_guard (by rfl) ?_; dsimp only)); refine box_q 4 #[.int .i64 0, .int .i64 0, .int .i64 0, .int .i64 0, .int .i64 0, .slice none 0 0, .int .i64 0, .bool false] 24 ?_; intro Ac hg w29 hbox hb; have Av := ak (hbox); have Fn := gsz w (below_size (bw_q HB)) hg; have Fo := gsz w (below_size (bw_q HB)) hg; replace HB := ak (below_step (bw_q HB) hb); have Ae := ak ((by rw [hg]; exact Nat.ne_of_lt (blk_lt (g := Ah) (o := .cells #[.int .i64 Af, .int .i64 Ai, .int .i64 Aj, .int .i64 Ak, .slice Al Ag.length Am, .slice (some Az) Ab.length Aw] 39 (0, 0)) (bk_q Ad)) : Ah ≠ Ac)); have Ba := ak ((by rw [hg]; exact Nat.ne_of_gt (blk_lt (g := Ah) (o := .cells #[.int .i64 Af, .int .i64 Ai, .int .i64 Aj, .int .i64 Ak, .slice Al Ag.length Am, .slice (some Az) Ab.length Aw] 39 (0, 0)) (bk_q Ad)) : Ac ≠ Ah)); replace Ad := ak (blk_below (g := Ah) (bk_q Ad) hb); clear hb hbox hg; have Lc := Ba.out; have Ld := Ae.out; obtain ⟨Fz, Ga, Gb, Gc, Gd, Ge, Gf, Gg, Gh, Gi, Gj, Gk, Gl, Gm, Gn, Go⟩ := cf8_ Av; obtain ⟨Gp, Gq, Gr, Gs, Gt, Gu, Gv, Gw, Gx, Gy, Gz, Ha⟩ := cf6_ Ad))
           have n0_ : Aside0 (((((((((w29.setCell ⟨Ac, 0, none⟩ (.int .i64 ((rd_T24 Ab Aa).f0))).setCell ⟨Ac, 1, none⟩ (.int .i64 ((rd_T24 Ab Aa).f1))).setCell ⟨Ac, 2, none⟩ (.int .i64 ((rd_T24 Ab Aa).f2))).setCell ⟨Ac, 3, none⟩ (.int .i64 ((rd_T24 Ab Aa).f3))).setCell ⟨Ac, 4, none⟩ (.int .i64 ((rd_T24 Ab Aa).f4))).setCell ⟨Ac, 5, none⟩ (.slice A322_5 ((rd_T24 Ab Aa).f5).length c322_5)).setCell ⟨Ac, 6, none⟩ (.int .i64 ((rd_T24 Ab Aa).f6))).setCell ⟨Ac, 7, none⟩ (.bool ((rd_T24 Ab Aa).f7))).heap[Ah]? = some (.cells #[.int .i64 Af, .int .i64 Ai, .int .i64 Aj, .int .i64 Ak, .slice Al Ag.length Am, .slice (some Az) Ab.length Aw] 39 (0, 0))) := ⟨by refine bz_ ?_; refine blk_far ?_ Ae.out _; refine bz_ ?_; refine blk_far ?_ Ae.out _; refine bz_ ?_; refine blk_far ?_ Ae.out _; refine bz_ ?_; refine blk_far ?_ Ae.out _; refine bz_ ?_; refine blk_far ?_ Ae.out _; refine bz_ ?_; refine blk_far ?_ Ae.out _; refine bz_ ?_; refine blk_far ?_ Ae.out _; refine bz_ ?_; refine blk_far ?_ Ae.out _; refine bz_ ?_; exact Ad.out⟩
           have n1_ : Aside0 (((((((((w29.setCell ⟨Ac, 0, none⟩ (.int .i64 ((rd_T24 Ab Aa).f0))).setCell ⟨Ac, 1, none⟩ (.int .i64 ((rd_T24 Ab Aa).f1))).setCell ⟨Ac, 2, none⟩ (.int .i64 ((rd_T24 Ab Aa).f2))).setCell ⟨Ac, 3, none⟩ (.int .i64 ((rd_T24 Ab Aa).f3))).setCell ⟨Ac, 4, none⟩ (.int .i64 ((rd_T24 Ab Aa).f4))).setCell ⟨Ac, 5, none⟩ (.slice A322_5 ((rd_T24 Ab Aa).f5).length c322_5)).setCell ⟨Ac, 6, none⟩ (.int .i64 ((rd_T24 Ab Aa).f6))).setCell ⟨Ac, 7, none⟩ (.bool ((rd_T24 Ab Aa).f7))).heap[Ac]? = some (.cells #[.int .i64 ((rd_T24 Ab Aa).f0), .int .i64 ((rd_T24 Ab Aa).f1), .int .i64 ((rd_T24 Ab Aa).f2), .int .i64 ((rd_T24 Ab Aa).f3), .int .i64 ((rd_T24 Ab Aa).f4), .slice A322_5 ((rd_T24 Ab Aa).f5).length c322_5, .int .i64 ((rd_T24 Ab Aa).f6), .bool ((rd_T24 Ab Aa).f7)] 24 (0, 0))) := ⟨by refine bz_ ?_; refine blk_put (cs := #[.int .i64 ((rd_T24 Ab Aa).f0), .int .i64 ((rd_T24 Ab Aa).f1), .int .i64 ((rd_T24 Ab Aa).f2), .int .i64 ((rd_T24 Ab Aa).f3), .int .i64 ((rd_T24 Ab Aa).f4), .slice A322_5 ((rd_T24 Ab Aa).f5).length c322_5, .int .i64 ((rd_T24 Ab Aa).f6), .bool false]) ?_ 7 _ rfl; refine bz_ ?_; refine blk_put (cs := #[.int .i64 ((rd_T24 Ab Aa).f0), .int .i64 ((rd_T24 Ab Aa).f1), .int .i64 ((rd_T24 Ab Aa).f2), .int .i64 ((rd_T24 Ab Aa).f3), .int .i64 ((rd_T24 Ab Aa).f4), .slice A322_5 ((rd_T24 Ab Aa).f5).length c322_5, .int .i64 0, .bool false]) ?_ 6 _ rfl; refine bz_ ?_; refine blk_put (cs := #[.int .i64 ((rd_T24 Ab Aa).f0), .int .i64 ((rd_T24 Ab Aa).f1), .int .i64 ((rd_T24 Ab Aa).f2), .int .i64 ((rd_T24 Ab Aa).f3), .int .i64 ((rd_T24 Ab Aa).f4), .slice none 0 0, .int .i64 0, .bool false]) ?_ 5 _ rfl; refine bz_ ?_; refine blk_put (cs := #[.int .i64 ((rd_T24 Ab Aa).f0), .int .i64 ((rd_T24 Ab Aa).f1), .int .i64 ((rd_T24 Ab Aa).f2), .int .i64 ((rd_T24 Ab Aa).f3), .int .i64 0, .slice none 0 0, .int .i64 0, .bool false]) ?_ 4 _ rfl; refine bz_ ?_; refine blk_put (cs := #[.int .i64 ((rd_T24 Ab Aa).f0), .int .i64 ((rd_T24 Ab Aa).f1), .int .i64 ((rd_T24 Ab Aa).f2), .int .i64 0, .int .i64 0, .slice none 0 0, .int .i64 0, .bool false]) ?_ 3 _ rfl; refine bz_ ?_; refine blk_put (cs := #[.int .i64 ((rd_T24 Ab Aa).f0), .int .i64 ((rd_T24 Ab Aa).f1), .int .i64 0, .int .i64 0, .int .i64 0, .slice none 0 0, .int .i64 0, .bool false]) ?_ 2 _ rfl; refine bz_ ?_; refine blk_put (cs := #[.int .i64 ((rd_T24 Ab Aa).f0), .int .i64 0, .int .i64 0, .int .i64 0, .int .i64 0, .slice none 0 0, .int .i64 0, .bool false]) ?_ 1 _ rfl; refine bz_ ?_; refine blk_put (cs := #[.int .i64 0, .int .i64 0, .int .i64 0, .int .i64 0, .int .i64 0, .slice none 0 0, .int .i64 0, .bool false]) ?_ 0 _ rfl; refine bz_ ?_; exact Av.out⟩
           have n2_ : Aside0 (Below w.heap.size w ((((((((w29.setCell ⟨Ac, 0, none⟩ (.int .i64 ((rd_T24 Ab Aa).f0))).setCell ⟨Ac, 1, none⟩ (.int .i64 ((rd_T24 Ab Aa).f1))).setCell ⟨Ac, 2, none⟩ (.int .i64 ((rd_T24 Ab Aa).f2))).setCell ⟨Ac, 3, none⟩ (.int .i64 ((rd_T24 Ab Aa).f3))).setCell ⟨Ac, 4, none⟩ (.int .i64 ((rd_T24 Ab Aa).f4))).setCell ⟨Ac, 5, none⟩ (.slice A322_5 ((rd_T24 Ab Aa).f5).length c322_5)).setCell ⟨Ac, 6, none⟩ (.int .i64 ((rd_T24 Ab Aa).f6))).setCell ⟨Ac, 7, none⟩ (.bool ((rd_T24 Ab Aa).f7)))) := ⟨bw_q HB⟩
           (try clear Ad); (try clear Av); (try clear HB)
           generalize ((((((((w29.setCell ⟨Ac, 0, none⟩ (.int .i64 ((rd_T24 Ab Aa).f0))).setCell ⟨Ac, 1, none⟩ (.int .i64 ((rd_T24 Ab Aa).f1))).setCell ⟨Ac, 2, none⟩ (.int .i64 ((rd_T24 Ab Aa).f2))).setCell ⟨Ac, 3, none⟩ (.int .i64 ((rd_T24 Ab Aa).f3))).setCell ⟨Ac, 4, none⟩ (.int .i64 ((rd_T24 Ab Aa).f4))).setCell ⟨Ac, 5, none⟩ (.slice A322_5 ((rd_T24 Ab Aa).f5).length c322_5)).setCell ⟨Ac, 6, none⟩ (.int .i64 ((rd_T24 Ab Aa).f6))).setCell ⟨Ac, 7, none⟩ (.bool ((rd_T24 Ab Aa).f7))) = w33 at n0_ n1_ n2_ ⊢
           have Ad := n0_; have Av := n1_; have HB := n2_; clear n0_ n1_ n2_; (try clear An); (try clear Ao); (try clear Ap); (try clear Aq); (try clear Ar); (try clear As); (try clear At); (try clear Au); have H := Fi.out; clear Fi; have H' := ak H; clear H
           go_wp2
           go_roundg k2
           case measure => have := HJ1.out; have := Dt.out; omega
           case rel => exact ⟨(wrap64 (Aa + 1)), rs_q, H', ⟨by have := HJ1.out; have := Dt.out; omega⟩, ⟨bk_q Ad⟩, ⟨bw_q HB⟩⟩
          ·rw [if_neg c27] at H
           have Fl : (((rd_T24 Ab Aa).f0) == Ak) = false := bqf c27
           have Fm : (((rd_T24 Ab Aa).f0) != Ak) = true := bni c27
           have Fj := ak H; clear H
           have p322 : 0 ≤ (Aa : Int) := of_decide_eq_true as_q
           have q322 : Aa < (Ab.length : Int) := of_decide_eq_true as_q
           obtain ⟨Az, A322_5, c322_5, e322, An, Ao, Ap, Aq, Ar, As, At, Au, hl322_5, hi322_5⟩ := at_T24 Bb.out Aa p322 q322
           cases e322
           replace An := hbc HB An; replace Ao := hbc HB Ao; replace Ap := hbc HB Ap; replace Aq := hbc HB Aq; replace Ar := hbc HB Ar; replace As := hbc HB As; replace At := hbc HB At; replace Au := hbc HB Au; have Fe := ak hi322_5; have Ff := ak hl322_5; clear hi322_5 hl322_5; replace p322 := eq_true p322; replace q322 := eq_true q322
           go_upto_if 62 with (first | ((with_reducible refine gate_dst (N := 4) rfl ?_); (try (refine gate_guard (by rfl) ?_; dsimp only)); refine box_q 4 #[.int .i64 0, .int .i64 0, .int .i64 0, .int .i64 0, .int .i64 0, .slice none 0 0, .int .i64 0, .bool false] 24 ?_; intro Ac hg w35 hbox hb; have Av := ak (hbox); have Fn := gsz w (below_size (bw_q HB)) hg; have Fo := gsz w (below_size (bw_q HB)) hg; replace HB := ak (below_step (bw_q HB) hb); have Ae := ak ((by rw [hg]; exact Nat.ne_of_lt (blk_lt (g := Ah) (o := .cells #[.int .i64 Af, .int .i64 Ai, .int .i64 Aj, .int .i64 Ak, .slice Al Ag.length Am, .slice (some Az) Ab.length Aw] 39 (0, 0)) (bk_q Ad)) : Ah ≠ Ac)); have Ba := ak ((by rw [hg]; exact Nat.ne_of_gt (blk_lt (g := Ah) (o := .cells #[.int .i64 Af, .int .i64 Ai, .int .i64 Aj, .int .i64 Ak, .slice Al Ag.length Am, .slice (some Az) Ab.length Aw] 39 (0, 0)) (bk_q Ad)) : Ac ≠ Ah)); replace Ad := ak (blk_below (g := Ah) (bk_q Ad) hb); clear hb hbox hg; have Le := Ba.out; have Lf := Ae.out; obtain ⟨Hb, Hc, Hd, He, Hf, Hg, Hh, Hi, Hj, Hk, Hl, Hm, Hn, Ho, Hp, Hq⟩ := cf8_ Av; obtain ⟨Hr, Hs, Ht, Hu, Hv, Hw, Hx, Hy, Hz, Ia, Ib, Ic⟩ := cf6_ Ad))
           have n0_ : Aside0 (((((((((w35.setCell ⟨Ac, 0, none⟩ (.int .i64 ((rd_T24 Ab Aa).f0))).setCell ⟨Ac, 1, none⟩ (.int .i64 ((rd_T24 Ab Aa).f1))).setCell ⟨Ac, 2, none⟩ (.int .i64 ((rd_T24 Ab Aa).f2))).setCell ⟨Ac, 3, none⟩ (.int .i64 ((rd_T24 Ab Aa).f3))).setCell ⟨Ac, 4, none⟩ (.int .i64 ((rd_T24 Ab Aa).f4))).setCell ⟨Ac, 5, none⟩ (.slice A322_5 ((rd_T24 Ab Aa).f5).length c322_5)).setCell ⟨Ac, 6, none⟩ (.int .i64 ((rd_T24 Ab Aa).f6))).setCell ⟨Ac, 7, none⟩ (.bool ((rd_T24 Ab Aa).f7))).heap[Ah]? = some (.cells #[.int .i64 Af, .int .i64 Ai, .int .i64 Aj, .int .i64 Ak, .slice Al Ag.length Am, .slice (some Az) Ab.length Aw] 39 (0, 0))) := ⟨by refine bz_ ?_; refine blk_far ?_ Ae.out _; refine bz_ ?_; refine blk_far ?_ Ae.out _; refine bz_ ?_; refine blk_far ?_ Ae.out _; refine bz_ ?_; refine blk_far ?_ Ae.out _; refine bz_ ?_; refine blk_far ?_ Ae.out _; refine bz_ ?_; refine blk_far ?_ Ae.out _; refine bz_ ?_; refine blk_far ?_ Ae.out _; refine bz_ ?_; refine blk_far ?_ Ae.out _; refine bz_ ?_; exact Ad.out⟩
           have n1_ : Aside0 (((((((((w35.setCell ⟨Ac, 0, none⟩ (.int .i64 ((rd_T24 Ab Aa).f0))).setCell ⟨Ac, 1, none⟩ (.int .i64 ((rd_T24 Ab Aa).f1))).setCell ⟨Ac, 2, none⟩ (.int .i64 ((rd_T24 Ab Aa).f2))).setCell ⟨Ac, 3, none⟩ (.int .i64 ((rd_T24 Ab Aa).f3))).setCell ⟨Ac, 4, none⟩ (.int .i64 ((rd_T24 Ab Aa).f4))).setCell ⟨Ac, 5, none⟩ (.slice A322_5 ((rd_T24 Ab Aa).f5).length c322_5)).setCell ⟨Ac, 6, none⟩ (.int .i64 ((rd_T24 Ab Aa).f6))).setCell ⟨Ac, 7, none⟩ (.bool ((rd_T24 Ab Aa).f7))).heap[Ac]? = some (.cells #[.int .i64 ((rd_T24 Ab Aa).f0), .int .i64 ((rd_T24 Ab Aa).f1), .int .i64 ((rd_T24 Ab Aa).f2), .int .i64 ((rd_T24 Ab Aa).f3), .int .i64 ((rd_T24 Ab Aa).f4), .slice A322_5 ((rd_T24 Ab Aa).f5).length c322_5, .int .i64 ((rd_T24 Ab Aa).f6), .bool ((rd_T24 Ab Aa).f7)] 24 (0, 0))) := ⟨by refine bz_ ?_; refine blk_put (cs := #[.int .i64 ((rd_T24 Ab Aa).f0), .int .i64 ((rd_T24 Ab Aa).f1), .int .i64 ((rd_T24 Ab Aa).f2), .int .i64 ((rd_T24 Ab Aa).f3), .int .i64 ((rd_T24 Ab Aa).f4), .slice A322_5 ((rd_T24 Ab Aa).f5).length c322_5, .int .i64 ((rd_T24 Ab Aa).f6), .bool false]) ?_ 7 _ rfl; refine bz_ ?_; refine blk_put (cs := #[.int .i64 ((rd_T24 Ab Aa).f0), .int .i64 ((rd_T24 Ab Aa).f1), .int .i64 ((rd_T24 Ab Aa).f2), .int .i64 ((rd_T24 Ab Aa).f3), .int .i64 ((rd_T24 Ab Aa).f4), .slice A322_5 ((rd_T24 Ab Aa).f5).length c322_5, .int .i64 0, .bool false]) ?_ 6 _ rfl; refine bz_ ?_; refine blk_put (cs := #[.int .i64 ((rd_T24 Ab Aa).f0), .int .i64 ((rd_T24 Ab Aa).f1), .int .i64 ((rd_T24 Ab Aa).f2), .int .i64 ((rd_T24 Ab Aa).f3), .int .i64 ((rd_T24 Ab Aa).f4), .slice none 0 0, .int .i64 0, .bool false]) ?_ 5 _ rfl; refine bz_ ?_; refine blk_put (cs := #[.int .i64 ((rd_T24 Ab Aa).f0), .int .i64 ((rd_T24 Ab Aa).f1), .int .i64 ((rd_T24 Ab Aa).f2), .int .i64 ((rd_T24 Ab Aa).f3), .int .i64 0, .slice none 0 0, .int .i64 0, .bool false]) ?_ 4 _ rfl; refine bz_ ?_; refine blk_put (cs := #[.int .i64 ((rd_T24 Ab Aa).f0), .int .i64 ((rd_T24 Ab Aa).f1), .int .i64 ((rd_T24 Ab Aa).f2), .int .i64 0, .int .i64 0, .slice none 0 0, .int .i64 0, .bool false]) ?_ 3 _ rfl; refine bz_ ?_; refine blk_put (cs := #[.int .i64 ((rd_T24 Ab Aa).f0), .int .i64 ((rd_T24 Ab Aa).f1), .int .i64 0, .int .i64 0, .int .i64 0, .slice none 0 0, .int .i64 0, .bool false]) ?_ 2 _ rfl; refine bz_ ?_; refine blk_put (cs := #[.int .i64 ((rd_T24 Ab Aa).f0), .int .i64 0, .int .i64 0, .int .i64 0, .int .i64 0, .slice none 0 0, .int .i64 0, .bool false]) ?_ 1 _ rfl; refine bz_ ?_; refine blk_put (cs := #[.int .i64 0, .int .i64 0, .int .i64 0, .int .i64 0, .int .i64 0, .slice none 0 0, .int .i64 0, .bool false]) ?_ 0 _ rfl; refine bz_ ?_; exact Av.out⟩
           have n2_ : Aside0 (Below w.heap.size w ((((((((w35.setCell ⟨Ac, 0, none⟩ (.int .i64 ((rd_T24 Ab Aa).f0))).setCell ⟨Ac, 1, none⟩ (.int .i64 ((rd_T24 Ab Aa).f1))).setCell ⟨Ac, 2, none⟩ (.int .i64 ((rd_T24 Ab Aa).f2))).setCell ⟨Ac, 3, none⟩ (.int .i64 ((rd_T24 Ab Aa).f3))).setCell ⟨Ac, 4, none⟩ (.int .i64 ((rd_T24 Ab Aa).f4))).setCell ⟨Ac, 5, none⟩ (.slice A322_5 ((rd_T24 Ab Aa).f5).length c322_5)).setCell ⟨Ac, 6, none⟩ (.int .i64 ((rd_T24 Ab Aa).f6))).setCell ⟨Ac, 7, none⟩ (.bool ((rd_T24 Ab Aa).f7)))) := ⟨bw_q HB⟩
           (try clear Ad); (try clear Av); (try clear HB)
           generalize ((((((((w35.setCell ⟨Ac, 0, none⟩ (.int .i64 ((rd_T24 Ab Aa).f0))).setCell ⟨Ac, 1, none⟩ (.int .i64 ((rd_T24 Ab Aa).f1))).setCell ⟨Ac, 2, none⟩ (.int .i64 ((rd_T24 Ab Aa).f2))).setCell ⟨Ac, 3, none⟩ (.int .i64 ((rd_T24 Ab Aa).f3))).setCell ⟨Ac, 4, none⟩ (.int .i64 ((rd_T24 Ab Aa).f4))).setCell ⟨Ac, 5, none⟩ (.slice A322_5 ((rd_T24 Ab Aa).f5).length c322_5)).setCell ⟨Ac, 6, none⟩ (.int .i64 ((rd_T24 Ab Aa).f6))).setCell ⟨Ac, 7, none⟩ (.bool ((rd_T24 Ab Aa).f7))) = w39 at n0_ n1_ n2_ ⊢
           have Ad := n0_; have Av := n1_; have HB := n2_; clear n0_ n1_ n2_; (try clear An); (try clear Ao); (try clear Ap); (try clear Aq); (try clear Ar); (try clear As); (try clear At); (try clear Au); have H := Fj.out; clear Fj
           by_cases c40 : ((rd_T24 Ab Aa).f0) = 9
           ·rw [if_pos c40] at H
            have Bc : (((rd_T24 Ab Aa).f0) == 9) = true := bqi c40
            have Bd : (((rd_T24 Ab Aa).f0) != 9) = false := bnf c40
            clear c40
            (first | rw [Bc] | rw [Bd] | (simp only [i64_w, i32_w]; first | rw [Bc] | rw [Bd]) | skip)
            have H' := ak H; clear H
            go_wp2
            go_roundg k2
            case measure => have := HJ1.out; have := Dt.out; omega
            case rel => exact ⟨(wrap64 (Aa + 1)), rs_q, H', ⟨by have := HJ1.out; have := Dt.out; omega⟩, ⟨bk_q Ad⟩, ⟨bw_q HB⟩⟩
           ·rw [if_neg c40] at H
            have Bc : (((rd_T24 Ab Aa).f0) == 9) = false := bqf c40
            have Bd : (((rd_T24 Ab Aa).f0) != 9) = true := bni c40
            (first | rw [Bc] | rw [Bd] | (simp only [i64_w, i32_w]; first | rw [Bc] | rw [Bd]) | skip)
            obtain rfl := Option.some.inj H
            go_wp2
            go_ret
            exact ⟨er_q, bw_q HB⟩
         ·rw [if_neg c26] at H
          exact absurd H (by simp)
        ·rw [if_neg c25] at H
         exact absurd H (by simp)
       ·rw [if_neg c24] at H
        have Fk : decide (Aa < (Ab.length : Int)) = false := decide_eq_false c24
        clear c24
        by_cases c41 : (Ag.length : Int) = 0
        ·rw [if_pos c41] at H
         have Fp : ((Ag.length : Int) == 0) = true := bqi c41
         have Fq : ((Ag.length : Int) != 0) = false := bnf c41
         clear c41; replace H := bsi H; obtain ⟨Fx, A420, H⟩ := H
         (try dsimp only at H)
         have A42 := ak A420; clear A420
         by_cases c43 : Fx = true
         ·subst c43; rw [if_pos rfl] at H
          by_cases c44 : Af = 3
          ·rw [if_pos c44] at H
           have Fr : (Af == 3) = true := bqi c44
           have Fs : (Af != 3) = false := bnf c44
           clear c44; obtain rfl := Option.some.inj H; obtain ⟨Id, Ie, If, Ig, Ih, Ii, Ij, Ik, Il, Im, In, Io⟩ := cf6_ Ad
           go_wp2_with (first | (go_at_call 77; (with_reducible refine (impl_StoreOk.calls k2 _ _ Ab true _ ?side1 ?side2 A42.out).mono ?_); (case side1 => exact cs_q (Kd.C_below Bb.out HB.out)); (case side2 => exact Be.out); rintro e w46 ⟨rfl, hb⟩; replace Ad := ak (blk_below (g := Ah) (bk_q Ad) hb); replace HB := ak (below_step (bw_q HB) hb); obtain ⟨Ip, Iq, Ir, Is, It, Iu, Iv, Iw, Ix, Iy, Iz, Ja⟩ := cf6_ Ad))
           go_ret
           exact ⟨er_q, bw_q HB⟩
          ·rw [if_neg c44] at H
           have Fr : (Af == 3) = false := bqf c44
           have Fs : (Af != 3) = true := bni c44
           replace H := bsi H; obtain ⟨Fy, A480, H⟩ := H
           (try dsimp only at H)
           have A48 := ak A480; clear A480; obtain rfl := Option.some.inj H; obtain ⟨Jb, Jc, Jd, Je, Jf, Jg, Jh, Ji, Jj, Jk, Jl, Jm⟩ := cf6_ Ad
           go_wp2_with (first | (go_at_call 77; (with_reducible refine (impl_StoreOk.calls k2 _ _ Ab true _ ?side1 ?side2 A42.out).mono ?_); (case side1 => exact cs_q (Kd.C_below Bb.out HB.out)); (case side2 => exact Be.out); rintro e w50 ⟨rfl, hb⟩; replace Ad := ak (blk_below (g := Ah) (bk_q Ad) hb); replace HB := ak (below_step (bw_q HB) hb); obtain ⟨Jn, Jo, Jp, Jq, Jr, Js, Jt, Ju, Jv, Jw, Jx, Jy⟩ := cf6_ Ad) | (go_at_call 78; (with_reducible refine (impl_sumsOk.calls k2 _ _ Ab Fy _ ?side1 ?side2 A48.out).mono ?_); (case side1 => exact cs_q (Kd.C_below Bb.out HB.out)); (case side2 => exact Be.out); rintro e w52 ⟨rfl, hb⟩; replace Ad := ak (blk_below (g := Ah) (bk_q Ad) hb); replace HB := ak (below_step (bw_q HB) hb)))
           go_ret
           exact ⟨er_q, bw_q HB⟩
         ·replace c43 := Bool.eq_false_iff.mpr c43; subst c43
          rw [if_neg (show ¬ (false = true) by decide)] at H
          obtain rfl := Option.some.inj H; obtain ⟨Jz, Ka, Kb, Kc, Ke, Kf, Kg, Kh, Ki, Kj, Kk, Kl⟩ := cf6_ Ad
          go_wp2_with (first | (go_at_call 77; (with_reducible refine (impl_StoreOk.calls k2 _ _ Ab false _ ?side1 ?side2 A42.out).mono ?_); (case side1 => exact cs_q (Kd.C_below Bb.out HB.out)); (case side2 => exact Be.out); rintro e w54 ⟨rfl, hb⟩; replace Ad := ak (blk_below (g := Ah) (bk_q Ad) hb); replace HB := ak (below_step (bw_q HB) hb)))
          go_ret
          exact ⟨er_q, bw_q HB⟩
        ·rw [if_neg c41] at H
         have Fp : ((Ag.length : Int) == 0) = false := bqf c41
         have Fq : ((Ag.length : Int) != 0) = true := bni c41
         have Lg : ¬ (Ag = []) := fun h_ => c41 (by rw [h_]; rfl)
         obtain rfl := Option.some.inj H; obtain ⟨Km, Kn, Ko, Kp, Kq, Kr, Ks, Kt, Ku, Kv, Kw, Kx⟩ := cf6_ Ad
         go_wp2
         go_ret
         exact ⟨er_q, bw_q HB⟩

/-- A state of type 66 at block g of W; what its slices lead to came in by w0. -/
def IsS66 (w0 W : World) (g : Nat) (f0 : ByteArray) (f1 : Int) (f2 : Bool) : Prop := W.heap[g]? = some (.cells #[.string f0, .int .i64 f1, .bool f2] 66 (0, 0)) ∧ w0.heap.size ≤ g
theorem IsS66.grown {w0 W : World} {g : Nat} {f0 : ByteArray} {f1 : Int} {f2 : Bool} {W1 : World} {row : Option Nat} (h : IsS66 w0 W g f0 f1 f2) (hw : W.grownBy W1 row) (hne : some g ≠ row) : IsS66 w0 W1 g f0 f1 f2 := by
 obtain ⟨hb, hg⟩ := h
 exact ⟨blk_grown hb hw hne, hg⟩
theorem IsS66.own_neN {w0 W : World} {g : Nat} {f0 : ByteArray} {f1 : Int} {f2 : Bool} {α : Type} {d : Kd α} {e : Nat} {base : Nat} {ok : Nat → Prop} {v : Value} {xs : List α} (h : IsS66 w0 W g f0 f1 f2) (ho : Kd.N d e W base ok v xs) (ht : e ≠ 66) : some g ≠ v.ownBlock := by
 obtain ⟨hb, hg⟩ := h
 exact Kd.N_ne ho hb ht
theorem IsS66.fresh {w0 W : World} {g : Nat} {f0 : ByteArray} {f1 : Int} {f2 : Bool} (h : IsS66 w0 W g f0 f1 f2) : ∀ k, W.heap.size ≤ k → k ≠ g := by
 obtain ⟨hb, hg⟩ := h
 exact Kd.freshB hb
theorem IsS66.kept {w0 W : World} {g : Nat} {f0 : ByteArray} {f1 : Int} {f2 : Bool} {W1 : World} {S : Nat → Prop} (h : IsS66 w0 W g f0 f1 f2) (hk : Kept W W1 S) (hne : ¬ S g) : IsS66 w0 W1 g f0 f1 f2 := by
 obtain ⟨hb, hg⟩ := h
 exact ⟨blk_kept hb hk hne, hg⟩
theorem IsS66.below {w0 W : World} {g : Nat} {f0 : ByteArray} {f1 : Int} {f2 : Bool} {W1 : World} (h : IsS66 w0 W g f0 f1 f2) (hw : Below W.heap.size W W1) : IsS66 w0 W1 g f0 f1 f2 := h.grown (grown_of_below hw none) (by simp)
theorem IsS66.alloc {w0 W : World} {g : Nat} {f0 : ByteArray} {f1 : Int} {f2 : Bool} (h : IsS66 w0 W g f0 f1 f2) (o : Obj) : IsS66 w0 (W.alloc o) g f0 f1 f2 := h.below (below_alloc (Below.refl _ _) o)
theorem IsS66.drewN {w0 W : World} {g : Nat} {f0 : ByteArray} {f1 : Int} {f2 : Bool} (h : IsS66 w0 W g f0 f1 f2) (m : Nat) : IsS66 w0 (W.drewN m) g f0 f1 f2 := h
theorem IsS66.drew {w0 W : World} {g : Nat} {f0 : ByteArray} {f1 : Int} {f2 : Bool} (h : IsS66 w0 W g f0 f1 f2) : IsS66 w0 W.drew g f0 f1 f2 := h
theorem IsS66.at_ {w0 W : World} {g : Nat} {f0 : ByteArray} {f1 : Int} {f2 : Bool} {w' : World} {m : Nat} (hq : W.drewN m = w') (h : IsS66 w0 W g f0 f1 f2) : IsS66 w0 w' g f0 f1 f2 := by subst hq; exact IsS66.drewN h m
theorem IsS66.apart {w0 W : World} {g : Nat} {f0 : ByteArray} {f1 : Int} {f2 : Bool} {α : Type} {d : Kd α} {e : Nat} {base : Nat} {ok : Nat → Prop} {v : Value} {xs : List α} (h : IsS66 w0 W g f0 f1 f2) (ho : d.R e W base ok v xs) (ht : ∀ q, q ∈ e :: d.E → q ≠ 66) : d.R e W base (fun k => ok k ∧ k ≠ g) v xs := by
 obtain ⟨hb, hg⟩ := h
 exact Kd.R_types ho hb ht
theorem IsS66.own_ne {w0 W : World} {g : Nat} {f0 : ByteArray} {f1 : Int} {f2 : Bool} {α : Type} {d : Kd α} {e : Nat} {base : Nat} {ok : Nat → Prop} {v : Value} {xs : List α} (h : IsS66 w0 W g f0 f1 f2) (ho : d.R e W base ok v xs) (ht : e ≠ 66) : some g ≠ v.ownBlock := by
 obtain ⟨hb, hg⟩ := h
 exact Kd.R_ne ho hb ht
theorem IsS66.apartQ {w0 W : World} {g : Nat} {f0 : ByteArray} {f1 : Int} {f2 : Bool} {α : Type} {d : Kd α} {e : Nat} {base : Nat} {ok : Nat → Prop} {v : Value} {xs : List α} (h : IsS66 w0 W g f0 f1 f2) (ho : d.Q e W base ok v xs) (ht : ∀ q, q ∈ e :: d.E → q ≠ 66) : d.Q e W base (fun k => ok k ∧ k ≠ g) v xs := by
 obtain ⟨hb, hg⟩ := h
 exact Kd.Q_types ho hb ht
theorem IsS66.own_neQ {w0 W : World} {g : Nat} {f0 : ByteArray} {f1 : Int} {f2 : Bool} {α : Type} {d : Kd α} {e : Nat} {base : Nat} {ok : Nat → Prop} {v : Value} {xs : List α} (h : IsS66 w0 W g f0 f1 f2) (ho : d.Q e W base ok v xs) (ht : e ≠ 66) : some g ≠ v.ownBlock := by
 obtain ⟨hb, hg⟩ := h
 exact Kd.Q_ne ho hb ht
theorem IsS66.apartS {w0 W : World} {g : Nat} {f0 : ByteArray} {f1 : Int} {f2 : Bool} {α : Type} {d : Kd α} {e : Nat} {base : Nat} {ok : Nat → Prop} {v : Value} {xs : List α} (h : IsS66 w0 W g f0 f1 f2) (ho : d.S e W base ok v xs) (ht : ∀ q, q ∈ e :: d.E → q ≠ 66) : d.S e W base (fun k => ok k ∧ k ≠ g) v xs := by
 obtain ⟨hb, hg⟩ := h
 exact Kd.S_types ho hb ht
theorem IsS66.own_neS {w0 W : World} {g : Nat} {f0 : ByteArray} {f1 : Int} {f2 : Bool} {α : Type} {d : Kd α} {e : Nat} {base : Nat} {ok : Nat → Prop} {v : Value} {xs : List α} (h : IsS66 w0 W g f0 f1 f2) (ho : d.S e W base ok v xs) (ht : e ≠ 66) : some g ≠ v.ownBlock := by
 obtain ⟨hb, hg⟩ := h
 exact Kd.S_ne ho hb ht
theorem IsS66.lt {w0 W : World} {g : Nat} {f0 : ByteArray} {f1 : Int} {f2 : Bool} (h : IsS66 w0 W g f0 f1 f2) : g < W.heap.size := by
 obtain ⟨hb, hg⟩ := h
 exact blk_lt hb
theorem IsS66.ge {w0 W : World} {g : Nat} {f0 : ByteArray} {f1 : Int} {f2 : Bool} (h : IsS66 w0 W g f0 f1 f2) : w0.heap.size ≤ g := by
 obtain ⟨hb, hg⟩ := h
 exact hg
theorem IsS66.ne_blk {w0 W : World} {g : Nat} {f0 : ByteArray} {f1 : Int} {f2 : Bool} {a : Nat} {cs : Array Value} {t : TypeId} {fr : Nat × Nat} (h : IsS66 w0 W g f0 f1 f2) (hb2 : W.heap[a]? = some (.cells cs t fr)) (ht : t ≠ 66) : g ≠ a := by
 obtain ⟨hb, hg⟩ := h
 rintro rfl
 rw [hb] at hb2
 injection hb2 with hb2
 injection hb2 with _ ht2
 exact ht ht2.symm
theorem IsS66.far {w0 W : World} {g : Nat} {f0 : ByteArray} {f1 : Int} {f2 : Bool} {p : Addr} (h : IsS66 w0 W g f0 f1 f2) (hne : g ≠ p.block) (u : Value) : IsS66 w0 (W.setCell p u) g f0 f1 f2 := by
 obtain ⟨hb, hg⟩ := h
 exact ⟨blk_far hb hne u, hg⟩
theorem cellS66_0 {W : World} {g : Nat} {f0 : ByteArray} {f1 : Int} {f2 : Bool} (h : W.heap[g]? = some (.cells #[.string f0, .int .i64 f1, .bool f2] 66 (0, 0))) : W.cell? ⟨g, 0, none⟩ = some (.string f0) := (blk_cell h 0).trans rfl
theorem IsS66.set_0 {w0 W : World} {g : Nat} {f0 : ByteArray} {f1 : Int} {f2 : Bool} (h : IsS66 w0 W g f0 f1 f2) (x : ByteArray) : IsS66 w0 (W.setCell ⟨g, 0, none⟩ (.string x)) g x f1 f2 := by
 obtain ⟨hb, hg⟩ := h
 exact ⟨by simpa using blk_set hb 0 (.string x), hg⟩
theorem cellS66_1 {W : World} {g : Nat} {f0 : ByteArray} {f1 : Int} {f2 : Bool} (h : W.heap[g]? = some (.cells #[.string f0, .int .i64 f1, .bool f2] 66 (0, 0))) : W.cell? ⟨g, 1, none⟩ = some (.int .i64 f1) := (blk_cell h 1).trans rfl
theorem IsS66.set_1 {w0 W : World} {g : Nat} {f0 : ByteArray} {f1 : Int} {f2 : Bool} (h : IsS66 w0 W g f0 f1 f2) (x : Int) : IsS66 w0 (W.setCell ⟨g, 1, none⟩ (.int .i64 x)) g f0 x f2 := by
 obtain ⟨hb, hg⟩ := h
 exact ⟨by simpa using blk_set hb 1 (.int .i64 x), hg⟩
theorem cellS66_2 {W : World} {g : Nat} {f0 : ByteArray} {f1 : Int} {f2 : Bool} (h : W.heap[g]? = some (.cells #[.string f0, .int .i64 f1, .bool f2] 66 (0, 0))) : W.cell? ⟨g, 2, none⟩ = some (.bool f2) := (blk_cell h 2).trans rfl
theorem IsS66.set_2 {w0 W : World} {g : Nat} {f0 : ByteArray} {f1 : Int} {f2 : Bool} (h : IsS66 w0 W g f0 f1 f2) (x : Bool) : IsS66 w0 (W.setCell ⟨g, 2, none⟩ (.bool x)) g f0 f1 x := by
 obtain ⟨hb, hg⟩ := h
 exact ⟨by simpa using blk_set hb 2 (.bool x), hg⟩
theorem IsS66.new (w0 W : World) (f0 : ByteArray) (f1 : Int) (f2 : Bool) (hB : Below w0.heap.size w0 W) : IsS66 w0 (W.alloc (.cells #[.string f0, .int .i64 f1, .bool f2] 66)) W.heap.size f0 f1 f2 := ⟨by simpa using heap_alloc_new W _, hB.size⟩

theorem sq66 {p q : Prop} (h : Aside0 p) (hq : p → q := by intro h; repeat (first | (with_reducible first | exact h | apply IsS66.alloc | apply IsS66.drewN | apply IsS66.drew | apply IsS66.set_0 | apply IsS66.set_1 | apply IsS66.set_2 | refine IsS66.far ?_ (Aside0.out (by with_reducible assumption)) _) | exact h)) : q := hq h.out
theorem bs66 {p q : Prop} (h : Aside0 p) (hq : p → q := by intro h; repeat (first | (with_reducible first | exact h | apply below_alloc | apply pw_below_drewN | apply below_drew1 | refine below_set ?_ (Aside0.out (by with_reducible assumption)) | refine below_set ?_ (IsS66.ge (Aside0.out (by with_reducible assumption)))) | exact h)) : q := hq h.out
/-! ### impl_reader_one: function 41 -/
def impl_reader_one.f (s0_0 : ByteArray) (s0_1 : Int) (s0_2 : Bool) : Option (Int × ByteArray × Int × Bool) := if s0_2 = true then (some (0, s0_0, s0_1, true)) else (if s0_1 ≥ (s0_0.size : Int) then (some (0, s0_0, s0_1, true)) else (if 0 ≤ (wrap64 ((wrap64 (s0_1 + 1)) - 1)) then (if (wrap64 ((wrap64 (s0_1 + 1)) - 1)) < (s0_0.size : Int) then (some (wrap64 (bt s0_0 (wrap64 ((wrap64 (s0_1 + 1)) - 1))), s0_0, wrap64 (s0_1 + 1), s0_2)) else (none)) else (none)))
set_option maxHeartbeats 8000000 in
set_option maxRecDepth 100000 in
theorem impl_reader_one.calls (g : Nat) (s0_0 : ByteArray) (s0_1 : Int) (s0_2 : Bool) (r1 : Int) (r2 : ByteArray) (r3 : Int) (r4 : Bool) (w0 w : World) (hI : IsS66 w0 w g s0_0 s0_1 s0_2) (hB : Below w0.heap.size w0 w) (h : impl_reader_one.f s0_0 s0_1 s0_2 = some (r1, r2, r3, r4)) :
  Calls Try.prog 41 #[.pointer (some ⟨g, 0, none⟩)] w fun e w' => e = .returned (.int .i64 r1) ∧ IsS66 w0 w' g r2 r3 r4 ∧ Below w0.heap.size w0 w' ∧ KeepBut w w' g none := by
 have Ad := ak hI; have HK := ak (KeepBut.refl w g none); have HL := ak hB.size; clear hI; have HW0 := ak hB.size; have HB := ak hB; clear hB; have H := h
 clear h; unfold impl_reader_one.f at H
 by_cases c2 : s0_2 = true
 ·subst c2; rw [if_pos rfl] at H
  simp only [Option.some.injEq, Prod.mk.injEq] at H
  obtain ⟨rfl, rfl, rfl, rfl⟩ := H; obtain ⟨Ab, hgz3⟩ := Ad.out; have Al := cellS66_0 Ab; have Am := cellS66_1 Ab; have An := cellS66_2 Ab; have Ao := blk_frozen Ab 0; have Ap := blk_frozen Ab 1; have Aq := blk_frozen Ab 2; clear Ab hgz3
  go_enter Try.func41, Try.ntmps41
  go_wp2
  repeat (go_quiet (fail); try go_wp2)
  go_ret
  exact ⟨er_q, (sq66 Ad), (bs66 HB), kb_q HK⟩
 ·replace c2 := Bool.eq_false_iff.mpr c2; subst c2
  rw [if_neg (show ¬ (false = true) by decide)] at H
  by_cases c4 : s0_1 ≥ (s0_0.size : Int)
  ·rw [if_pos c4] at H
   have Ae : decide ((s0_0.size : Int) ≤ s0_1) = true := decide_eq_true c4
   clear c4
   simp only [Option.some.injEq, Prod.mk.injEq] at H
   obtain ⟨rfl, rfl, rfl, rfl⟩ := H; obtain ⟨Ac, hgz5⟩ := Ad.out; have Ar := cellS66_0 Ac; have As := cellS66_1 Ac; have At := cellS66_2 Ac; have Au := blk_frozen Ac 0; have Av := blk_frozen Ac 1; have Aw := blk_frozen Ac 2; clear Ac hgz5
   go_enter Try.func41, Try.ntmps41
   go_wp2
   repeat (go_quiet (fail); try go_wp2)
   go_ret
   exact ⟨er_q, (sq66 Ad), (bs66 HB), kb_q HK⟩
  ·rw [if_neg c4] at H
   have Ae : decide ((s0_0.size : Int) ≤ s0_1) = false := decide_eq_false c4
   clear c4; obtain ⟨ji6, hji6⟩ : ∃ j_ : Int, (wrap64 ((wrap64 (s0_1 + 1)) - 1)) = j_ := ⟨_, rfl⟩
   replace H : (if 0 ≤ (ji6) then (if (ji6) < (s0_0.size : Int) then (some (wrap64 (bt s0_0 (ji6)), s0_0, wrap64 (s0_1 + 1), false)) else (none)) else (none)) = some (r1, r2, r3, r4) := by first | (rw [hji6] at H; exact H) | (simp only [hji6] at H ⊢; exact H)
   have hji6w : (IntKind.i64.wrap ((wrap64 (s0_1 + 1)) - 1)) = ji6 := (i64_w _).trans hji6
   by_cases c7 : 0 ≤ (ji6)
   ·rw [if_pos c7] at H
    have Ax : decide (0 ≤ (ji6)) = true := decide_eq_true c7
    clear c7
    by_cases c8 : (ji6) < (s0_0.size : Int)
    ·rw [if_pos c8] at H
     have Ay : decide ((ji6) < (s0_0.size : Int)) = true := decide_eq_true c8
     clear c8
     simp only [Option.some.injEq, Prod.mk.injEq] at H
     obtain ⟨rfl, rfl, rfl, rfl⟩ := H; obtain ⟨Aa, hgz10⟩ := Ad.out; have Af := cellS66_0 Aa; have Ag := cellS66_1 Aa; have Ah := cellS66_2 Aa; have Ai := blk_frozen Aa 0; have Aj := blk_frozen Aa 1; have Ak := blk_frozen Aa 2; clear Aa hgz10
     have p9 : 0 ≤ ((ji6) : Int) := of_decide_eq_true as_q
     have q9 : (ji6) < (s0_0.size : Int) := of_decide_eq_true as_q
     have hx9 := bt_at s0_0 (ji6); replace p9 := eq_true p9; replace q9 := eq_true q9
     go_enter Try.func41, Try.ntmps41
     go_wp2
     repeat (go_quiet (fail); try go_wp2)
     go_ret
     exact ⟨by first | rfl | (simp [errW_none, errW_some] <;> rfl) | (simp only [← hji6]; first | rfl | (simp [errW_none, errW_some] <;> rfl)) | (simp [*, errW_none, errW_some] <;> rfl), (sq66 Ad), (bs66 HB), kb_q HK⟩
    ·rw [if_neg c8] at H
     exact absurd H (by simp)
   ·rw [if_neg c7] at H
    exact absurd H (by simp)

/-! ### impl_ReadVar: function 83 -/
mutual
def impl_ReadVar.l0 : Nat → ByteArray → Int → Int → Int → Int → Option (Int × Int × Bool)
 | 0, _, _, _, _, _ => none
 | k + 1, b, c, d, e, a => if a < (b.size : Int) then (impl_ReadVar.j1 k b c d e a (decide (a < (wrap64 (c + 5))))) else (impl_ReadVar.j1 k b c d e a false)
def impl_ReadVar.j1 : Nat → ByteArray → Int → Int → Int → Int → Bool → Option (Int × Int × Bool)
 | 0, _, _, _, _, _, _ => none
 | k + 1, b, e, d, c, a, g => if g = true then (if 0 ≤ a then (if a < (b.size : Int) then (if (wrap64 (bt b a)) < 128 then (if (wrap64 (bt b a)) = 0 then (if a > e then (some (0, 0, false)) else (if (wrap64 (d + (wrap64 ((Int.tmod (wrap64 (bt b a)) 128) * c)))) > 1000000000 then (some (0, 0, false)) else (some (wrap64 (d + (wrap64 ((Int.tmod (wrap64 (bt b a)) 128) * c))), wrap64 (a + 1), true)))) else (if (wrap64 (d + (wrap64 ((Int.tmod (wrap64 (bt b a)) 128) * c)))) > 1000000000 then (some (0, 0, false)) else (some (wrap64 (d + (wrap64 ((Int.tmod (wrap64 (bt b a)) 128) * c))), wrap64 (a + 1), true)))) else (impl_ReadVar.l0 k b e (wrap64 (d + (wrap64 ((Int.tmod (wrap64 (bt b a)) 128) * c)))) (wrap64 (c * 128)) (wrap64 (a + 1)))) else (none)) else (none)) else (some (0, 0, false))
end
def impl_ReadVar.f (k : Nat) (a0 : ByteArray) (a1 : Int) : Option (Int × Int × Bool) := (impl_in.f a1 0 (a0.size : Int)).bind fun a => (if a = true then (impl_ReadVar.l0 k a0 a1 0 1 a1) else (some (0, 0, false)))
theorem impl_ReadVar.mono_l : ∀ k, (∀ y0 y1 y2 y3 y4, LeO (impl_ReadVar.l0 k y0 y1 y2 y3 y4) (impl_ReadVar.l0 (k + 1) y0 y1 y2 y3 y4)) ∧ (∀ y0 y1 y2 y3 y4 y5, LeO (impl_ReadVar.j1 k y0 y1 y2 y3 y4 y5) (impl_ReadVar.j1 (k + 1) y0 y1 y2 y3 y4 y5))
 | 0 => ⟨fun _ _ _ _ _ r h => by simp [impl_ReadVar.l0] at h, fun _ _ _ _ _ _ r h => by simp [impl_ReadVar.j1] at h⟩
 | k + 1 => by
  obtain ⟨ih0, ih1⟩ := impl_ReadVar.mono_l k
  refine ⟨?_, ?_⟩
  ·intro y0 y1 y2 y3 y4
   unfold impl_ReadVar.l0
   with_reducible repeat' (first | apply ih0 | apply ih1 | exact LeO.refl _ | exact LeO.none _ | refine LeO.ite ?_ ?_ | refine LeO.bind ?_ (fun _ => ?_))
  ·intro y0 y1 y2 y3 y4 y5
   unfold impl_ReadVar.j1
   with_reducible repeat' (first | apply ih0 | apply ih1 | exact LeO.refl _ | exact LeO.none _ | refine LeO.ite ?_ ?_ | refine LeO.bind ?_ (fun _ => ?_))
theorem impl_ReadVar.mono : ∀ a0 a1 k, LeO (impl_ReadVar.f k a0 a1) (impl_ReadVar.f (k + 1) a0 a1) := by
 intro a0 a1 k
 obtain ⟨ih0, ih1⟩ := impl_ReadVar.mono_l k
 unfold impl_ReadVar.f
 with_reducible repeat' (first | apply ih0 | apply ih1 | exact LeO.refl _ | exact LeO.none _ | refine LeO.ite ?_ ?_ | refine LeO.bind ?_ (fun _ => ?_))
set_option maxHeartbeats 8000000 in
set_option maxRecDepth 100000 in
theorem impl_ReadVar.calls (k : Nat) (a0 : ByteArray) (a1 : Int) (r1 : Int) (r2 : Int) (r3 : Bool) (w : World) (h : impl_ReadVar.f k a0 a1 = some (r1, r2, r3)) :
  Calls Try.prog 83 #[.string a0, .int .i64 a1] w fun e w' => e = .returned (.tuple #[.int .i64 r1, .int .i64 r2, .bool r3]) ∧ Drawn0 w w' := by
 have H := h
 clear h; unfold impl_ReadVar.f at H; replace H := bsi H; obtain ⟨Ah, A30, H⟩ := H
 (try dsimp only at H)
 have A3 := ak A30; clear A30; have Ap := ak H; clear H
 go_enter Try.func83, Try.ntmps83
 go_upto_if 15 with (first | ((with_reducible refine gate_callee (f := 69) rfl ?_); refine goesL_ (some 14) rfl rfl Try.func69 (by kernel_rfl) rfl #[.int .i64 a1, .int .i64 0, .int .i64 (a0.size : Int)] rfl mp_q ?_; (with_reducible refine (impl_in.calls a1 0 (a0.size : Int) Ah _ A3.out).mono ?_); rintro e w' ⟨rfl, ⟨nd, rfl⟩⟩; refine ⟨_, rfl, ?_⟩))
 have H := Ap.out; clear Ap
 by_cases c5 : Ah = true
 ·subst c5; rw [if_pos rfl] at H; have H' := ak H; clear H
  go_wp2
  go_loopg [7, 8, 9] k (fun kq v7 v8 v9 w' => ∃ (Ac : Int) (Ab : Int) (Aa : Int), v7 = .int .i64 Ac ∧ v8 = .int .i64 Ab ∧ v9 = .int .i64 Aa ∧ Aside0 (impl_ReadVar.l0 kq a0 a1 Ac Ab Aa = some (r1, r2, r3)) ∧ Aside0 (kq ≤ k) ∧ Drawn0 w w')
  case atStart => exact ⟨(0), (1), (a1), rs_q, rs_q, rs_q, H', ⟨Nat.le_refl _⟩, by repeat (first | exact Drawn0.refl _ | apply Drawn0.step)⟩
  case round =>
   clear H'; (try clear p2); (try clear c5); obtain ⟨Ac, Ab, Aa, rfl, rfl, rfl, HA, Ag, ⟨m1, rfl⟩⟩ := hrel
   cases gk with
   | zero => exact absurd HA.out (by simp [impl_ReadVar.l0])
   | succ k1 =>
    have H := HA.out; clear HA
    simp only [impl_ReadVar.l0] at H
    have Ai := ak H; clear H
    go_upto_region 5 with (fail)
    go_cut [26] (fun v26 wc => ∃ (kq : Nat) (Ae : Bool), v26 = .bool Ae ∧ Aside0 (impl_ReadVar.j1 kq a0 a1 Ac Ab Aa Ae = some (r1, r2, r3)) ∧ Aside0 (kq ≤ k1) ∧ Drawn0 w wc)
    case first =>
     have H := Ai.out; clear Ai
     by_cases c7 : Aa < (a0.size : Int)
     ·rw [if_pos c7] at H
      have Ad : decide (Aa < (a0.size : Int)) = true := decide_eq_true c7
      clear c7
      (first | rw [Ad] | rw [Af] | (simp only [i64_w, i32_w]; first | rw [Ad] | rw [Af]) | skip)
      have H' := ak H; clear H
      go_wp2
      go_meet
      case rel => exact ⟨_, (decide (Aa < (wrap64 (a1 + 5)))), rs_q, H', ⟨by have := Ag.out; first | omega | exact Nat.le_refl _⟩, by repeat (first | exact Drawn0.refl _ | apply Drawn0.step)⟩
     ·rw [if_neg c7] at H
      have Ad : decide (Aa < (a0.size : Int)) = false := decide_eq_false c7
      clear c7
      (first | rw [Ad] | rw [Af] | (simp only [i64_w, i32_w]; first | rw [Ad] | rw [Af]) | skip)
      have H' := ak H; clear H
      go_wp2
      go_meet
      case rel => exact ⟨_, (false), rs_q, H', ⟨by have := Ag.out; first | omega | exact Nat.le_refl _⟩, by repeat (first | exact Drawn0.refl _ | apply Drawn0.step)⟩
    case rest =>
     clear Ai; (try clear p2); (try clear c5); (try clear c6); (try clear p6); (try clear c7); (try clear Ad); (try clear Af); (try clear p2); obtain ⟨kq, Ae, rfl, HA, HJ5, ⟨mc5, rfl⟩⟩ := hcut
     cases kq with
     | zero => exact absurd HA.out (by simp [impl_ReadVar.j1])
     | succ kj5 =>
      have H := HA.out; clear HA
      simp only [impl_ReadVar.j1] at H
      by_cases c8 : Ae = true
      ·subst c8; rw [if_pos rfl] at H
       by_cases c9 : 0 ≤ Aa
       ·rw [if_pos c9] at H
        have Ar : decide (0 ≤ Aa) = true := decide_eq_true c9
        clear c9
        by_cases c10 : Aa < (a0.size : Int)
        ·rw [if_pos c10] at H
         have Aq : decide (Aa < (a0.size : Int)) = true := decide_eq_true c10
         clear c10
         by_cases c12 : (wrap64 (bt a0 Aa)) < 128
         ·rw [if_pos c12] at H
          have Aj : decide ((wrap64 (bt a0 Aa)) < 128) = true := decide_eq_true c12
          clear c12
          by_cases c13 : (wrap64 (bt a0 Aa)) = 0
          ·rw [if_pos c13] at H
           have Ak : ((wrap64 (bt a0 Aa)) == 0) = true := bqi c13
           have Al : ((wrap64 (bt a0 Aa)) != 0) = false := bnf c13
           clear c13
           by_cases c14 : Aa > a1
           ·rw [if_pos c14] at H
            have Am : decide (a1 < Aa) = true := decide_eq_true c14
            clear c14
            simp only [Option.some.injEq, Prod.mk.injEq] at H
            obtain ⟨rfl, rfl, rfl⟩ := H
            have p11 : 0 ≤ (Aa : Int) := of_decide_eq_true as_q
            have q11 : Aa < (a0.size : Int) := of_decide_eq_true as_q
            have hx11 := bt_at a0 Aa; replace p11 := eq_true p11; replace q11 := eq_true q11
            go_wp2
            go_ret3
            exact ⟨rs_q, dr_q⟩
           ·rw [if_neg c14] at H
            have Am : decide (a1 < Aa) = false := decide_eq_false c14
            clear c14
            by_cases c15 : (wrap64 (Ac + (wrap64 ((Int.tmod (wrap64 (bt a0 Aa)) 128) * Ab)))) > 1000000000
            ·rw [if_pos c15] at H
             have An : decide (1000000000 < (wrap64 (Ac + (wrap64 ((Int.tmod (wrap64 (bt a0 Aa)) 128) * Ab))))) = true := decide_eq_true c15
             clear c15
             simp only [Option.some.injEq, Prod.mk.injEq] at H
             obtain ⟨rfl, rfl, rfl⟩ := H
             have p11 : 0 ≤ (Aa : Int) := of_decide_eq_true as_q
             have q11 : Aa < (a0.size : Int) := of_decide_eq_true as_q
             have hx11 := bt_at a0 Aa; replace p11 := eq_true p11; replace q11 := eq_true q11
             go_wp2
             go_ret3
             exact ⟨rs_q, dr_q⟩
            ·rw [if_neg c15] at H
             have An : decide (1000000000 < (wrap64 (Ac + (wrap64 ((Int.tmod (wrap64 (bt a0 Aa)) 128) * Ab))))) = false := decide_eq_false c15
             clear c15
             simp only [Option.some.injEq, Prod.mk.injEq] at H
             obtain ⟨rfl, rfl, rfl⟩ := H
             have p11 : 0 ≤ (Aa : Int) := of_decide_eq_true as_q
             have q11 : Aa < (a0.size : Int) := of_decide_eq_true as_q
             have hx11 := bt_at a0 Aa; replace p11 := eq_true p11; replace q11 := eq_true q11
             go_wp2
             go_ret3
             exact ⟨rs_q, dr_q⟩
          ·rw [if_neg c13] at H
           have Ak : ((wrap64 (bt a0 Aa)) == 0) = false := bqf c13
           have Al : ((wrap64 (bt a0 Aa)) != 0) = true := bni c13
           by_cases c16 : (wrap64 (Ac + (wrap64 ((Int.tmod (wrap64 (bt a0 Aa)) 128) * Ab)))) > 1000000000
           ·rw [if_pos c16] at H
            have Ao : decide (1000000000 < (wrap64 (Ac + (wrap64 ((Int.tmod (wrap64 (bt a0 Aa)) 128) * Ab))))) = true := decide_eq_true c16
            clear c16
            simp only [Option.some.injEq, Prod.mk.injEq] at H
            obtain ⟨rfl, rfl, rfl⟩ := H
            have p11 : 0 ≤ (Aa : Int) := of_decide_eq_true as_q
            have q11 : Aa < (a0.size : Int) := of_decide_eq_true as_q
            have hx11 := bt_at a0 Aa; replace p11 := eq_true p11; replace q11 := eq_true q11
            go_wp2
            go_ret3
            exact ⟨rs_q, dr_q⟩
           ·rw [if_neg c16] at H
            have Ao : decide (1000000000 < (wrap64 (Ac + (wrap64 ((Int.tmod (wrap64 (bt a0 Aa)) 128) * Ab))))) = false := decide_eq_false c16
            clear c16
            simp only [Option.some.injEq, Prod.mk.injEq] at H
            obtain ⟨rfl, rfl, rfl⟩ := H
            have p11 : 0 ≤ (Aa : Int) := of_decide_eq_true as_q
            have q11 : Aa < (a0.size : Int) := of_decide_eq_true as_q
            have hx11 := bt_at a0 Aa; replace p11 := eq_true p11; replace q11 := eq_true q11
            go_wp2
            go_ret3
            exact ⟨rs_q, dr_q⟩
         ·rw [if_neg c12] at H
          have Aj : decide ((wrap64 (bt a0 Aa)) < 128) = false := decide_eq_false c12
          clear c12; have H' := ak H; clear H
          have p11 : 0 ≤ (Aa : Int) := of_decide_eq_true as_q
          have q11 : Aa < (a0.size : Int) := of_decide_eq_true as_q
          have hx11 := bt_at a0 Aa; replace p11 := eq_true p11; replace q11 := eq_true q11
          go_wp2
          go_roundg kj5
          case measure => have := Ag.out; have := HJ5.out; omega
          case rel => exact ⟨(wrap64 (Ac + (wrap64 ((Int.tmod (wrap64 (bt a0 Aa)) 128) * Ab)))), (wrap64 (Ab * 128)), (wrap64 (Aa + 1)), rs_q, rs_q, rs_q, H', ⟨by have := Ag.out; have := HJ5.out; omega⟩, by repeat (first | exact Drawn0.refl _ | apply Drawn0.step)⟩
        ·rw [if_neg c10] at H
         exact absurd H (by simp)
       ·rw [if_neg c9] at H
        exact absurd H (by simp)
      ·replace c8 := Bool.eq_false_iff.mpr c8; subst c8
       rw [if_neg (show ¬ (false = true) by decide)] at H
       simp only [Option.some.injEq, Prod.mk.injEq] at H
       obtain ⟨rfl, rfl, rfl⟩ := H
       go_wp2
       go_ret3
       exact ⟨rs_q, dr_q⟩
 ·replace c5 := Bool.eq_false_iff.mpr c5; subst c5
  rw [if_neg (show ¬ (false = true) by decide)] at H
  simp only [Option.some.injEq, Prod.mk.injEq] at H
  obtain ⟨rfl, rfl, rfl⟩ := H
  go_wp2
  go_ret3
  exact ⟨rs_q, dr_q⟩

/-! ### impl_reader_num: function 42 -/
def impl_reader_num.f (k : Nat) (s0_0 : ByteArray) (s0_1 : Int) (s0_2 : Bool) : Option (Int × ByteArray × Int × Bool) := (impl_ReadVar.f k s0_0 s0_1).bind fun a => (if s0_2 = true then (some (0, s0_0, s0_1, true)) else (if a.2.2 = true then (some (a.1, s0_0, a.2.1, s0_2)) else (some (0, s0_0, s0_1, true))))
theorem impl_reader_num.mono : ∀ a0 a1 a2 k, LeO (impl_reader_num.f k a0 a1 a2) (impl_reader_num.f (k + 1) a0 a1 a2) := by
 intro a0 a1 a2 k
 unfold impl_reader_num.f
 with_reducible repeat' (first | apply impl_ReadVar.mono | exact LeO.refl _ | exact LeO.none _ | refine LeO.ite ?_ ?_ | refine LeO.bind ?_ (fun _ => ?_))
set_option maxHeartbeats 8000000 in
set_option maxRecDepth 100000 in
theorem impl_reader_num.calls (k : Nat) (g : Nat) (s0_0 : ByteArray) (s0_1 : Int) (s0_2 : Bool) (r1 : Int) (r2 : ByteArray) (r3 : Int) (r4 : Bool) (w0 w : World) (hI : IsS66 w0 w g s0_0 s0_1 s0_2) (hB : Below w0.heap.size w0 w) (h : impl_reader_num.f k s0_0 s0_1 s0_2 = some (r1, r2, r3, r4)) :
  Calls Try.prog 42 #[.pointer (some ⟨g, 0, none⟩)] w fun e w' => e = .returned (.int .i64 r1) ∧ IsS66 w0 w' g r2 r3 r4 ∧ Below w0.heap.size w0 w' ∧ KeepBut w w' g none := by
 have Ai := ak hI; have HK := ak (KeepBut.refl w g none); have HL := ak hB.size; clear hI; have HW0 := ak hB.size; have HB := ak hB; clear hB; have H := h
 clear h; unfold impl_reader_num.f at H; replace H := bsi H; obtain ⟨⟨Ag, Ah, Ac⟩, A20, H⟩ := H
 (try dsimp only at H)
 have A2 := ak A20; clear A20
 by_cases c3 : s0_2 = true
 ·subst c3; rw [if_pos rfl] at H; have Aj := ak H; clear H; obtain ⟨Ad, hgz5⟩ := Ai.out; have Ax := cellS66_0 Ad; have Ay := cellS66_1 Ad; have Az := cellS66_2 Ad; have Ba := blk_frozen Ad 0; have Bb := blk_frozen Ad 1; have Bc := blk_frozen Ad 2; clear Ad hgz5
  go_enter Try.func42, Try.ntmps42
  go_upto_if 26 with (first | (go_at_call 83; (with_reducible refine (impl_ReadVar.calls k s0_0 s0_1 Ag Ah Ac _ A2.out).mono ?_); rintro e w' ⟨rfl, ⟨nd, rfl⟩⟩; (try first | exact ⟨rfl, _, World.drewN_drewN _ _ _⟩ | exact ⟨rfl, _, Eq.trans (World.drewN_drewN _ _ _) (congrArg (World.drewN _) (Nat.add_assoc _ _ _))⟩)))
  repeat (go_quiet (first | (go_at_call 83; (with_reducible refine (impl_ReadVar.calls k s0_0 s0_1 Ag Ah Ac _ A2.out).mono ?_); rintro e w' ⟨rfl, ⟨nd, rfl⟩⟩; (try first | exact ⟨rfl, _, World.drewN_drewN _ _ _⟩ | exact ⟨rfl, _, Eq.trans (World.drewN_drewN _ _ _) (congrArg (World.drewN _) (Nat.add_assoc _ _ _))⟩))); go_upto_if 26 with (first | (go_at_call 83; (with_reducible refine (impl_ReadVar.calls k s0_0 s0_1 Ag Ah Ac _ A2.out).mono ?_); rintro e w' ⟨rfl, ⟨nd, rfl⟩⟩; (try first | exact ⟨rfl, _, World.drewN_drewN _ _ _⟩ | exact ⟨rfl, _, Eq.trans (World.drewN_drewN _ _ _) (congrArg (World.drewN _) (Nat.add_assoc _ _ _))⟩))))
  have H := Aj.out; clear Aj
  simp only [Option.some.injEq, Prod.mk.injEq] at H
  obtain ⟨rfl, rfl, rfl, rfl⟩ := H; obtain ⟨Ae, hgz6⟩ := Ai.out; have Bd := cellS66_0 Ae; have Be := cellS66_1 Ae; have Bf := cellS66_2 Ae; have Bg := blk_frozen Ae 0; have Bh := blk_frozen Ae 1; have Bi := blk_frozen Ae 2; clear Ae hgz6
  go_wp2
  repeat (go_quiet (fail); try go_wp2)
  go_ret
  exact ⟨er_q, (sq66 Ai), (bs66 HB), kb_q HK⟩
 ·replace c3 := Bool.eq_false_iff.mpr c3; subst c3
  rw [if_neg (show ¬ (false = true) by decide)] at H
  have Ak := ak H; clear H; obtain ⟨Af, hgz8⟩ := Ai.out; have Bj := cellS66_0 Af; have Bk := cellS66_1 Af; have Bl := cellS66_2 Af; have Bm := blk_frozen Af 0; have Bn := blk_frozen Af 1; have Bo := blk_frozen Af 2; clear Af hgz8
  go_enter Try.func42, Try.ntmps42
  go_upto_if 26 with (first | (go_at_call 83; (with_reducible refine (impl_ReadVar.calls k s0_0 s0_1 Ag Ah Ac _ A2.out).mono ?_); rintro e w' ⟨rfl, ⟨nd, rfl⟩⟩; (try first | exact ⟨rfl, _, World.drewN_drewN _ _ _⟩ | exact ⟨rfl, _, Eq.trans (World.drewN_drewN _ _ _) (congrArg (World.drewN _) (Nat.add_assoc _ _ _))⟩)))
  repeat (go_quiet (first | (go_at_call 83; (with_reducible refine (impl_ReadVar.calls k s0_0 s0_1 Ag Ah Ac _ A2.out).mono ?_); rintro e w' ⟨rfl, ⟨nd, rfl⟩⟩; (try first | exact ⟨rfl, _, World.drewN_drewN _ _ _⟩ | exact ⟨rfl, _, Eq.trans (World.drewN_drewN _ _ _) (congrArg (World.drewN _) (Nat.add_assoc _ _ _))⟩))); go_upto_if 26 with (first | (go_at_call 83; (with_reducible refine (impl_ReadVar.calls k s0_0 s0_1 Ag Ah Ac _ A2.out).mono ?_); rintro e w' ⟨rfl, ⟨nd, rfl⟩⟩; (try first | exact ⟨rfl, _, World.drewN_drewN _ _ _⟩ | exact ⟨rfl, _, Eq.trans (World.drewN_drewN _ _ _) (congrArg (World.drewN _) (Nat.add_assoc _ _ _))⟩))))
  have H := Ak.out; clear Ak
  by_cases c9 : Ac = true
  ·subst c9; rw [if_pos rfl] at H
   simp only [Option.some.injEq, Prod.mk.injEq] at H
   obtain ⟨rfl, rfl, rfl, rfl⟩ := H; obtain ⟨Aa, hgz10⟩ := Ai.out; have Al := cellS66_0 Aa; have Am := cellS66_1 Aa; have An := cellS66_2 Aa; have Ao := blk_frozen Aa 0; have Ap := blk_frozen Aa 1; have Aq := blk_frozen Aa 2; clear Aa hgz10
   go_wp2
   repeat (go_quiet (fail); try go_wp2)
   go_ret
   exact ⟨er_q, (sq66 Ai), (bs66 HB), kb_q HK⟩
  ·replace c9 := Bool.eq_false_iff.mpr c9; subst c9
   rw [if_neg (show ¬ (false = true) by decide)] at H
   simp only [Option.some.injEq, Prod.mk.injEq] at H
   obtain ⟨rfl, rfl, rfl, rfl⟩ := H; obtain ⟨Ab, hgz11⟩ := Ai.out; have Ar := cellS66_0 Ab; have As := cellS66_1 Ab; have At := cellS66_2 Ab; have Au := blk_frozen Ab 0; have Av := blk_frozen Ab 1; have Aw := blk_frozen Ab 2; clear Ab hgz11
   go_wp2
   repeat (go_quiet (fail); try go_wp2)
   go_ret
   exact ⟨er_q, (sq66 Ai), (bs66 HB), kb_q HK⟩

end Go.Proofs.Ytnecbkognpponaa.Q
