import Derived.Test.YthjmdiggglkeaaaXFindQlawstoRecord
import Derived.Test.YthjmdiggglkeaaaXFindQimplkeyAt
/- The contract of a Go function. -/



namespace Go.Proofs.Ythjmdiggglkeaaa.Q
open Go.RowKit Go.Proofs.YthjmdiggglkeaaaW.PrintWords Go.Proofs.YthjmdiggglkeaaaW.PrintLast Go.Proofs.YthjmdiggglkeaaaW.PrintMore
attribute [local go_sem] max2_int min2_int max_two min_two max_three min_three max_four min_four   -- for this text's walks alone
set_option linter.unusedVariables false
set_option linter.unusedSimpArgs false

/-! ### impl_Find: function 37 -/
def impl_Find.f (k : Nat) (l0 : List (S61)) (c : Int) (d : Int) (e : Int) (g : Int) (h : Int) (i : List (S127)) (j : Int) (l : Bool) : Option (Int × Int × Int × Int × Int × (List (S127)) × Int × Bool × Bool) := (impl_keyAt.f k l0 c d e g h i j l).bind fun a => (if a < 0 then (some (0, 0, 0, 0, 0, ([] : List (S127)), 0, false, false)) else (if 0 ≤ a then (if a < (l0.length : Int) then ((impl_copyRecord.f ((rd_T61 l0 a).f0) ((rd_T61 l0 a).f1) ((rd_T61 l0 a).f2) ((rd_T61 l0 a).f3) ((rd_T61 l0 a).f4) ((rd_T61 l0 a).f5) ((rd_T61 l0 a).f6) ((rd_T61 l0 a).f7)).bind fun b => (some (b.1, b.2.1, b.2.2.1, b.2.2.2.1, b.2.2.2.2.1, b.2.2.2.2.2.1, b.2.2.2.2.2.2.1, b.2.2.2.2.2.2.2, true))) else (none)) else (none)))
theorem impl_Find.mono : ∀ a0 a1 a2 a3 a4 a5 a6 a7 a8 k, LeO (impl_Find.f k a0 a1 a2 a3 a4 a5 a6 a7 a8) (impl_Find.f (k + 1) a0 a1 a2 a3 a4 a5 a6 a7 a8) := by
 intro a0 a1 a2 a3 a4 a5 a6 a7 a8 k
 unfold impl_Find.f
 with_reducible repeat' (first | apply impl_keyAt.mono | exact LeO.refl _ | exact LeO.none _ | refine LeO.ite ?_ ?_ | refine LeO.bind ?_ (fun _ => ?_))
set_option maxHeartbeats 8000000 in
set_option maxRecDepth 100000 in
theorem impl_Find.calls (k : Nat) (A0 : Option Addr) (c0 : Nat) (l0 : List (S61)) (Al : Int) (Am : Int) (An : Int) (Ao : Int) (Ap : Int) (Au : Option Addr) (Av : Nat) (Ae : List (S127)) (Aq : Int) (Ar : Bool) (r1 : Int) (r2 : Int) (r3 : Int) (r4 : Int) (r5 : Int) (r6 : List (S127)) (r7 : Int) (r8 : Bool) (r9 : Bool) (w : World) (hr0 : Kd.C k61 w A0 l0.length l0) (hc0 : l0.length ≤ c0) (hr1_5 : Kd.C k127 w Au Ae.length Ae) (hc1_5 : Ae.length ≤ Av) (h : impl_Find.f k l0 Al Am An Ao Ap Ae Aq Ar = some (r1, r2, r3, r4, r5, r6, r7, r8, r9)) :
  Calls Try.prog 37 #[.slice A0 l0.length c0, .agg #[.int .i64 Al, .int .i64 Am, .int .i64 An, .int .i64 Ao, .int .i64 Ap, .slice Au Ae.length Av, .int .i64 Aq, .bool Ar]] w fun e w' => ∃ v5_ : Value, e = .returned (.tuple #[.agg #[.int .i64 r1, .int .i64 r2, .int .i64 r3, .int .i64 r4, .int .i64 r5, v5_, .int .i64 r7, .bool r8], .bool r9]) ∧ Kd.R k127 127 w' w.heap.size (fun _ => True) v5_ r6 ∧ Below w.heap.size w w' := by
 have hu61 := Try.underlying61; have HR0 := ak hr0; have Cv := ak hc0; clear hr0 hc0; have Bm := ak hr1_5; have Bn := ak hc1_5; clear hr1_5 hc1_5; have HB := ak (Below.refl w.heap.size w); have H := h
 clear h; unfold impl_Find.f at H; replace H := bsi H; obtain ⟨Aa, A30, H⟩ := H
 (try dsimp only at H)
 have A3 := ak A30; clear A30; have Bo := ak H; clear H
 go_enter Try.func37, Try.ntmps37
 go_upto_if 11 with (first | ((with_reducible refine gate_dst (N := 3) rfl ?_); refine box_q 3 #[.int .i64 Al, .int .i64 Am, .int .i64 An, .int .i64 Ao, .int .i64 Ap, .slice Au Ae.length Av, .int .i64 Aq, .bool Ar] 61 ?_; intro Ag hg w5 hbox hb; have Ac := ak (hbox); have Dm := gsz w (below_size (bw_q HB)) hg; have Dn := gsz w (below_size (bw_q HB)) hg; replace HB := ak (below_step (bw_q HB) hb); clear hb hbox hg) | ((with_reducible refine gate_dst (N := 4) rfl ?_); refine box_q 4 #[.int .i64 0, .int .i64 0, .int .i64 0, .int .i64 0, .int .i64 0, .slice none 0 0, .int .i64 0, .bool false] 61 ?_; intro Ab hg w6 hbox hb; have Ad := ak (hbox); have Do := gsz w (below_size (bw_q HB)) hg; have Dp := gsz w (below_size (bw_q HB)) hg; replace HB := ak (below_step (bw_q HB) hb); have Ai := ak ((by rw [hg]; exact Nat.ne_of_lt (blk_lt (g := Ag) (o := .cells #[.int .i64 Al, .int .i64 Am, .int .i64 An, .int .i64 Ao, .int .i64 Ap, .slice Au Ae.length Av, .int .i64 Aq, .bool Ar] 61 (0, 0)) (bk_q Ac)) : Ag ≠ Ab)); have Aj := ak ((by rw [hg]; exact Nat.ne_of_gt (blk_lt (g := Ag) (o := .cells #[.int .i64 Al, .int .i64 Am, .int .i64 An, .int .i64 Ao, .int .i64 Ap, .slice Au Ae.length Av, .int .i64 Aq, .bool Ar] 61 (0, 0)) (bk_q Ac)) : Ab ≠ Ag)); replace Ac := ak (blk_below (g := Ag) (bk_q Ac) hb); clear hb hbox hg; have Dx := Ai.out; have Dy := Aj.out; obtain ⟨Cw, Cx, Cy, Cz, Da, Db, Dc, Dd, De, Df, Dg, Dh, Di, Dj, Dk, Dl⟩ := cf8_ Ac) | ((with_reducible refine gate_callee (f := 107) rfl ?_); refine goesL_ (some 9) rfl rfl Try.func107 (by kernel_rfl) rfl #[.slice A0 l0.length c0, .agg #[.int .i64 Al, .int .i64 Am, .int .i64 An, .int .i64 Ao, .int .i64 Ap, .slice Au Ae.length Av, .int .i64 Aq, .bool Ar]] rfl mp_q ?_; (with_reducible refine (impl_keyAt.calls k _ _ l0 Al Am An Ao Ap _ _ Ae Aq Ar Aa _ ?side1 ?side2 ?side3 ?side4 A3.out).mono ?_); (case side1 => exact cs_q (Kd.C_below HR0.out HB.out)); (case side2 => exact Cv.out); (case side3 => exact cs_q (Kd.C_below Bm.out HB.out)); (case side4 => exact Bn.out); rintro e w9 ⟨rfl, hb⟩; refine ⟨_, rfl, ?_⟩; replace Ac := ak (blk_below (g := Ag) (bk_q Ac) hb); replace Ad := ak (blk_below (g := Ab) (bk_q Ad) hb); replace HB := ak (below_step (bw_q HB) hb)))
 have H := Bo.out; clear Bo
 by_cases c10 : Aa < 0
 ·rw [if_pos c10] at H
  have At : decide (Aa < 0) = true := decide_eq_true c10
  clear c10
  (first | rw [At] | rw [Bg] | (simp only [i64_w, i32_w]; first | rw [At] | rw [Bg]) | skip)
  simp only [Option.some.injEq, Prod.mk.injEq] at H
  obtain ⟨rfl, rfl, rfl, rfl, rfl, rfl, rfl, rfl, rfl⟩ := H; have Dq := Aj.out; have Dr := Ai.out; obtain ⟨Bp, Bq, Br, Bs, Bt, Bu, Bv, Bw, Bx, By, Bz, Ca, Cb, Cc, Cd, Ce⟩ := cf8_ Ad
  go_wp2
  refine bodyPost_ret (results_ct rfl _ _ Ab 61 #[.int .i64 0, .int .i64 0, .int .i64 0, .int .i64 0, .int .i64 0, .slice none 0 0, .int .i64 0, .bool false] (0, 0) _ rfl (by refine bz_ ?_; refine blk_put (cs := #[.int .i64 0, .int .i64 0, .int .i64 0, .int .i64 0, .int .i64 0, .slice none 0 0, .int .i64 0, .bool false]) ?_ 7 _ rfl; refine bz_ ?_; refine blk_put (cs := #[.int .i64 0, .int .i64 0, .int .i64 0, .int .i64 0, .int .i64 0, .slice none 0 0, .int .i64 0, .bool false]) ?_ 6 _ rfl; refine bz_ ?_; refine blk_put (cs := #[.int .i64 0, .int .i64 0, .int .i64 0, .int .i64 0, .int .i64 0, .slice none 0 0, .int .i64 0, .bool false]) ?_ 5 _ rfl; refine bz_ ?_; refine blk_put (cs := #[.int .i64 0, .int .i64 0, .int .i64 0, .int .i64 0, .int .i64 0, .slice none 0 0, .int .i64 0, .bool false]) ?_ 4 _ rfl; refine bz_ ?_; refine blk_put (cs := #[.int .i64 0, .int .i64 0, .int .i64 0, .int .i64 0, .int .i64 0, .slice none 0 0, .int .i64 0, .bool false]) ?_ 3 _ rfl; refine bz_ ?_; refine blk_put (cs := #[.int .i64 0, .int .i64 0, .int .i64 0, .int .i64 0, .int .i64 0, .slice none 0 0, .int .i64 0, .bool false]) ?_ 2 _ rfl; refine bz_ ?_; refine blk_put (cs := #[.int .i64 0, .int .i64 0, .int .i64 0, .int .i64 0, .int .i64 0, .slice none 0 0, .int .i64 0, .bool false]) ?_ 1 _ rfl; refine bz_ ?_; refine blk_put (cs := #[.int .i64 0, .int .i64 0, .int .i64 0, .int .i64 0, .int .i64 0, .slice none 0 0, .int .i64 0, .bool false]) ?_ 0 _ rfl; refine bz_ ?_; exact Ad.out) Try.underlying61 rfl (by kernel_rfl)) rfl ?_
  exact ⟨_, er_q, by first | exact Kd.R_nil _ _ _ _ _ | exact Kd.N_nil _ _ _ _ _ | exact Kd.V_nil _ _ _ _ _ | exact Kd.Q_nil _ _ _ _ _ | exact Kd.S_nil _ _ _ _ _, bw_q HB⟩
 ·rw [if_neg c10] at H
  have At : decide (Aa < 0) = false := decide_eq_false c10
  clear c10
  (first | rw [At] | rw [Bg] | (simp only [i64_w, i32_w]; first | rw [At] | rw [Bg]) | skip)
  by_cases c13 : 0 ≤ Aa
  ·rw [if_pos c13] at H
   have Ds : decide (0 ≤ Aa) = true := decide_eq_true c13
   clear c13
   by_cases c14 : Aa < (l0.length : Int)
   ·rw [if_pos c14] at H
    have Dt : decide (Aa < (l0.length : Int)) = true := decide_eq_true c14
    clear c14; replace H := bsi H; obtain ⟨⟨Af, Ah, Ak, As, Aw, Ax, Bh, Bi⟩, A150, H⟩ := H
    (try dsimp only at H)
    have A15 := ak A150; clear A150
    simp only [Option.some.injEq, Prod.mk.injEq] at H
    obtain ⟨rfl, rfl, rfl, rfl, rfl, rfl, rfl, rfl, rfl⟩ := H
    have p900 : 0 ≤ (Aa : Int) := of_decide_eq_true as_q
    have q900 : Aa < (l0.length : Int) := of_decide_eq_true as_q
    obtain ⟨Du, A900_5, c900_5, e900, Ay, Az, Ba, Bb, Bc, Bd, Be, Bf, hl900_5, hi900_5⟩ := at_T61 HR0.out Aa p900 q900
    cases e900
    replace Ay := hbc HB Ay; replace Az := hbc HB Az; replace Ba := hbc HB Ba; replace Bb := hbc HB Bb; replace Bc := hbc HB Bc; replace Bd := hbc HB Bd; replace Be := hbc HB Be; replace Bf := hbc HB Bf; have Bk := ak hi900_5; have Bl := ak hl900_5; clear hi900_5 hl900_5; replace p900 := eq_true p900; replace q900 := eq_true q900
    go_wp2_with (first | ((with_reducible refine gate_callee (f := 108) rfl ?_); refine goesL_ (some 17) rfl rfl Try.func108 (by kernel_rfl) rfl #[.agg #[.int .i64 ((rd_T61 l0 Aa).f0), .int .i64 ((rd_T61 l0 Aa).f1), .int .i64 ((rd_T61 l0 Aa).f2), .int .i64 ((rd_T61 l0 Aa).f3), .int .i64 ((rd_T61 l0 Aa).f4), .slice A900_5 ((rd_T61 l0 Aa).f5).length c900_5, .int .i64 ((rd_T61 l0 Aa).f6), .bool ((rd_T61 l0 Aa).f7)]] rfl mp_q ?_; (with_reducible refine (impl_copyRecord.calls ((rd_T61 l0 Aa).f0) ((rd_T61 l0 Aa).f1) ((rd_T61 l0 Aa).f2) ((rd_T61 l0 Aa).f3) ((rd_T61 l0 Aa).f4) _ _ ((rd_T61 l0 Aa).f5) ((rd_T61 l0 Aa).f6) ((rd_T61 l0 Aa).f7) Af Ah Ak As Aw Ax Bh Bi _ ?side1 ?side2 A15.out).mono ?_); (case side1 => exact cs_q (Kd.C_below Bk.out HB.out)); (case side2 => exact Bl.out); rintro e w16 ⟨v907, rfl, ho0, hb⟩; refine ⟨_, rfl, ?_⟩; have hs_v907 : (v907 : Value).oneCell' = true := (by first | (have h_ := Kd.R_slice ho0; obtain ⟨A_, c_, e_⟩ := h_; simp [e_, Value.oneCell']) | (have h_ := Kd.S_slice ho0; obtain ⟨A_, c_, e_⟩ := h_; simp [e_, Value.oneCell']) | (have h_ := Kd.N_slice ho0; obtain ⟨A_, c_, e_⟩ := h_; simp [e_, Value.oneCell']) | (have h_ := Kd.V_slice ho0; obtain ⟨A_, c_, e_⟩ := h_; simp [e_, Value.oneCell'])); have hst_v907 := fun (w_ : World) (a_ : Addr) m_ => run_store Try.prog w_ a_ v907 m_ hs_v907; have Bj := ak (Kd.R_lower ho0 (below_size (bw_q HB))); replace Ac := ak (blk_below (g := Ag) (bk_q Ac) hb); replace Ad := ak (blk_below (g := Ab) (bk_q Ad) hb); replace HB := ak (below_step (bw_q HB) hb); (try clear ho0); have Dv := Aj.out; have Dw := Ai.out; obtain ⟨Cf, Cg, Ch, Ci, Cj, Ck, Cl, Cm, Cn, Co, Cp, Cq, Cr, Cs, Ct, Cu⟩ := cf8_ Ad; obtain ⟨Ao19, co19, eo19⟩ := Kd.R_slice Bj.out; subst eo19))
    refine bodyPost_ret (results_ct rfl _ _ Ab 61 #[.int .i64 Af, .int .i64 Ah, .int .i64 Ak, .int .i64 As, .int .i64 Aw, .slice Ao19 Ax.length co19, .int .i64 Bh, .bool Bi] (0, 0) _ rfl (by refine bz_ ?_; refine blk_put (cs := #[.int .i64 Af, .int .i64 Ah, .int .i64 Ak, .int .i64 As, .int .i64 Aw, .slice Ao19 Ax.length co19, .int .i64 Bh, .bool false]) ?_ 7 _ rfl; refine bz_ ?_; refine blk_put (cs := #[.int .i64 Af, .int .i64 Ah, .int .i64 Ak, .int .i64 As, .int .i64 Aw, .slice Ao19 Ax.length co19, .int .i64 0, .bool false]) ?_ 6 _ rfl; refine bz_ ?_; refine blk_put (cs := #[.int .i64 Af, .int .i64 Ah, .int .i64 Ak, .int .i64 As, .int .i64 Aw, .slice none 0 0, .int .i64 0, .bool false]) ?_ 5 _ rfl; refine bz_ ?_; refine blk_put (cs := #[.int .i64 Af, .int .i64 Ah, .int .i64 Ak, .int .i64 As, .int .i64 0, .slice none 0 0, .int .i64 0, .bool false]) ?_ 4 _ rfl; refine bz_ ?_; refine blk_put (cs := #[.int .i64 Af, .int .i64 Ah, .int .i64 Ak, .int .i64 0, .int .i64 0, .slice none 0 0, .int .i64 0, .bool false]) ?_ 3 _ rfl; refine bz_ ?_; refine blk_put (cs := #[.int .i64 Af, .int .i64 Ah, .int .i64 0, .int .i64 0, .int .i64 0, .slice none 0 0, .int .i64 0, .bool false]) ?_ 2 _ rfl; refine bz_ ?_; refine blk_put (cs := #[.int .i64 Af, .int .i64 0, .int .i64 0, .int .i64 0, .int .i64 0, .slice none 0 0, .int .i64 0, .bool false]) ?_ 1 _ rfl; refine bz_ ?_; refine blk_put (cs := #[.int .i64 0, .int .i64 0, .int .i64 0, .int .i64 0, .int .i64 0, .slice none 0 0, .int .i64 0, .bool false]) ?_ 0 _ rfl; refine bz_ ?_; exact Ad.out) Try.underlying61 rfl (by kernel_rfl)) rfl ?_
    exact ⟨_, er_q, by (with_reducible repeat (first | apply Kd.R_alloc | apply Kd.R_drewN | apply Kd.R_drew)); exact Kd.R_mono (Kd.R_far (p := ⟨Ab, 7, none⟩) (Kd.R_far (p := ⟨Ab, 6, none⟩) (Kd.R_far (p := ⟨Ab, 5, none⟩) (Kd.R_far (p := ⟨Ab, 4, none⟩) (Kd.R_far (p := ⟨Ab, 3, none⟩) (Kd.R_far (p := ⟨Ab, 2, none⟩) (Kd.R_far (p := ⟨Ab, 1, none⟩) (Kd.R_far (p := ⟨Ab, 0, none⟩) (Kd.R_types Bj.out Ad.out (by decide)) (fun _ hk => hk.2) (.int .i64 Af)) (fun _ hk => hk.2) (.int .i64 Ah)) (fun _ hk => hk.2) (.int .i64 Ak)) (fun _ hk => hk.2) (.int .i64 As)) (fun _ hk => hk.2) (.int .i64 Aw)) (fun _ hk => hk.2) (.slice Ao19 Ax.length co19)) (fun _ hk => hk.2) (.int .i64 Bh)) (fun _ hk => hk.2) (.bool Bi)) (fun _ hk => trivial), bw_q HB⟩
   ·rw [if_neg c14] at H
    exact absurd H (by simp)
  ·rw [if_neg c13] at H
   exact absurd H (by simp)

/-! ### laws_eqNear: function 141 -/
def laws_eqNear.f (a : Int) (b : Int) (c : Int) (d : Int) : Option (Bool) := if a = c then (if b = d then (some true) else (some false)) else (some false)
set_option maxHeartbeats 8000000 in
set_option maxRecDepth 100000 in
theorem laws_eqNear.calls (Aa : Int) (Ab : Int) (Ad : Int) (Ae : Int) (r : Bool) (w : World) (h : laws_eqNear.f Aa Ab Ad Ae = some r) :
  Calls Try.prog 141 #[.agg #[.int .i64 Aa, .int .i64 Ab], .agg #[.int .i64 Ad, .int .i64 Ae]] w fun e w' => e = .returned (.bool r) ∧ Below w.heap.size w w' := by
 have hu127 := Try.underlying127; have HB := ak (Below.refl w.heap.size w); have H := h
 clear h; unfold laws_eqNear.f at H; have Ao := ak H; clear H
 go_enter Try.func141, Try.ntmps141
 go_upto_if 9 with (first | ((with_reducible refine gate_dst (N := 2) rfl ?_); refine box_q 2 #[.int .i64 Aa, .int .i64 Ab] 127 ?_; intro Ah hg w4 hbox hb; have Ac := ak (hbox); have Bn := gsz w (below_size (bw_q HB)) hg; have Bo := gsz w (below_size (bw_q HB)) hg; replace HB := ak (below_step (bw_q HB) hb); clear hb hbox hg) | ((with_reducible refine gate_dst (N := 3) rfl ?_); refine box_q 3 #[.int .i64 Ad, .int .i64 Ae] 127 ?_; intro Al hg w5 hbox hb; have Ak := ak (hbox); have Bp := gsz w (below_size (bw_q HB)) hg; have Bq := gsz w (below_size (bw_q HB)) hg; replace HB := ak (below_step (bw_q HB) hb); have Af := ak ((by rw [hg]; exact Nat.ne_of_lt (blk_lt (g := Ah) (o := .cells #[.int .i64 Aa, .int .i64 Ab] 127 (0, 0)) (bk_q Ac)) : Ah ≠ Al)); have Ag := ak ((by rw [hg]; exact Nat.ne_of_gt (blk_lt (g := Ah) (o := .cells #[.int .i64 Aa, .int .i64 Ab] 127 (0, 0)) (bk_q Ac)) : Al ≠ Ah)); replace Ac := ak (blk_below (g := Ah) (bk_q Ac) hb); clear hb hbox hg; have Bv := Af.out; have Bw := Ag.out; obtain ⟨Bf, Bg, Bh, Bi⟩ := cf2_ Ac; obtain ⟨Bj, Bk, Bl, Bm⟩ := cf2_ Ak))
 have H := Ao.out; clear Ao
 by_cases c9 : Aa = Ad
 ·rw [if_pos c9] at H
  have Ai : (Aa == Ad) = true := bqi c9
  have Aj : (Aa != Ad) = false := bnf c9
  clear c9
  (first | rw [Ai] | rw [Aj] | (simp only [i64_w, i32_w]; first | rw [Ai] | rw [Aj]) | skip)
  by_cases c10 : Ab = Ae
  ·rw [if_pos c10] at H
   have Am : (Ab == Ae) = true := bqi c10
   have An : (Ab != Ae) = false := bnf c10
   clear c10; obtain rfl := Option.some.inj H; have Br := Af.out; have Bs := Ag.out; obtain ⟨Ap, Aq, Ar, As⟩ := cf2_ Ac; obtain ⟨At, Au, Av, Aw⟩ := cf2_ Ak
   go_wp2
   go_ret
   exact ⟨er_q, bw_q HB⟩
  ·rw [if_neg c10] at H
   have Am : (Ab == Ae) = false := bqf c10
   have An : (Ab != Ae) = true := bni c10
   obtain rfl := Option.some.inj H; have Bt := Af.out; have Bu := Ag.out; obtain ⟨Ax, Ay, Az, Ba⟩ := cf2_ Ac; obtain ⟨Bb, Bc, Bd, Be⟩ := cf2_ Ak
   go_wp2
   go_ret
   exact ⟨er_q, bw_q HB⟩
 ·rw [if_neg c9] at H
  have Ai : (Aa == Ad) = false := bqf c9
  have Aj : (Aa != Ad) = true := bni c9
  (first | rw [Ai] | rw [Aj] | (simp only [i64_w, i32_w]; first | rw [Ai] | rw [Aj]) | skip)
  obtain rfl := Option.some.inj H
  go_wp2
  go_ret
  exact ⟨er_q, bw_q HB⟩

/-! ### laws_eqNearS: function 109 -/
def laws_eqNearS.l0 : Nat → List (S127) → List (S127) → Int → Option (Bool)
 | 0, _, _, _ => none
 | k + 1, b, c, a => if a < (b.length : Int) then (if 0 ≤ a then (if a < (c.length : Int) then ((laws_eqNear.f ((rd_T127 b a).f0) ((rd_T127 b a).f1) ((rd_T127 c a).f0) ((rd_T127 c a).f1)).bind fun d => (if d = true then (laws_eqNearS.l0 k b c (wrap64 (a + 1))) else (some false))) else (none)) else (none)) else (some true)
def laws_eqNearS.f (k : Nat) (l0 : List (S127)) (l1 : List (S127)) : Option (Bool) := if (l0.length : Int) = (l1.length : Int) then (laws_eqNearS.l0 k l0 l1 0) else (some false)
theorem laws_eqNearS.mono_l : ∀ k, (∀ y0 y1 y2, LeO (laws_eqNearS.l0 k y0 y1 y2) (laws_eqNearS.l0 (k + 1) y0 y1 y2))
 | 0 => fun _ _ _ r h => by simp [laws_eqNearS.l0] at h
 | k + 1 => by
  have ih0 := laws_eqNearS.mono_l k
  ·intro y0 y1 y2
   unfold laws_eqNearS.l0
   with_reducible repeat' (first | apply ih0 | exact LeO.refl _ | exact LeO.none _ | refine LeO.ite ?_ ?_ | refine LeO.bind ?_ (fun _ => ?_))
theorem laws_eqNearS.mono : ∀ a0 a1 k, LeO (laws_eqNearS.f k a0 a1) (laws_eqNearS.f (k + 1) a0 a1) := by
 intro a0 a1 k
 have ih0 := laws_eqNearS.mono_l k
 unfold laws_eqNearS.f
 with_reducible repeat' (first | apply ih0 | exact LeO.refl _ | exact LeO.none _ | refine LeO.ite ?_ ?_ | refine LeO.bind ?_ (fun _ => ?_))
def laws_eqNearS.T6 : Bool × List (List Nat × List Nat) := (true, [([], []), ([], []), ([0, 1], [0, 1]), ([2], [2]), ([], []), ([], []), ([4, 5], [4, 5]), ([6], [6]), ([3, 7], [3, 7]), ([8], [8])])
def laws_eqNearS.B6 : List Nat := [0, 0, 3, 7, 0, 0, 48, 112, 255, 511]
theorem laws_eqNearS.tab6 : rtab .any (opsOf Try.f109 6) = laws_eqNearS.T6 := by kernel_rfl
theorem laws_eqNearS.bits6 : waitsOk laws_eqNearS.T6.2 laws_eqNearS.B6 = true := by kernel_rfl
set_option maxHeartbeats 8000000 in
set_option maxRecDepth 100000 in
theorem laws_eqNearS.calls (k : Nat) (A0 : Option Addr) (c0 : Nat) (l0 : List (S127)) (A1 : Option Addr) (c1 : Nat) (l1 : List (S127)) (r : Bool) (w : World) (hr0 : Kd.C k127 w A0 l0.length l0) (hc0 : l0.length ≤ c0) (hr1 : Kd.C k127 w A1 l1.length l1) (hc1 : l1.length ≤ c1) (h : laws_eqNearS.f k l0 l1 = some r) :
  Calls Try.prog 109 #[.slice A0 l0.length c0, .slice A1 l1.length c1] w fun e w' => e = .returned (.bool r) ∧ Below w.heap.size w w' := by
 have hu127 := Try.underlying127; have HR0 := ak hr0; have Ap := ak hc0; clear hr0 hc0; have HR1 := ak hr1; have Aq := ak hc1; clear hr1 hc1; have HB := ak (Below.refl w.heap.size w); have H := h
 clear h; unfold laws_eqNearS.f at H
 by_cases c3 : (l0.length : Int) = (l1.length : Int)
 ·rw [if_pos c3] at H
  have Ah : ((l0.length : Int) == (l1.length : Int)) = true := bqi c3
  have Ai : ((l0.length : Int) != (l1.length : Int)) = false := bnf c3
  have Aj : (l0.length == l1.length) = true := by first | simpa using c3 | (simp at c3 ⊢; omega)
  clear c3; have H' := ak H; clear H
  go_enter Try.func109, Try.ntmps109
  go_wp2
  go_loopg [5] k (fun kq v5 w' => ∃ (Aa : Int), v5 = .int .i64 Aa ∧ Aside0 (laws_eqNearS.l0 kq l0 l1 Aa = some r) ∧ Aside0 (kq ≤ k) ∧ Aside0 (Below w.heap.size w w'))
  case atStart => exact ⟨(0), rs_q, H', ⟨Nat.le_refl _⟩, ⟨bw_q HB⟩⟩
  case round =>
   clear H'; (try clear c1); (try clear p2); (try clear c3); (try clear Ah); (try clear Ai); (try clear Aj); obtain ⟨Aa, rfl, HA, Al, HB⟩ := hrel
   cases gk with
   | zero => exact absurd HA.out (by simp [laws_eqNearS.l0])
   | succ k1 =>
    have H := HA.out; clear HA
    simp only [laws_eqNearS.l0] at H
    by_cases c4 : Aa < (l0.length : Int)
    ·rw [if_pos c4] at H
     have Am : decide (Aa < (l0.length : Int)) = true := decide_eq_true c4
     clear c4
     by_cases c5 : 0 ≤ Aa
     ·rw [if_pos c5] at H
      have An : decide (0 ≤ Aa) = true := decide_eq_true c5
      clear c5
      by_cases c6 : Aa < (l1.length : Int)
      ·rw [if_pos c6] at H
       have Ao : decide (Aa < (l1.length : Int)) = true := decide_eq_true c6
       clear c6; replace H := bsi H; obtain ⟨Ak, A70, H⟩ := H
       (try dsimp only at H)
       have A7 := ak A70; clear A70; have HZ20 := ak H; clear H
       try go_wp2
       replace HB := ak (below_drew1 HB.out)
       have p364 : 0 ≤ (Aa : Int) := of_decide_eq_true as_q
       have q364 : Aa < (l0.length : Int) := of_decide_eq_true as_q
       obtain ⟨Af, e364, Ab, Ac⟩ := at_T127 HR0.out Aa p364 q364; have hw364_1 := Ac; have hw364_0 := Ab
       cases e364
       replace Ab := hbc HB Ab; replace Ac := hbc HB Ac; replace p364 := eq_true p364; replace q364 := eq_true q364
       have p365 : 0 ≤ (Aa : Int) := of_decide_eq_true as_q
       have q365 : Aa < (l1.length : Int) := of_decide_eq_true as_q
       obtain ⟨Ag, e365, Ad, Ae⟩ := at_T127 HR1.out Aa p365 q365; have hw365_1 := Ae; have hw365_0 := Ad
       cases e365
       replace Ad := hbc HB Ad; replace Ae := hbc HB Ae; replace p365 := eq_true p365; replace q365 := eq_true q365
       refine start_ (n := 10) (S := fun w' => w'.cell? (Af.add ((Aa).toNat * 2)) = some (.int .i64 ((rd_T127 l0 Aa).f0)) ∧ w'.cell? ⟨(Af.add ((Aa).toNat * 2)).block, (Af.add ((Aa).toNat * 2)).off + 1, none⟩ = some (.int .i64 ((rd_T127 l0 Aa).f1)) ∧ w'.cell? (Ag.add ((Aa).toNat * 2)) = some (.int .i64 ((rd_T127 l1 Aa).f0)) ∧ w'.cell? ⟨(Ag.add ((Aa).toNat * 2)).block, (Ag.add ((Aa).toNat * 2)).off + 1, none⟩ = some (.int .i64 ((rd_T127 l1 Aa).f1))) (ds := []) (bL 10 0) (by kernel_rfl) rfl rfl ⟨((HB.out.cell (World.block_lt_of_cell? w _ hw364_0)).trans hw364_0), ((HB.out.cell (World.block_lt_of_cell? w _ hw364_1)).trans hw364_1), ((HB.out.cell (World.block_lt_of_cell? w _ hw365_0)).trans hw365_0), ((HB.out.cell (World.block_lt_of_cell? w _ hw365_1)).trans hw365_1)⟩ (fun hHeld => ?_); refine with_tabW laws_eqNearS.tab6 laws_eqNearS.bits6 (fun HT_ HW_ => ?_)
       generalize wr.drew = w9 at HB Ab Ac Ad Ae hHeld ⊢
       refine pq_ 0 17 (bL 10 1) HT_.out rfl rfl ?_
       refine pq_ 1 18 (bL 10 3) HT_.out rfl rfl ?_
       refine pq_ 2 19 (bL 10 7) HT_.out rfl rfl ?_
       refine pq_ 4 21 (bL 10 23) HT_.out rfl rfl ?_
       refine pq_ 5 22 (bL 10 55) HT_.out rfl rfl ?_
       refine pq_ 6 23 (bL 10 119) HT_.out rfl rfl ?_
       refine take_ (i := 3) (N := some 20) (v := ?_) (a' := ?_) (bL 10 127) rfl rfl (take_ofW HT_.out HW_.out (by kernel_rfl)) (fun _ _ _ h => h) (Or.inl ⟨by rfl, ?_⟩) hHeld ?_ ?_; rotate_left; (rintro w' ⟨s0, s1, s2, s3⟩; go_simp; with_reducible rfl); rotate_left; (exact put_q)
       refine take_ (i := 7) (N := some 24) (v := ?_) (a' := ?_) (bL 10 255) rfl rfl (take_ofW HT_.out HW_.out (by kernel_rfl)) (fun _ _ _ h => h) (Or.inl ⟨by rfl, ?_⟩) hHeld ?_ ?_; rotate_left; (rintro w' ⟨s0, s1, s2, s3⟩; go_simp; with_reducible rfl); rotate_left; (exact put_q)
       refine one_ (i := 8) (N := some 25) (bL 10 511) rfl rfl (one_of HT_.out (by kernel_rfl)) (by decide) (fun K hK => ?_)
       refine goes_ Try.func141 (by kernel_rfl) rfl #[.agg #[.int .i64 ((rd_T127 l0 Aa).f0), .int .i64 ((rd_T127 l0 Aa).f1)], .agg #[.int .i64 ((rd_T127 l1 Aa).f0), .int .i64 ((rd_T127 l1 Aa).f1)]] (by rfl) rfl rfl mp_q ?_
       with_reducible refine (laws_eqNear.calls ((rd_T127 l0 Aa).f0) ((rd_T127 l0 Aa).f1) ((rd_T127 l1 Aa).f0) ((rd_T127 l1 Aa).f1) Ak _ A7.out).mono ?_
       rintro e w10 ⟨rfl, hb⟩
       refine ⟨_, rfl, ?_⟩
       replace HB := ak (below_step (bw_q HB) hb)
       refine hK.out _ _ ⟨((HB.out.cell (World.block_lt_of_cell? w _ hw364_0)).trans hw364_0), ((HB.out.cell (World.block_lt_of_cell? w _ hw364_1)).trans hw364_1), ((HB.out.cell (World.block_lt_of_cell? w _ hw365_0)).trans hw365_0), ((HB.out.cell (World.block_lt_of_cell? w _ hw365_1)).trans hw365_1)⟩ (fun hHeld => ?_)
       clear hK K
       refine norm_ (a' := ?_) ?_ ?_; rotate_left; (show Act.put _ (some 25) _ = _; simp only [Act.put, List.setIfInBounds_toArray, List.set_cons_zero, List.set_cons_succ, i64_w, i32_w]; rfl)
       refine pq_ 9 26 (bL 10 1023) HT_.out rfl rfl ?_
       have H := HZ20.out; clear HZ20
       by_cases c8 : Ak = true
       ·subst c8; rw [if_pos rfl] at H; have H' := ak H; clear H
        refine done_ (done_of HT_.out (by kernel_rfl)) ?_
        try go_wp2
        go_roundg k1
        case measure => have := Al.out; omega
        case rel => exact ⟨(wrap64 (Aa + 1)), rs_q, H', ⟨by have := Al.out; omega⟩, ⟨bw_q HB⟩⟩
       ·replace c8 := Bool.eq_false_iff.mpr c8; subst c8
        rw [if_neg (show ¬ (false = true) by decide)] at H
        obtain rfl := Option.some.inj H
        refine done_ (done_of HT_.out (by kernel_rfl)) ?_
        try go_wp2
        go_ret
        exact ⟨er_q, bw_q HB⟩
      ·rw [if_neg c6] at H
       exact absurd H (by simp)
     ·rw [if_neg c5] at H
      exact absurd H (by simp)
    ·rw [if_neg c4] at H
     have Am : decide (Aa < (l0.length : Int)) = false := decide_eq_false c4
     clear c4; obtain rfl := Option.some.inj H
     go_wp2
     go_ret
     exact ⟨er_q, bw_q HB⟩
 ·rw [if_neg c3] at H
  have Ah : ((l0.length : Int) == (l1.length : Int)) = false := bqf c3
  have Ai : ((l0.length : Int) != (l1.length : Int)) = true := bni c3
  have Aj : (l0.length == l1.length) = false := by first | simpa using c3 | (simp at c3 ⊢; omega)
  obtain rfl := Option.some.inj H
  go_enter Try.func109, Try.ntmps109
  go_wp2
  go_ret
  exact ⟨er_q, bw_q HB⟩

/-! ### laws_eqRecord: function 38 -/
def laws_eqRecord.f (k : Nat) (a : Int) (b : Int) (c : Int) (d : Int) (e : Int) (g : List (S127)) (h : Int) (i : Bool) (j : Int) (l : Int) (m : Int) (n : Int) (o : Int) (p : List (S127)) (q : Int) (s : Bool) : Option (Bool) := if a = j then (if b = l then (if c = m then (if d = n then (if e = o then ((laws_eqNearS.f k g p).bind fun t => (if t = true then (if h = q then (if (i != s) = true then (some false) else (some true)) else (some false)) else (some false))) else (some false)) else (some false)) else (some false)) else (some false)) else (some false)
theorem laws_eqRecord.mono : ∀ a0 a1 a2 a3 a4 a5 a6 a7 a8 a9 a10 a11 a12 a13 a14 a15 k, LeO (laws_eqRecord.f k a0 a1 a2 a3 a4 a5 a6 a7 a8 a9 a10 a11 a12 a13 a14 a15) (laws_eqRecord.f (k + 1) a0 a1 a2 a3 a4 a5 a6 a7 a8 a9 a10 a11 a12 a13 a14 a15) := by
 intro a0 a1 a2 a3 a4 a5 a6 a7 a8 a9 a10 a11 a12 a13 a14 a15 k
 unfold laws_eqRecord.f
 with_reducible repeat' (first | apply laws_eqNearS.mono | exact LeO.refl _ | exact LeO.none _ | refine LeO.ite ?_ ?_ | refine LeO.bind ?_ (fun _ => ?_))
set_option maxHeartbeats 8000000 in
set_option maxRecDepth 100000 in
theorem laws_eqRecord.calls (k : Nat) (Ag : Int) (Ah : Int) (Ai : Int) (Aj : Int) (Ak : Int) (Ax : Option Addr) (Ay : Nat) (Al : List (S127)) (Am : Int) (Ae : Bool) (An : Int) (Ao : Int) (Ap : Int) (Aq : Int) (Ar : Int) (Bb : Option Addr) (Bc : Nat) (As : List (S127)) (At : Int) (Af : Bool) (r : Bool) (w : World) (hr0_5 : Kd.C k127 w Ax Al.length Al) (hc0_5 : Al.length ≤ Ay) (hr1_5 : Kd.C k127 w Bb As.length As) (hc1_5 : As.length ≤ Bc) (h : laws_eqRecord.f k Ag Ah Ai Aj Ak Al Am Ae An Ao Ap Aq Ar As At Af = some r) :
  Calls Try.prog 38 #[.agg #[.int .i64 Ag, .int .i64 Ah, .int .i64 Ai, .int .i64 Aj, .int .i64 Ak, .slice Ax Al.length Ay, .int .i64 Am, .bool Ae], .agg #[.int .i64 An, .int .i64 Ao, .int .i64 Ap, .int .i64 Aq, .int .i64 Ar, .slice Bb As.length Bc, .int .i64 At, .bool Af]] w fun e w' => e = .returned (.bool r) ∧ Below w.heap.size w w' := by
 have hu61 := Try.underlying61; have Bg := ak hr0_5; have Bh := ak hc0_5; clear hr0_5 hc0_5; have Bi := ak hr1_5; have Bj := ak hc1_5; clear hr1_5 hc1_5; have HB := ak (Below.refl w.heap.size w); have H := h
 clear h; unfold laws_eqRecord.f at H; have Bv := ak H; clear H
 go_enter Try.func38, Try.ntmps38
 go_upto_if 9 with (first | ((with_reducible refine gate_dst (N := 2) rfl ?_); refine box_q 2 #[.int .i64 Ag, .int .i64 Ah, .int .i64 Ai, .int .i64 Aj, .int .i64 Ak, .slice Ax Al.length Ay, .int .i64 Am, .bool Ae] 61 ?_; intro Au hg w4 hbox hb; have Ac := ak (hbox); have Mz := gsz w (below_size (bw_q HB)) hg; have Na := gsz w (below_size (bw_q HB)) hg; replace HB := ak (below_step (bw_q HB) hb); clear hb hbox hg) | ((with_reducible refine gate_dst (N := 3) rfl ?_); refine box_q 3 #[.int .i64 An, .int .i64 Ao, .int .i64 Ap, .int .i64 Aq, .int .i64 Ar, .slice Bb As.length Bc, .int .i64 At, .bool Af] 61 ?_; intro Bd hg w5 hbox hb; have Ad := ak (hbox); have Nb := gsz w (below_size (bw_q HB)) hg; have Nc := gsz w (below_size (bw_q HB)) hg; replace HB := ak (below_step (bw_q HB) hb); have Aa := ak ((by rw [hg]; exact Nat.ne_of_lt (blk_lt (g := Au) (o := .cells #[.int .i64 Ag, .int .i64 Ah, .int .i64 Ai, .int .i64 Aj, .int .i64 Ak, .slice Ax Al.length Ay, .int .i64 Am, .bool Ae] 61 (0, 0)) (bk_q Ac)) : Au ≠ Bd)); have Ab := ak ((by rw [hg]; exact Nat.ne_of_gt (blk_lt (g := Au) (o := .cells #[.int .i64 Ag, .int .i64 Ah, .int .i64 Ai, .int .i64 Aj, .int .i64 Ak, .slice Ax Al.length Ay, .int .i64 Am, .bool Ae] 61 (0, 0)) (bk_q Ac)) : Bd ≠ Au)); replace Ac := ak (blk_below (g := Au) (bk_q Ac) hb); clear hb hbox hg; have Nu := Aa.out; have Nv := Ab.out; obtain ⟨Lt, Lu, Lv, Lw, Lx, Ly, Lz, Ma, Mb, Mc, Md, Me, Mf, Mg, Mh, Mi⟩ := cf8_ Ac; obtain ⟨Mj, Mk, Ml, Mm, Mn, Mo, Mp, Mq, Mr, Ms, Mt, Mu, Mv, Mw, Mx, My⟩ := cf8_ Ad))
 have H := Bv.out; clear Bv
 by_cases c9 : Ag = An
 ·rw [if_pos c9] at H
  have Az : (Ag == An) = true := bqi c9
  have Ba : (Ag != An) = false := bnf c9
  clear c9
  (first | rw [Az] | rw [Ba] | (simp only [i64_w, i32_w]; first | rw [Az] | rw [Ba]) | skip)
  by_cases c10 : Ah = Ao
  ·rw [if_pos c10] at H
   have Bk : (Ah == Ao) = true := bqi c10
   have Bl : (Ah != Ao) = false := bnf c10
   clear c10
   by_cases c11 : Ai = Ap
   ·rw [if_pos c11] at H
    have Bm : (Ai == Ap) = true := bqi c11
    have Bn : (Ai != Ap) = false := bnf c11
    clear c11
    by_cases c12 : Aj = Aq
    ·rw [if_pos c12] at H
     have Bo : (Aj == Aq) = true := bqi c12
     have Bp : (Aj != Aq) = false := bnf c12
     clear c12
     by_cases c13 : Ak = Ar
     ·rw [if_pos c13] at H
      have Bq : (Ak == Ar) = true := bqi c13
      have Br : (Ak != Ar) = false := bnf c13
      clear c13; replace H := bsi H; obtain ⟨Be, A140, H⟩ := H
      (try dsimp only at H)
      have A14 := ak A140; clear A140; have Bf := ak H; clear H; have Nd := Aa.out; have Ne := Ab.out; obtain ⟨Bw, Bx, By, Bz, Ca, Cb, Cc, Cd, Ce, Cf, Cg, Ch, Ci, Cj, Ck, Cl⟩ := cf8_ Ac; obtain ⟨Cm, Cn, Co, Cp, Cq, Cr, Cs, Ct, Cu, Cv, Cw, Cx, Cy, Cz, Da, Db⟩ := cf8_ Ad
      go_upto_if 35 with (first | ((with_reducible refine gate_callee (f := 109) rfl ?_); refine goesL_ (some 34) rfl rfl Try.func109 (by kernel_rfl) rfl #[.slice Ax Al.length Ay, .slice Bb As.length Bc] rfl mp_q ?_; (with_reducible refine (laws_eqNearS.calls k _ _ Al _ _ As Be _ ?side1 ?side2 ?side3 ?side4 A14.out).mono ?_); (case side1 => exact cs_q (Kd.C_below Bg.out HB.out)); (case side2 => exact Bh.out); (case side3 => exact cs_q (Kd.C_below Bi.out HB.out)); (case side4 => exact Bj.out); rintro e w19 ⟨rfl, hb⟩; refine ⟨_, rfl, ?_⟩; replace Ac := ak (blk_below (g := Au) (bk_q Ac) hb); replace Ad := ak (blk_below (g := Bd) (bk_q Ad) hb); replace HB := ak (below_step (bw_q HB) hb)))
      have H := Bf.out; clear Bf
      by_cases c20 : Be = true
      ·subst c20; rw [if_pos rfl] at H
       by_cases c21 : Am = At
       ·rw [if_pos c21] at H
        have Av : (Am == At) = true := bqi c21
        have Aw : (Am != At) = false := bnf c21
        clear c21
        (first | rw [Av] | rw [Aw] | (simp only [i64_w, i32_w]; first | rw [Av] | rw [Aw]) | skip)
        by_cases c22 : (Ae != Af) = true
        ·rw [if_pos c22] at H
         have Bs : (Ae != Af) = true := c22
         (try (have Bt : decide (Ae = Af) = false := by simpa using c22))
         (try (have Bu : (Ae == Af) = false := by simpa using c22))
         (try (have Nf : ¬ (Ae = Af) := by simpa using c22))
         clear c22; obtain rfl := Option.some.inj H; have Ng := Aa.out; have Nh := Ab.out; obtain ⟨Dc, Dd, De, Df, Dg, Dh, Di, Dj, Dk, Dl, Dm, Dn, Do, Dp, Dq, Dr⟩ := cf8_ Ac; obtain ⟨Ds, Dt, Du, Dv, Dw, Dx, Dy, Dz, Ea, Eb, Ec, Ed, Ee, Ef, Eg, Eh⟩ := cf8_ Ad
         go_wp2
         go_ret
         exact ⟨er_q, bw_q HB⟩
        ·rw [if_neg c22] at H
         have Bs : (Ae != Af) = false := by simpa using c22
         (try (have Bt : decide (Ae = Af) = true := by simpa using c22))
         (try (have Bu : (Ae == Af) = true := by simpa using c22))
         clear c22; obtain rfl := Option.some.inj H; have Ni := Aa.out; have Nj := Ab.out; obtain ⟨Ei, Ej, Ek, El, Em, En, Eo, Ep, Eq, Er, Es, Et, Eu, Ev, Ew, Ex⟩ := cf8_ Ac; obtain ⟨Ey, Ez, Fa, Fb, Fc, Fd, Fe, Ff, Fg, Fh, Fi, Fj, Fk, Fl, Fm, Fn⟩ := cf8_ Ad
         go_wp2
         go_ret
         exact ⟨er_q, bw_q HB⟩
       ·rw [if_neg c21] at H
        have Av : (Am == At) = false := bqf c21
        have Aw : (Am != At) = true := bni c21
        (first | rw [Av] | rw [Aw] | (simp only [i64_w, i32_w]; first | rw [Av] | rw [Aw]) | skip)
        obtain rfl := Option.some.inj H; have Nk := Aa.out; have Nl := Ab.out; obtain ⟨Fo, Fp, Fq, Fr, Fs, Ft, Fu, Fv, Fw, Fx, Fy, Fz, Ga, Gb, Gc, Gd⟩ := cf8_ Ac; obtain ⟨Ge, Gf, Gg, Gh, Gi, Gj, Gk, Gl, Gm, Gn, Go, Gp, Gq, Gr, Gs, Gt⟩ := cf8_ Ad
        go_wp2
        go_ret
        exact ⟨er_q, bw_q HB⟩
      ·replace c20 := Bool.eq_false_iff.mpr c20; subst c20
       rw [if_neg (show ¬ (false = true) by decide)] at H
       obtain rfl := Option.some.inj H
       go_wp2
       go_ret
       exact ⟨er_q, bw_q HB⟩
     ·rw [if_neg c13] at H
      have Bq : (Ak == Ar) = false := bqf c13
      have Br : (Ak != Ar) = true := bni c13
      obtain rfl := Option.some.inj H; have Nm := Aa.out; have Nn := Ab.out; obtain ⟨Gu, Gv, Gw, Gx, Gy, Gz, Ha, Hb, Hc, Hd, He, Hf, Hg, Hh, Hi, Hj⟩ := cf8_ Ac; obtain ⟨Hk, Hl, Hm, Hn, Ho, Hp, Hq, Hr, Hs, Ht, Hu, Hv, Hw, Hx, Hy, Hz⟩ := cf8_ Ad
      go_wp2
      go_ret
      exact ⟨er_q, bw_q HB⟩
    ·rw [if_neg c12] at H
     have Bo : (Aj == Aq) = false := bqf c12
     have Bp : (Aj != Aq) = true := bni c12
     obtain rfl := Option.some.inj H; have No := Aa.out; have Np := Ab.out; obtain ⟨Ia, Ib, Ic, Id, Ie, If, Ig, Ih, Ii, Ij, Ik, Il, Im, In, Io, Ip⟩ := cf8_ Ac; obtain ⟨Iq, Ir, Is, It, Iu, Iv, Iw, Ix, Iy, Iz, Ja, Jb, Jc, Jd, Je, Jf⟩ := cf8_ Ad
     go_wp2
     go_ret
     exact ⟨er_q, bw_q HB⟩
   ·rw [if_neg c11] at H
    have Bm : (Ai == Ap) = false := bqf c11
    have Bn : (Ai != Ap) = true := bni c11
    obtain rfl := Option.some.inj H; have Nq := Aa.out; have Nr := Ab.out; obtain ⟨Jg, Jh, Ji, Jj, Jk, Jl, Jm, Jn, Jo, Jp, Jq, Jr, Js, Jt, Ju, Jv⟩ := cf8_ Ac; obtain ⟨Jw, Jx, Jy, Jz, Ka, Kb, Kc, Ke, Kf, Kg, Kh, Ki, Kj, Kk, Kl, Km⟩ := cf8_ Ad
    go_wp2
    go_ret
    exact ⟨er_q, bw_q HB⟩
  ·rw [if_neg c10] at H
   have Bk : (Ah == Ao) = false := bqf c10
   have Bl : (Ah != Ao) = true := bni c10
   obtain rfl := Option.some.inj H; have Ns := Aa.out; have Nt := Ab.out; obtain ⟨Kn, Ko, Kp, Kq, Kr, Ks, Kt, Ku, Kv, Kw, Kx, Ky, Kz, La, Lb, Lc⟩ := cf8_ Ac; obtain ⟨Ld, Le, Lf, Lg, Lh, Li, Lj, Lk, Ll, Lm, Ln, Lo, Lp, Lq, Lr, Ls⟩ := cf8_ Ad
   go_wp2
   go_ret
   exact ⟨er_q, bw_q HB⟩
 ·rw [if_neg c9] at H
  have Az : (Ag == An) = false := bqf c9
  have Ba : (Ag != An) = true := bni c9
  (first | rw [Az] | rw [Ba] | (simp only [i64_w, i32_w]; first | rw [Az] | rw [Ba]) | skip)
  obtain rfl := Option.some.inj H
  go_wp2
  go_ret
  exact ⟨er_q, bw_q HB⟩

/-! ### laws_eqRecordS: function 29 -/
def laws_eqRecordS.l0 : Nat → List (S61) → List (S61) → Int → Option (Bool)
 | 0, _, _, _ => none
 | k + 1, b, c, a => if a < (b.length : Int) then (if 0 ≤ a then (if a < (c.length : Int) then ((laws_eqRecord.f k ((rd_T61 b a).f0) ((rd_T61 b a).f1) ((rd_T61 b a).f2) ((rd_T61 b a).f3) ((rd_T61 b a).f4) ((rd_T61 b a).f5) ((rd_T61 b a).f6) ((rd_T61 b a).f7) ((rd_T61 c a).f0) ((rd_T61 c a).f1) ((rd_T61 c a).f2) ((rd_T61 c a).f3) ((rd_T61 c a).f4) ((rd_T61 c a).f5) ((rd_T61 c a).f6) ((rd_T61 c a).f7)).bind fun d => (if d = true then (laws_eqRecordS.l0 k b c (wrap64 (a + 1))) else (some false))) else (none)) else (none)) else (some true)
def laws_eqRecordS.f (k : Nat) (l0 : List (S61)) (l1 : List (S61)) : Option (Bool) := if (l0.length : Int) = (l1.length : Int) then (laws_eqRecordS.l0 k l0 l1 0) else (some false)
theorem laws_eqRecordS.mono_l : ∀ k, (∀ y0 y1 y2, LeO (laws_eqRecordS.l0 k y0 y1 y2) (laws_eqRecordS.l0 (k + 1) y0 y1 y2))
 | 0 => fun _ _ _ r h => by simp [laws_eqRecordS.l0] at h
 | k + 1 => by
  have ih0 := laws_eqRecordS.mono_l k
  ·intro y0 y1 y2
   unfold laws_eqRecordS.l0
   with_reducible repeat' (first | apply ih0 | apply laws_eqRecord.mono | exact LeO.refl _ | exact LeO.none _ | refine LeO.ite ?_ ?_ | refine LeO.bind ?_ (fun _ => ?_))
theorem laws_eqRecordS.mono : ∀ a0 a1 k, LeO (laws_eqRecordS.f k a0 a1) (laws_eqRecordS.f (k + 1) a0 a1) := by
 intro a0 a1 k
 have ih0 := laws_eqRecordS.mono_l k
 unfold laws_eqRecordS.f
 with_reducible repeat' (first | apply ih0 | apply laws_eqRecord.mono | exact LeO.refl _ | exact LeO.none _ | refine LeO.ite ?_ ?_ | refine LeO.bind ?_ (fun _ => ?_))
def laws_eqRecordS.T6 : Bool × List (List Nat × List Nat) := (true, [([], []), ([], []), ([0, 1], [0, 1]), ([2], [2]), ([], []), ([], []), ([4, 5], [4, 5]), ([6], [6]), ([3, 7], [3, 7]), ([8], [8])])
def laws_eqRecordS.B6 : List Nat := [0, 0, 3, 7, 0, 0, 48, 112, 255, 511]
theorem laws_eqRecordS.tab6 : rtab .any (opsOf Try.f29 6) = laws_eqRecordS.T6 := by kernel_rfl
theorem laws_eqRecordS.bits6 : waitsOk laws_eqRecordS.T6.2 laws_eqRecordS.B6 = true := by kernel_rfl
set_option maxHeartbeats 8000000 in
set_option maxRecDepth 100000 in
theorem laws_eqRecordS.calls (k : Nat) (A0 : Option Addr) (c0 : Nat) (l0 : List (S61)) (A1 : Option Addr) (c1 : Nat) (l1 : List (S61)) (r : Bool) (w : World) (hr0 : Kd.C k61 w A0 l0.length l0) (hc0 : l0.length ≤ c0) (hr1 : Kd.C k61 w A1 l1.length l1) (hc1 : l1.length ≤ c1) (h : laws_eqRecordS.f k l0 l1 = some r) :
  Calls Try.prog 29 #[.slice A0 l0.length c0, .slice A1 l1.length c1] w fun e w' => e = .returned (.bool r) ∧ Below w.heap.size w w' := by
 have hu61 := Try.underlying61; have HR0 := ak hr0; have Bf := ak hc0; clear hr0 hc0; have HR1 := ak hr1; have Bg := ak hc1; clear hr1 hc1; have HB := ak (Below.refl w.heap.size w); have H := h
 clear h; unfold laws_eqRecordS.f at H
 by_cases c3 : (l0.length : Int) = (l1.length : Int)
 ·rw [if_pos c3] at H
  have Ax : ((l0.length : Int) == (l1.length : Int)) = true := bqi c3
  have Ay : ((l0.length : Int) != (l1.length : Int)) = false := bnf c3
  have Az : (l0.length == l1.length) = true := by first | simpa using c3 | (simp at c3 ⊢; omega)
  clear c3; have H' := ak H; clear H
  go_enter Try.func29, Try.ntmps29
  go_wp2
  go_loopg [5] k (fun kq v5 w' => ∃ (Aa : Int), v5 = .int .i64 Aa ∧ Aside0 (laws_eqRecordS.l0 kq l0 l1 Aa = some r) ∧ Aside0 (kq ≤ k) ∧ Aside0 (Below w.heap.size w w'))
  case atStart => exact ⟨(0), rs_q, H', ⟨Nat.le_refl _⟩, ⟨bw_q HB⟩⟩
  case round =>
   clear H'; (try clear c1); (try clear c2); (try clear p2); (try clear c3); (try clear Ax); (try clear Ay); (try clear Az); obtain ⟨Aa, rfl, HA, Bb, HB⟩ := hrel
   cases gk with
   | zero => exact absurd HA.out (by simp [laws_eqRecordS.l0])
   | succ k1 =>
    have H := HA.out; clear HA
    simp only [laws_eqRecordS.l0] at H
    by_cases c4 : Aa < (l0.length : Int)
    ·rw [if_pos c4] at H
     have Bc : decide (Aa < (l0.length : Int)) = true := decide_eq_true c4
     clear c4
     by_cases c5 : 0 ≤ Aa
     ·rw [if_pos c5] at H
      have Bd : decide (0 ≤ Aa) = true := decide_eq_true c5
      clear c5
      by_cases c6 : Aa < (l1.length : Int)
      ·rw [if_pos c6] at H
       have Be : decide (Aa < (l1.length : Int)) = true := decide_eq_true c6
       clear c6; replace H := bsi H; obtain ⟨Ba, A70, H⟩ := H
       (try dsimp only at H)
       have A7 := ak A70; clear A70; have HZ21 := ak H; clear H
       try go_wp2
       replace HB := ak (below_drew1 HB.out)
       have p370 : 0 ≤ (Aa : Int) := of_decide_eq_true as_q
       have q370 : Aa < (l0.length : Int) := of_decide_eq_true as_q
       obtain ⟨Ab, A370_5, c370_5, e370, Ad, Ae, Af, Ag, Ah, Ai, Aj, Ak, hl370_5, hi370_5⟩ := at_T61 HR0.out Aa p370 q370; have hw370_7 := Ak; have hw370_6 := Aj; have hw370_5 := Ai; have hw370_4 := Ah; have hw370_3 := Ag; have hw370_2 := Af; have hw370_1 := Ae; have hw370_0 := Ad
       cases e370
       replace Ad := hbc HB Ad; replace Ae := hbc HB Ae; replace Af := hbc HB Af; replace Ag := hbc HB Ag; replace Ah := hbc HB Ah; replace Ai := hbc HB Ai; replace Aj := hbc HB Aj; replace Ak := hbc HB Ak; have At := ak hi370_5; have Av := ak hl370_5; clear hi370_5 hl370_5; replace p370 := eq_true p370; replace q370 := eq_true q370
       have p371 : 0 ≤ (Aa : Int) := of_decide_eq_true as_q
       have q371 : Aa < (l1.length : Int) := of_decide_eq_true as_q
       obtain ⟨Ac, A371_5, c371_5, e371, Al, Am, An, Ao, Ap, Aq, Ar, As, hl371_5, hi371_5⟩ := at_T61 HR1.out Aa p371 q371; have hw371_7 := As; have hw371_6 := Ar; have hw371_5 := Aq; have hw371_4 := Ap; have hw371_3 := Ao; have hw371_2 := An; have hw371_1 := Am; have hw371_0 := Al
       cases e371
       replace Al := hbc HB Al; replace Am := hbc HB Am; replace An := hbc HB An; replace Ao := hbc HB Ao; replace Ap := hbc HB Ap; replace Aq := hbc HB Aq; replace Ar := hbc HB Ar; replace As := hbc HB As; have Au := ak hi371_5; have Aw := ak hl371_5; clear hi371_5 hl371_5; replace p371 := eq_true p371; replace q371 := eq_true q371
       refine start_ (n := 10) (S := fun w' => w'.cell? (Ab.add ((Aa).toNat * 8)) = some (.int .i64 ((rd_T61 l0 Aa).f0)) ∧ w'.cell? ⟨(Ab.add ((Aa).toNat * 8)).block, (Ab.add ((Aa).toNat * 8)).off + 1, none⟩ = some (.int .i64 ((rd_T61 l0 Aa).f1)) ∧ w'.cell? ⟨(Ab.add ((Aa).toNat * 8)).block, (Ab.add ((Aa).toNat * 8)).off + 2, none⟩ = some (.int .i64 ((rd_T61 l0 Aa).f2)) ∧ w'.cell? ⟨(Ab.add ((Aa).toNat * 8)).block, (Ab.add ((Aa).toNat * 8)).off + 3, none⟩ = some (.int .i64 ((rd_T61 l0 Aa).f3)) ∧ w'.cell? ⟨(Ab.add ((Aa).toNat * 8)).block, (Ab.add ((Aa).toNat * 8)).off + 4, none⟩ = some (.int .i64 ((rd_T61 l0 Aa).f4)) ∧ w'.cell? ⟨(Ab.add ((Aa).toNat * 8)).block, (Ab.add ((Aa).toNat * 8)).off + 5, none⟩ = some (.slice A370_5 ((rd_T61 l0 Aa).f5).length c370_5) ∧ w'.cell? ⟨(Ab.add ((Aa).toNat * 8)).block, (Ab.add ((Aa).toNat * 8)).off + 6, none⟩ = some (.int .i64 ((rd_T61 l0 Aa).f6)) ∧ w'.cell? ⟨(Ab.add ((Aa).toNat * 8)).block, (Ab.add ((Aa).toNat * 8)).off + 7, none⟩ = some (.bool ((rd_T61 l0 Aa).f7)) ∧ w'.cell? (Ac.add ((Aa).toNat * 8)) = some (.int .i64 ((rd_T61 l1 Aa).f0)) ∧ w'.cell? ⟨(Ac.add ((Aa).toNat * 8)).block, (Ac.add ((Aa).toNat * 8)).off + 1, none⟩ = some (.int .i64 ((rd_T61 l1 Aa).f1)) ∧ w'.cell? ⟨(Ac.add ((Aa).toNat * 8)).block, (Ac.add ((Aa).toNat * 8)).off + 2, none⟩ = some (.int .i64 ((rd_T61 l1 Aa).f2)) ∧ w'.cell? ⟨(Ac.add ((Aa).toNat * 8)).block, (Ac.add ((Aa).toNat * 8)).off + 3, none⟩ = some (.int .i64 ((rd_T61 l1 Aa).f3)) ∧ w'.cell? ⟨(Ac.add ((Aa).toNat * 8)).block, (Ac.add ((Aa).toNat * 8)).off + 4, none⟩ = some (.int .i64 ((rd_T61 l1 Aa).f4)) ∧ w'.cell? ⟨(Ac.add ((Aa).toNat * 8)).block, (Ac.add ((Aa).toNat * 8)).off + 5, none⟩ = some (.slice A371_5 ((rd_T61 l1 Aa).f5).length c371_5) ∧ w'.cell? ⟨(Ac.add ((Aa).toNat * 8)).block, (Ac.add ((Aa).toNat * 8)).off + 6, none⟩ = some (.int .i64 ((rd_T61 l1 Aa).f6)) ∧ w'.cell? ⟨(Ac.add ((Aa).toNat * 8)).block, (Ac.add ((Aa).toNat * 8)).off + 7, none⟩ = some (.bool ((rd_T61 l1 Aa).f7))) (ds := []) (bL 10 0) (by kernel_rfl) rfl rfl ⟨((HB.out.cell (World.block_lt_of_cell? w _ hw370_0)).trans hw370_0), ((HB.out.cell (World.block_lt_of_cell? w _ hw370_1)).trans hw370_1), ((HB.out.cell (World.block_lt_of_cell? w _ hw370_2)).trans hw370_2), ((HB.out.cell (World.block_lt_of_cell? w _ hw370_3)).trans hw370_3), ((HB.out.cell (World.block_lt_of_cell? w _ hw370_4)).trans hw370_4), ((HB.out.cell (World.block_lt_of_cell? w _ hw370_5)).trans hw370_5), ((HB.out.cell (World.block_lt_of_cell? w _ hw370_6)).trans hw370_6), ((HB.out.cell (World.block_lt_of_cell? w _ hw370_7)).trans hw370_7), ((HB.out.cell (World.block_lt_of_cell? w _ hw371_0)).trans hw371_0), ((HB.out.cell (World.block_lt_of_cell? w _ hw371_1)).trans hw371_1), ((HB.out.cell (World.block_lt_of_cell? w _ hw371_2)).trans hw371_2), ((HB.out.cell (World.block_lt_of_cell? w _ hw371_3)).trans hw371_3), ((HB.out.cell (World.block_lt_of_cell? w _ hw371_4)).trans hw371_4), ((HB.out.cell (World.block_lt_of_cell? w _ hw371_5)).trans hw371_5), ((HB.out.cell (World.block_lt_of_cell? w _ hw371_6)).trans hw371_6), ((HB.out.cell (World.block_lt_of_cell? w _ hw371_7)).trans hw371_7)⟩ (fun hHeld => ?_); refine with_tabW laws_eqRecordS.tab6 laws_eqRecordS.bits6 (fun HT_ HW_ => ?_)
       generalize wr.drew = w9 at HB At Au Ad Ae Af Ag Ah Ai Aj Ak Al Am An Ao Ap Aq Ar As hHeld ⊢
       refine pq_ 0 17 (bL 10 1) HT_.out rfl rfl ?_
       refine pq_ 1 18 (bL 10 3) HT_.out rfl rfl ?_
       refine pq_ 2 19 (bL 10 7) HT_.out rfl rfl ?_
       refine pq_ 4 21 (bL 10 23) HT_.out rfl rfl ?_
       refine pq_ 5 22 (bL 10 55) HT_.out rfl rfl ?_
       refine pq_ 6 23 (bL 10 119) HT_.out rfl rfl ?_
       refine take_ (i := 3) (N := some 20) (v := ?_) (a' := ?_) (bL 10 127) rfl rfl (take_ofW HT_.out HW_.out (by kernel_rfl)) (fun _ _ _ h => h) (Or.inl ⟨by rfl, ?_⟩) hHeld ?_ ?_; rotate_left; (rintro w' ⟨s0, s1, s2, s3, s4, s5, s6, s7, s8, s9, s10, s11, s12, s13, s14, s15⟩; go_simp; with_reducible rfl); rotate_left; (exact put_q)
       refine take_ (i := 7) (N := some 24) (v := ?_) (a' := ?_) (bL 10 255) rfl rfl (take_ofW HT_.out HW_.out (by kernel_rfl)) (fun _ _ _ h => h) (Or.inl ⟨by rfl, ?_⟩) hHeld ?_ ?_; rotate_left; (rintro w' ⟨s0, s1, s2, s3, s4, s5, s6, s7, s8, s9, s10, s11, s12, s13, s14, s15⟩; go_simp; with_reducible rfl); rotate_left; (exact put_q)
       refine one_ (i := 8) (N := some 25) (bL 10 511) rfl rfl (one_of HT_.out (by kernel_rfl)) (by decide) (fun K hK => ?_)
       refine goes_ Try.func38 (by kernel_rfl) rfl #[.agg #[.int .i64 ((rd_T61 l0 Aa).f0), .int .i64 ((rd_T61 l0 Aa).f1), .int .i64 ((rd_T61 l0 Aa).f2), .int .i64 ((rd_T61 l0 Aa).f3), .int .i64 ((rd_T61 l0 Aa).f4), .slice A370_5 ((rd_T61 l0 Aa).f5).length c370_5, .int .i64 ((rd_T61 l0 Aa).f6), .bool ((rd_T61 l0 Aa).f7)], .agg #[.int .i64 ((rd_T61 l1 Aa).f0), .int .i64 ((rd_T61 l1 Aa).f1), .int .i64 ((rd_T61 l1 Aa).f2), .int .i64 ((rd_T61 l1 Aa).f3), .int .i64 ((rd_T61 l1 Aa).f4), .slice A371_5 ((rd_T61 l1 Aa).f5).length c371_5, .int .i64 ((rd_T61 l1 Aa).f6), .bool ((rd_T61 l1 Aa).f7)]] (by rfl) rfl rfl mp_q ?_
       with_reducible refine (laws_eqRecord.calls k1 ((rd_T61 l0 Aa).f0) ((rd_T61 l0 Aa).f1) ((rd_T61 l0 Aa).f2) ((rd_T61 l0 Aa).f3) ((rd_T61 l0 Aa).f4) _ _ ((rd_T61 l0 Aa).f5) ((rd_T61 l0 Aa).f6) ((rd_T61 l0 Aa).f7) ((rd_T61 l1 Aa).f0) ((rd_T61 l1 Aa).f1) ((rd_T61 l1 Aa).f2) ((rd_T61 l1 Aa).f3) ((rd_T61 l1 Aa).f4) _ _ ((rd_T61 l1 Aa).f5) ((rd_T61 l1 Aa).f6) ((rd_T61 l1 Aa).f7) Ba _ ?side1 ?side2 ?side3 ?side4 A7.out).mono ?_
       (case side1 => exact cs_q (Kd.C_below At.out HB.out))
       (case side2 => exact Av.out)
       (case side3 => exact cs_q (Kd.C_below Au.out HB.out))
       (case side4 => exact Aw.out)
       rintro e w10 ⟨rfl, hb⟩
       refine ⟨_, rfl, ?_⟩
       replace HB := ak (below_step (bw_q HB) hb)
       refine hK.out _ _ ⟨((HB.out.cell (World.block_lt_of_cell? w _ hw370_0)).trans hw370_0), ((HB.out.cell (World.block_lt_of_cell? w _ hw370_1)).trans hw370_1), ((HB.out.cell (World.block_lt_of_cell? w _ hw370_2)).trans hw370_2), ((HB.out.cell (World.block_lt_of_cell? w _ hw370_3)).trans hw370_3), ((HB.out.cell (World.block_lt_of_cell? w _ hw370_4)).trans hw370_4), ((HB.out.cell (World.block_lt_of_cell? w _ hw370_5)).trans hw370_5), ((HB.out.cell (World.block_lt_of_cell? w _ hw370_6)).trans hw370_6), ((HB.out.cell (World.block_lt_of_cell? w _ hw370_7)).trans hw370_7), ((HB.out.cell (World.block_lt_of_cell? w _ hw371_0)).trans hw371_0), ((HB.out.cell (World.block_lt_of_cell? w _ hw371_1)).trans hw371_1), ((HB.out.cell (World.block_lt_of_cell? w _ hw371_2)).trans hw371_2), ((HB.out.cell (World.block_lt_of_cell? w _ hw371_3)).trans hw371_3), ((HB.out.cell (World.block_lt_of_cell? w _ hw371_4)).trans hw371_4), ((HB.out.cell (World.block_lt_of_cell? w _ hw371_5)).trans hw371_5), ((HB.out.cell (World.block_lt_of_cell? w _ hw371_6)).trans hw371_6), ((HB.out.cell (World.block_lt_of_cell? w _ hw371_7)).trans hw371_7)⟩ (fun hHeld => ?_)
       clear hK K
       refine norm_ (a' := ?_) ?_ ?_; rotate_left; (show Act.put _ (some 25) _ = _; simp only [Act.put, List.setIfInBounds_toArray, List.set_cons_zero, List.set_cons_succ, i64_w, i32_w]; rfl)
       refine pq_ 9 26 (bL 10 1023) HT_.out rfl rfl ?_
       have H := HZ21.out; clear HZ21
       by_cases c8 : Ba = true
       ·subst c8; rw [if_pos rfl] at H; have H' := ak H; clear H
        refine done_ (done_of HT_.out (by kernel_rfl)) ?_
        try go_wp2
        go_roundg k1
        case measure => have := Bb.out; omega
        case rel => exact ⟨(wrap64 (Aa + 1)), rs_q, H', ⟨by have := Bb.out; omega⟩, ⟨bw_q HB⟩⟩
       ·replace c8 := Bool.eq_false_iff.mpr c8; subst c8
        rw [if_neg (show ¬ (false = true) by decide)] at H
        obtain rfl := Option.some.inj H
        refine done_ (done_of HT_.out (by kernel_rfl)) ?_
        try go_wp2
        go_ret
        exact ⟨er_q, bw_q HB⟩
      ·rw [if_neg c6] at H
       exact absurd H (by simp)
     ·rw [if_neg c5] at H
      exact absurd H (by simp)
    ·rw [if_neg c4] at H
     have Bc : decide (Aa < (l0.length : Int)) = false := decide_eq_false c4
     clear c4; obtain rfl := Option.some.inj H
     go_wp2
     go_ret
     exact ⟨er_q, bw_q HB⟩
 ·rw [if_neg c3] at H
  have Ax : ((l0.length : Int) == (l1.length : Int)) = false := bqf c3
  have Ay : ((l0.length : Int) != (l1.length : Int)) = true := bni c3
  have Az : (l0.length == l1.length) = false := by first | simpa using c3 | (simp at c3 ⊢; omega)
  obtain rfl := Option.some.inj H
  go_enter Try.func29, Try.ntmps29
  go_wp2
  go_ret
  exact ⟨er_q, bw_q HB⟩

/-! ### laws_markNearS: function 100 -/
def laws_markNearS.l0 : Nat → List (S127) → Int → Int → Option (Int × (List (S127)))
 | 0, _, _, _ => none
 | k + 1, c, d, a => if a < (c.length : Int) then (if 0 ≤ a then ((some (c.set (a : Int).toNat (⟨d, (rd_T127 c a).f1⟩ : S127) : List (S127))).bind fun b => (laws_markNearS.l0 k (b.set (a : Int).toNat (⟨(rd_T127 b a).f0, wrap64 (d + 1)⟩ : S127)) (wrap64 ((wrap64 (d + 1)) + 1)) (wrap64 (a + 1)))) else (none)) else (some (d, c))
def laws_markNearS.f (k : Nat) (l0 : List (S127)) (a1 : Int) : Option (Int × (List (S127))) := laws_markNearS.l0 k l0 a1 0
theorem laws_markNearS.mono_l : ∀ k, (∀ y0 y1 y2, LeO (laws_markNearS.l0 k y0 y1 y2) (laws_markNearS.l0 (k + 1) y0 y1 y2))
 | 0 => fun _ _ _ r h => by simp [laws_markNearS.l0] at h
 | k + 1 => by
  have ih0 := laws_markNearS.mono_l k
  ·intro y0 y1 y2
   unfold laws_markNearS.l0
   with_reducible repeat' (first | apply ih0 | exact LeO.refl _ | exact LeO.none _ | refine LeO.ite ?_ ?_ | refine LeO.bind ?_ (fun _ => ?_))
theorem laws_markNearS.mono : ∀ a0 a1 k, LeO (laws_markNearS.f k a0 a1) (laws_markNearS.f (k + 1) a0 a1) := by
 intro a0 a1 k
 have ih0 := laws_markNearS.mono_l k
 unfold laws_markNearS.f
 with_reducible repeat' (first | apply ih0 | exact LeO.refl _ | exact LeO.none _ | refine LeO.ite ?_ ?_ | refine LeO.bind ?_ (fun _ => ?_))
set_option maxHeartbeats 8000000 in
set_option maxRecDepth 100000 in
theorem laws_markNearS.calls (k : Nat) (P0_ : Nat → Prop) (u9000_ : Value) (l0 : List (S127)) (a1 : Int) (r1 : Int) (r2 : List (S127)) (w0 w : World) (hB : Below w0.heap.size w0 w) (ho0 : Kd.R k127 127 w w0.heap.size P0_ u9000_ l0) (h : laws_markNearS.f k l0 a1 = some (r1, r2)) :
  Calls Try.prog 100 #[u9000_, .int .i64 a1] w fun e w' => e = .returned (.int .i64 r1) ∧ Kd.R k127 127 w' w0.heap.size (fun k_ => (P0_ k_ ∨ w.heap.size ≤ k_)) u9000_ r2 ∧ Below w0.heap.size w0 w' ∧ Kept w w' (fun k_ => P0_ k_) := by
 have Ap := ak (show Kd.R k127 127 w w0.heap.size (fun k_ => (P0_ k_ ∨ w.heap.size ≤ k_)) u9000_ l0 from Kd.R_mono ho0 (fun k_ hk => (.inl hk)))
 have HK := ak (Kept.refl w (fun k_ => P0_ k_))
 have HW0 := ak hB.size; have HB := ak hB; clear hB; have H := h
 clear h; unfold laws_markNearS.f at H; have H' := ak H; clear H
 go_enter Try.func100, Try.ntmps100
 go_wp2
 go_loopg [1, 5] k (fun kq v1 v5 w' => ∃ (Ab : List (S127)) (Ad : Int) (Aa : Int), v1 = .int .i64 Ad ∧ v5 = .int .i64 Aa ∧ Aside0 (laws_markNearS.l0 kq Ab Ad Aa = some (r1, r2)) ∧ Aside0 (kq ≤ k) ∧ Aside0 (Kd.R k127 127 w' w0.heap.size (fun k_ => (P0_ k_ ∨ w.heap.size ≤ k_)) u9000_ Ab) ∧ Aside0 (Kept w w' (fun k_ => P0_ k_)) ∧ Aside0 (Below w0.heap.size w0 w'))
 case atStart => exact ⟨(l0), (a1), (0), rs_q, rs_q, H', ⟨Nat.le_refl _⟩, ⟨kR_q Ap⟩, ⟨hk_q HK⟩, ⟨bw_q HB⟩⟩
 case round =>
  clear H'; (try clear c1); (try clear p2); obtain ⟨Ab, Ad, Aa, rfl, rfl, HA, Am, Ac, HK, HB⟩ := hrel
  cases gk with
  | zero => exact absurd HA.out (by simp [laws_markNearS.l0])
  | succ k1 =>
   have H := HA.out; clear HA
   simp only [laws_markNearS.l0] at H
   by_cases c3 : Aa < (Ab.length : Int)
   ·rw [if_pos c3] at H
    have Ao : decide (Aa < (Ab.length : Int)) = true := decide_eq_true c3
    clear c3
    by_cases c4 : 0 ≤ Aa
    ·rw [if_pos c4] at H
     have Au : decide (0 ≤ Aa) = true := decide_eq_true c4
     clear c4; obtain ⟨Ae, Af⟩ : ∃ y_ : List (S127), y_ = (Ab.set (Aa : Int).toNat (⟨Ad, (rd_T127 Ab Aa).f1⟩ : S127)) := ⟨_, rfl⟩
     replace H : (laws_markNearS.l0 k1 (Ae.set (Aa : Int).toNat (⟨(rd_T127 Ae Aa).f0, wrap64 (Ad + 1)⟩ : S127)) (wrap64 ((wrap64 (Ad + 1)) + 1)) (wrap64 (Aa + 1))) = some (r1, r2) := by first | (rw [Af]; with_reducible exact H) | (have H2_ := (Option.bind_some _ _).symm.trans H; rw [Af]; with_reducible exact H2_) | (have H2_ := (Option.bind_some _ _).symm.trans H; with_reducible exact H2_) | with_reducible exact H | (rw [Af]; exact H) | exact H
     have Aj := ak Af; clear Af; obtain ⟨Ah, Ag⟩ : ∃ y_ : List (S127), y_ = (Ae.set (Aa : Int).toNat (⟨(rd_T127 Ae Aa).f0, wrap64 (Ad + 1)⟩ : S127)) := ⟨_, rfl⟩
     replace H : (laws_markNearS.l0 k1 Ah (wrap64 ((wrap64 (Ad + 1)) + 1)) (wrap64 (Aa + 1))) = some (r1, r2) := by first | (rw [Ag]; with_reducible exact H) | (have H2_ := (Option.bind_some _ _).symm.trans H; rw [Ag]; with_reducible exact H2_) | (have H2_ := (Option.bind_some _ _).symm.trans H; with_reducible exact H2_) | with_reducible exact H | (rw [Ag]; exact H) | exact H
     have Ak := ak Ag; clear Ag; have H' := ak H; clear H; obtain ⟨Ao7, co7, eo7⟩ := Kd.R_slice Ac.out; subst eo7
     have p5 : 0 ≤ (Aa : Int) := of_decide_eq_true as_q
     have q5 : (Aa : Int) < ((Ab.length : Int) : Int) := of_decide_eq_true as_q
     obtain ⟨go5, co5, eo5, An, gl5, cl5, HG5⟩ := Kd.R_form Ac.out (by omega)
     (first | cases eo5 | (injection eo5 with ea_ en_ ec_; (first | subst ea_ | (injection ea_ with ea_; subst ea_)); subst ec_; clear en_))
     have GB5 := ak An; have GG5 := ak HG5; clear An gl5 HG5
     have HMgo5 := ak (show (P0_ go5 ∨ w.heap.size ≤ go5) from (Ac.out.1 _ rfl))
     obtain ⟨ce5, hcl5, hM5, hcc5, hfr5⟩ := Kd.R_elem Ac.out z127 (Aa : Int) p5 q5; obtain rfl := k127_openM hM5
     have Aq : wr.cell? ⟨go5, (Aa : Int).toNat * 2, none⟩ = some (.int .i64 ((rd_T127 Ab Aa).f0)) := hcc5 0 _ rfl
     have Ar : wr.cell? ⟨go5, (Aa : Int).toNat * 2 + 1, none⟩ = some (.int .i64 ((rd_T127 Ab Aa).f1)) := hcc5 1 _ rfl
     have hf5_0 : wr.frozen? ⟨go5, (Aa : Int).toNat * 2, none⟩ = false := hfr5 0
     have hf5_1 : wr.frozen? ⟨go5, (Aa : Int).toNat * 2 + 1, none⟩ = false := hfr5 1
     clear hcl5 hcc5 hfr5 hM5; replace p5 := eq_true p5; replace q5 := eq_true q5
     have HX8 := ak (show Kd.R k127 127 wr w0.heap.size (fun k_ => (P0_ k_ ∨ w.heap.size ≤ k_)) (.slice (some ⟨go5, 0, none⟩) Ab.length co7) Ab from (kR_q Ac))
     obtain ⟨ce8, hcl8, hM8, hcc8, hfr8⟩ := Kd.R_elem HX8.out z127 (Aa : Int) (of_decide_eq_true as_q) (by have h_ : (Aa : Int) < ((Ab.length : Int) : Int) := of_decide_eq_true as_q; first | exact h_ | (have e_ := (Kd.R_reads' Ac.out).1; omega) | simpa using h_)
     obtain rfl := k127_openM hM8
     have HP8 := Kd.R_seg HX8.out (Aa : Int) (of_decide_eq_true as_q) (by have h_ : (Aa : Int) < ((Ab.length : Int) : Int) := of_decide_eq_true as_q; first | exact h_ | (have e_ := (Kd.R_reads' Ac.out).1; omega) | simpa using h_) (seg := [.int .i64 Ad]) (j := 0) hcl8 hcc8 (show 1 ≤ 2 from by decide) (x' := (⟨Ad, (rd_T127 Ab Aa).f1⟩ : S127)) (k127_mkM _ _ _ (⟨Ad, (rd_T127 Ab Aa).f1⟩ : S127) ) (fun _ hk => hk)
     have Al := hcc8 0 _ rfl
     (try simp only [show (k127).sz = 2 from rfl, Nat.mul_one, Nat.add_zero] at Al)
     have hf8_0 := hfr8 0
     (try simp only [show (k127).sz = 2 from rfl, Nat.mul_one, Nat.add_zero] at hf8_0)
     clear hcl8 hcc8 hfr8 hM8
     go_wp2_with (first | ((with_reducible refine gate_store (t := 3) (p := 16) rfl ?_); refine store_event (t := 3) (p := 16) (v := ?vo_w9) (w1 := (wr.setCell ⟨go5, (Aa : Int).toNat * 2, none⟩ (.int .i64 Ad))) ?hg ?ho ?hn ?hr ?_; (case ho => rfl); (case hg => rfl); (case hn => rfl); (case hr => first | (go_simp; done) | (go_simp; rfl)); intro w9 hw; have hg : wr.grownBy w9 (some go5) := (by rw [hw]; exact HP8.2); have hp_ : Kd.R k127 127 w9 w0.heap.size (fun k_ => (P0_ k_ ∨ w.heap.size ≤ k_)) (.slice (some ⟨go5, 0, none⟩) Ab.length co7) Ae := (by rw [hw, Aj.out]; exact HP8.1); clear HP8; replace HB := ak ((by rw [hw]; exact below_set (HB.out) GB5.out : Below w0.heap.size w0 w9)); replace HK := ak (Kept.of_grown (S := (fun k_ => P0_ k_)) hg (hk_q HK) (fun k_ e_ => (Ac.out.1 k_ e_))); replace Ac := ak (hp_); clear hg hw hp_; have p6 : 0 ≤ (Aa : Int) := of_decide_eq_true as_q; have q6 : (Aa : Int) < ((Ab.length : Int) : Int) := of_decide_eq_true as_q; obtain ⟨ce6, hcl6, hM6, hcc6, hfr6⟩ := Kd.R_elem Ac.out z127 (Aa : Int) p6 q6; obtain rfl := k127_openM hM6; have As : w9.cell? ⟨go5, (Aa : Int).toNat * 2, none⟩ = some (.int .i64 ((rd_T127 Ae Aa).f0)) := hcc6 0 _ rfl; have At : w9.cell? ⟨go5, (Aa : Int).toNat * 2 + 1, none⟩ = some (.int .i64 ((rd_T127 Ae Aa).f1)) := hcc6 1 _ rfl; have hf6_0 : w9.frozen? ⟨go5, (Aa : Int).toNat * 2, none⟩ = false := hfr6 0; have hf6_1 : w9.frozen? ⟨go5, (Aa : Int).toNat * 2 + 1, none⟩ = false := hfr6 1; clear hcl6 hcc6 hfr6 hM6; replace p6 := eq_true p6; replace q6 := eq_true q6; have HX10 := ak (show Kd.R k127 127 w9 w0.heap.size (fun k_ => (P0_ k_ ∨ w.heap.size ≤ k_)) (.slice (some ⟨go5, 0, none⟩) Ab.length co7) Ae from (kR_q Ac)); obtain ⟨ce10, hcl10, hM10, hcc10, hfr10⟩ := Kd.R_elem HX10.out z127 (Aa : Int) (of_decide_eq_true as_q) (by have h_ : (Aa : Int) < ((Ab.length : Int) : Int) := of_decide_eq_true as_q; first | exact h_ | (have e_ := (Kd.R_reads' Ac.out).1; omega) | simpa using h_); obtain rfl := k127_openM hM10; have HP10 := Kd.R_seg HX10.out (Aa : Int) (of_decide_eq_true as_q) (by have h_ : (Aa : Int) < ((Ab.length : Int) : Int) := of_decide_eq_true as_q; first | exact h_ | (have e_ := (Kd.R_reads' Ac.out).1; omega) | simpa using h_) (seg := [.int .i64 (wrap64 (Ad + 1))]) (j := 1) hcl10 hcc10 (show 2 ≤ 2 from by decide) (x' := (⟨(rd_T127 Ae Aa).f0, wrap64 (Ad + 1)⟩ : S127)) (k127_mkM _ _ _ (⟨(rd_T127 Ae Aa).f0, wrap64 (Ad + 1)⟩ : S127) ) (fun _ hk => hk); have Ai := hcc10 1 _ rfl; (try simp only [show (k127).sz = 2 from rfl, Nat.mul_one, Nat.add_zero] at Ai); have hf10_1 := hfr10 1; (try simp only [show (k127).sz = 2 from rfl, Nat.mul_one, Nat.add_zero] at hf10_1); clear hcl10 hcc10 hfr10 hM10) | ((with_reducible refine gate_store (t := 3) (p := 23) rfl ?_); refine store_event (t := 3) (p := 23) (v := ?vo_w11) (w1 := (w9.setCell ⟨go5, (Aa : Int).toNat * 2 + 1, none⟩ (.int .i64 (wrap64 (Ad + 1))))) ?hg ?ho ?hn ?hr ?_; (case ho => rfl); (case hg => rfl); (case hn => rfl); (case hr => first | (go_simp; done) | (go_simp; rfl)); intro w11 hw; have hg : w9.grownBy w11 (some go5) := (by rw [hw]; exact HP10.2); have hp_ : Kd.R k127 127 w11 w0.heap.size (fun k_ => (P0_ k_ ∨ w.heap.size ≤ k_)) (.slice (some ⟨go5, 0, none⟩) Ab.length co7) Ah := (by rw [hw, Ak.out]; exact HP10.1); clear HP10; replace HB := ak ((by rw [hw]; exact below_set (HB.out) GB5.out : Below w0.heap.size w0 w11)); replace HK := ak (Kept.of_grown (S := (fun k_ => P0_ k_)) hg (hk_q HK) (fun k_ e_ => (Ac.out.1 k_ e_))); replace Ac := ak (hp_); clear hg hw hp_))
     go_roundg k1
     case measure => have := Am.out; omega
     case rel => exact ⟨(Ah), (wrap64 ((wrap64 (Ad + 1)) + 1)), (wrap64 (Aa + 1)), rs_q, rs_q, H', ⟨by have := Am.out; omega⟩, ⟨kR_q Ac⟩, ⟨hk_q HK⟩, ⟨bw_q HB⟩⟩
    ·rw [if_neg c4] at H
     exact absurd H (by simp)
   ·rw [if_neg c3] at H
    have Ao : decide (Aa < (Ab.length : Int)) = false := decide_eq_false c3
    clear c3
    simp only [Option.some.injEq, Prod.mk.injEq] at H
    obtain ⟨rfl, rfl⟩ := H; obtain ⟨Ao12, co12, eo12⟩ := Kd.R_slice Ac.out; subst eo12
    go_wp2
    go_ret
    exact ⟨er_q, kR_q Ac, bw_q HB, hk_q HK⟩

end Go.Proofs.Ythjmdiggglkeaaa.Q
