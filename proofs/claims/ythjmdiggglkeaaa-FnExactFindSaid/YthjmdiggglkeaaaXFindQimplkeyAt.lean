import Derived.Test.YthjmdiggglkeaaaXFindQlawstoRecord
/- The contract of a Go function. -/


namespace Go.Proofs.Ythjmdiggglkeaaa.Q
open Go.RowKit Go.Proofs.YthjmdiggglkeaaaW.PrintWords Go.Proofs.YthjmdiggglkeaaaW.PrintLast Go.Proofs.YthjmdiggglkeaaaW.PrintMore
attribute [local go_sem] max2_int min2_int max_two min_two max_three min_three max_four min_four   -- for this text's walks alone
set_option linter.unusedVariables false
set_option linter.unusedSimpArgs false

/-! ### laws_toRecordS: function 27 -/
def laws_toRecordS.l0 : Nat → List (S57) → List (S61) → Int → Option ((List (S61)))
 | 0, _, _, _ => none
 | k + 1, c, d, b => if b < (c.length : Int) then (if 0 ≤ b then ((laws_toRecord.f k ((rd_T57 c b).f0) ((rd_T57 c b).f1) ((rd_T57 c b).f2) ((rd_T57 c b).f3) ((rd_T57 c b).f4) ((rd_T57 c b).f5) ((rd_T57 c b).f6) ((rd_T57 c b).f7)).bind fun a => (if b < (d.length : Int) then (laws_toRecordS.l0 k c (d.set (b : Int).toNat (⟨a.1, a.2.1, a.2.2.1, a.2.2.2.1, a.2.2.2.2.1, a.2.2.2.2.2.1, a.2.2.2.2.2.2.1, a.2.2.2.2.2.2.2⟩ : S61)) (wrap64 (b + 1))) else (none))) else (none)) else (some d)
def laws_toRecordS.f (k : Nat) (l0 : List (S57)) : Option ((List (S61))) := if 0 ≤ (l0.length : Int) then (if ((l0.length : Int) : Int).toNat ≤ 3518437208883 then (laws_toRecordS.l0 k l0 (List.replicate ((l0.length : Int) : Int).toNat z61) 0) else (none)) else (none)
theorem laws_toRecordS.mono_l : ∀ k, (∀ y0 y1 y2, LeO (laws_toRecordS.l0 k y0 y1 y2) (laws_toRecordS.l0 (k + 1) y0 y1 y2))
 | 0 => fun _ _ _ r h => by simp [laws_toRecordS.l0] at h
 | k + 1 => by
  have ih0 := laws_toRecordS.mono_l k
  ·intro y0 y1 y2
   unfold laws_toRecordS.l0
   with_reducible repeat' (first | apply ih0 | apply laws_toRecord.mono | exact LeO.refl _ | exact LeO.none _ | refine LeO.ite ?_ ?_ | refine LeO.bind ?_ (fun _ => ?_))
theorem laws_toRecordS.mono : ∀ a0 k, LeO (laws_toRecordS.f k a0) (laws_toRecordS.f (k + 1) a0) := by
 intro a0 k
 have ih0 := laws_toRecordS.mono_l k
 unfold laws_toRecordS.f
 with_reducible repeat' (first | apply ih0 | apply laws_toRecord.mono | exact LeO.refl _ | exact LeO.none _ | refine LeO.ite ?_ ?_ | refine LeO.bind ?_ (fun _ => ?_))
set_option maxHeartbeats 8000000 in
set_option maxRecDepth 100000 in
theorem laws_toRecordS.calls (k : Nat) (A0 : Option Addr) (c0 : Nat) (l0 : List (S57)) (r : List (S61)) (w : World) (hr0 : Kd.C k57 w A0 l0.length l0) (hc0 : l0.length ≤ c0) (h : laws_toRecordS.f k l0 = some r) :
  Calls Try.prog 27 #[.slice A0 l0.length c0] w fun e w' => ∃ v0_ : Value, e = .returned (v0_) ∧ Kd.S k61 61 w' w.heap.size (fun _ => True) v0_ r ∧ Below w.heap.size w w' := by
 have hu57 := Try.underlying57; have hu61 := Try.underlying61; have HR0 := ak hr0; have Cd := ak hc0; clear hr0 hc0; have HB := ak (Below.refl w.heap.size w); have H := h
 clear h; unfold laws_toRecordS.f at H
 by_cases c2 : 0 ≤ (l0.length : Int)
 ·rw [if_pos c2] at H; have Bn := eq_true c2
  have Bo : decide (0 ≤ (l0.length : Int)) = true := decide_eq_true c2
  clear c2
  by_cases c3 : ((l0.length : Int) : Int).toNat ≤ 3518437208883
  ·rw [if_pos c3] at H; have Bp := eq_true c3
   have Bq : decide (((l0.length : Int) : Int).toNat ≤ 3518437208883) = true := decide_eq_true c3
   clear c3; obtain ⟨Ba, Ad⟩ : ∃ y_ : List (S61), y_ = (List.replicate ((l0.length : Int) : Int).toNat z61) := ⟨_, rfl⟩
   replace H : (laws_toRecordS.l0 k l0 Ba 0) = some r := by first | (rw [Ad]; with_reducible exact H) | (have H2_ := (Option.bind_some _ _).symm.trans H; rw [Ad]; with_reducible exact H2_) | (have H2_ := (Option.bind_some _ _).symm.trans H; with_reducible exact H2_) | with_reducible exact H | (rw [Ad]; exact H) | exact H
   have Ax := ak Ad; clear Ad; have H' := ak H; clear H
   go_enter Try.func27, Try.ntmps27
   go_wp2_with (first | ((with_reducible refine gate_dst (N := 7) rfl ?_); refine Kd.S_make k61 _ 61 rfl (N := 7) rfl 41 _ _ rfl (l0.length : Int) rfl rfl Try.underlying41 (.agg #[(.int .i64 0), (.int .i64 0), (.int .i64 0), (.int .i64 0), (.int .i64 0), (.slice none 0 0), (.int .i64 0), (.bool false)]) 80 info61 rfl (by decide) (by omega) z61 (ok := fun _ => True) (okp := fun _ => True) (k61_mkM _ _ _ z61 (Kd.R_nil _ _ _ _ _)) (fun _ hk => hk) trivial (of_decide_eq_true as_q) (Nat.le_trans (Nat.mul_le_mul_right _ (of_decide_eq_true as_q : (l0.length : Int).toNat ≤ 3518437208883)) (by omega)) (Below.refl _ _) (Nat.le_refl _) ?_; intro v288 w4 ho5 hb hg_ hnew_; clear hg_ hnew_; (first | rw [← Ax.out] at ho5 | (simp only [Int.reduceToNat] at ho5; rw [← Ax.out] at ho5)); have Bk := ak (Kd.S_lower ho5 (below_size (bw_q HB))); replace HB := ak (below_step (bw_q HB) hb); clear hb ho5))
   go_loopg [4] k (fun kq v4 w' => ∃ (Ab : List (S61)) (Aa : Int), v4 = .int .i64 Aa ∧ Aside0 (laws_toRecordS.l0 kq l0 Ab Aa = some r) ∧ Aside0 (kq ≤ k) ∧ Aside0 (Kd.S k61 61 w' w.heap.size (fun _ => True) v288 Ab) ∧ Aside0 (Below w.heap.size w w'))
   case atStart => exact ⟨(Ba), (0), rs_q, H', ⟨Nat.le_refl _⟩, ⟨kS_q Bk⟩, ⟨bw_q HB⟩⟩
   case round =>
    clear H'; (try clear c2); (try clear Bn); (try clear Bo); (try clear p2); (try clear c3); (try clear Bp); (try clear Bq); obtain ⟨Ab, Aa, rfl, HA, Bm, Ac, HB⟩ := hrel
    cases gk with
    | zero => exact absurd HA.out (by simp [laws_toRecordS.l0])
    | succ k1 =>
     have H := HA.out; clear HA
     simp only [laws_toRecordS.l0] at H
     by_cases c6 : Aa < (l0.length : Int)
     ·rw [if_pos c6] at H
      have Br : decide (Aa < (l0.length : Int)) = true := decide_eq_true c6
      clear c6
      by_cases c7 : 0 ≤ Aa
      ·rw [if_pos c7] at H
       have Cb : decide (0 ≤ Aa) = true := decide_eq_true c7
       clear c7; replace H := bsi H; obtain ⟨⟨Af, Ag, Ah, Ai, Aj, Au, Ak, Al⟩, A80, H⟩ := H
       (try dsimp only at H)
       have A8 := ak A80; clear A80
       by_cases c9 : Aa < (Ab.length : Int)
       ·rw [if_pos c9] at H
        have Cc : decide (Aa < (Ab.length : Int)) = true := decide_eq_true c9
        clear c9; obtain ⟨Aw, Ae⟩ : ∃ y_ : List (S61), y_ = (Ab.set (Aa : Int).toNat (⟨Af, Ag, Ah, Ai, Aj, Au, Ak, Al⟩ : S61)) := ⟨_, rfl⟩
        replace H : (laws_toRecordS.l0 k1 l0 Aw (wrap64 (Aa + 1))) = some r := by first | (rw [Ae]; with_reducible exact H) | (have H2_ := (Option.bind_some _ _).symm.trans H; rw [Ae]; with_reducible exact H2_) | (have H2_ := (Option.bind_some _ _).symm.trans H; with_reducible exact H2_) | with_reducible exact H | (rw [Ae]; exact H) | exact H
        have Bl := ak Ae; clear Ae; have H' := ak H; clear H
        have p290 : 0 ≤ (Aa : Int) := of_decide_eq_true as_q
        have q290 : Aa < (l0.length : Int) := of_decide_eq_true as_q
        obtain ⟨Ca, A290_5, c290_5, e290, Am, An, Ao, Ap, Aq, Ar, As, At, hl290_5, hi290_5⟩ := at_T57 HR0.out Aa p290 q290
        cases e290
        replace Am := hbc HB Am; replace An := hbc HB An; replace Ao := hbc HB Ao; replace Ap := hbc HB Ap; replace Aq := hbc HB Aq; replace Ar := hbc HB Ar; replace As := hbc HB As; replace At := hbc HB At; have Ay := ak hi290_5; have Az := ak hl290_5; clear hi290_5 hl290_5; replace p290 := eq_true p290; replace q290 := eq_true q290
        go_wp2_with (first | ((with_reducible refine gate_callee (f := 36) rfl ?_); refine goesL_ (some 20) rfl rfl Try.func36 (by kernel_rfl) rfl #[.agg #[.int .i64 ((rd_T57 l0 Aa).f0), .int .i64 ((rd_T57 l0 Aa).f1), .int .i64 ((rd_T57 l0 Aa).f2), .int .i64 ((rd_T57 l0 Aa).f3), .int .i64 ((rd_T57 l0 Aa).f4), .slice A290_5 ((rd_T57 l0 Aa).f5).length c290_5, .int .i64 ((rd_T57 l0 Aa).f6), .bool ((rd_T57 l0 Aa).f7)]] rfl mp_q ?_; (with_reducible refine (laws_toRecord.calls k1 ((rd_T57 l0 Aa).f0) ((rd_T57 l0 Aa).f1) ((rd_T57 l0 Aa).f2) ((rd_T57 l0 Aa).f3) ((rd_T57 l0 Aa).f4) _ _ ((rd_T57 l0 Aa).f5) ((rd_T57 l0 Aa).f6) ((rd_T57 l0 Aa).f7) Af Ag Ah Ai Aj Au Ak Al _ ?side1 ?side2 A8.out).mono ?_); (case side1 => exact cs_q (Kd.C_below Ay.out HB.out)); (case side2 => exact Az.out); rintro e w11 ⟨v297, rfl, ho0, hb⟩; refine ⟨_, rfl, ?_⟩; have hs_v297 : (v297 : Value).oneCell' = true := (by first | (have h_ := Kd.R_slice ho0; obtain ⟨A_, c_, e_⟩ := h_; simp [e_, Value.oneCell']) | (have h_ := Kd.S_slice ho0; obtain ⟨A_, c_, e_⟩ := h_; simp [e_, Value.oneCell']) | (have h_ := Kd.N_slice ho0; obtain ⟨A_, c_, e_⟩ := h_; simp [e_, Value.oneCell']) | (have h_ := Kd.V_slice ho0; obtain ⟨A_, c_, e_⟩ := h_; simp [e_, Value.oneCell'])); have hst_v297 := fun (w_ : World) (a_ : Addr) m_ => run_store Try.prog w_ a_ v297 m_ hs_v297; replace Ac := ak (Kd.S_elder' (kS_q Ac) (Kd.R_base ho0) hb); have Av := ak (Kd.R_lower ho0 (below_size (bw_q HB))); replace HB := ak (below_step (bw_q HB) hb); (try clear ho0); have p10 : 0 ≤ (Aa : Int) := of_decide_eq_true as_q; have q10 : (Aa : Int) < ((Ab.length : Int) : Int) := of_decide_eq_true as_q; obtain ⟨go10, co10, eo10, Bb, gl10, cl10, HG10⟩ := Kd.S_form Ac.out (by omega); (first | cases eo10 | (injection eo10 with ea_ en_ ec_; (first | subst ea_ | (injection ea_ with ea_; subst ea_)); subst ec_; clear en_)); have GB10 := ak Bb; have GG10 := ak HG10; clear Bb gl10 HG10; obtain ⟨_, ce10, hcl10, hM10, hcc10, hfr10, _, _⟩ := Kd.S_elem Ac.out z61 (Aa : Int) p10 q10; obtain ⟨ve10_5, rfl, ge10_5⟩ := k61_openM hM10; have Bs : w11.cell? ⟨go10, (Aa : Int).toNat * 8, none⟩ = some (.int .i64 ((rd_T61 Ab Aa).f0)) := hcc10 0 _ rfl; have Bt : w11.cell? ⟨go10, (Aa : Int).toNat * 8 + 1, none⟩ = some (.int .i64 ((rd_T61 Ab Aa).f1)) := hcc10 1 _ rfl; have Bu : w11.cell? ⟨go10, (Aa : Int).toNat * 8 + 2, none⟩ = some (.int .i64 ((rd_T61 Ab Aa).f2)) := hcc10 2 _ rfl; have Bv : w11.cell? ⟨go10, (Aa : Int).toNat * 8 + 3, none⟩ = some (.int .i64 ((rd_T61 Ab Aa).f3)) := hcc10 3 _ rfl; have Bw : w11.cell? ⟨go10, (Aa : Int).toNat * 8 + 4, none⟩ = some (.int .i64 ((rd_T61 Ab Aa).f4)) := hcc10 4 _ rfl; have Bx : w11.cell? ⟨go10, (Aa : Int).toNat * 8 + 5, none⟩ = some (ve10_5) := hcc10 5 _ rfl; have By : w11.cell? ⟨go10, (Aa : Int).toNat * 8 + 6, none⟩ = some (.int .i64 ((rd_T61 Ab Aa).f6)) := hcc10 6 _ rfl; have Bz : w11.cell? ⟨go10, (Aa : Int).toNat * 8 + 7, none⟩ = some (.bool ((rd_T61 Ab Aa).f7)) := hcc10 7 _ rfl; have hf10_0 : w11.frozen? ⟨go10, (Aa : Int).toNat * 8, none⟩ = false := hfr10 0; have hf10_1 : w11.frozen? ⟨go10, (Aa : Int).toNat * 8 + 1, none⟩ = false := hfr10 1; have hf10_2 : w11.frozen? ⟨go10, (Aa : Int).toNat * 8 + 2, none⟩ = false := hfr10 2; have hf10_3 : w11.frozen? ⟨go10, (Aa : Int).toNat * 8 + 3, none⟩ = false := hfr10 3; have hf10_4 : w11.frozen? ⟨go10, (Aa : Int).toNat * 8 + 4, none⟩ = false := hfr10 4; have hf10_5 : w11.frozen? ⟨go10, (Aa : Int).toNat * 8 + 5, none⟩ = false := hfr10 5; have hf10_6 : w11.frozen? ⟨go10, (Aa : Int).toNat * 8 + 6, none⟩ = false := hfr10 6; have hf10_7 : w11.frozen? ⟨go10, (Aa : Int).toNat * 8 + 7, none⟩ = false := hfr10 7; clear hcl10 hcc10 hfr10 hM10; replace p10 := eq_true p10; replace q10 := eq_true q10; have n_ := ak (Kd.S_mono (ok' := (fun k_ => some k_ ≠ (v297 : Value).ownBlock)) Ac.out (fun k_ hk => hk.2)); clear Ac; have Ac := n_; clear n_; have HX12 := ak (show Kd.S k61 61 w11 w.heap.size (fun k_ => ((fun _ => True)) k_ ∧ ¬ ((fun k_ => some k_ = (v297 : Value).ownBlock)) k_) (.slice (some ⟨go10, 0, none⟩) Ab.length co10) Ab from (by (with_reducible repeat (first | apply Kd.S_alloc | apply Kd.S_drewN | apply Kd.S_drew)); exact Kd.S_mono Ac.out (fun k_ hk => ⟨trivial, fun e_ => hk e_⟩))); obtain ⟨oki12, ce12, hcl12, hM12, hcc12, hfr12, hoki12, hH12⟩ := Kd.S_elem HX12.out z61 (Aa : Int) (of_decide_eq_true as_q) (by have h_ : (Aa : Int) < ((Ab.length : Int) : Int) := of_decide_eq_true as_q; first | exact h_ | (have e_ := (Kd.S_reads' Ac.out).1; omega) | simpa using h_); obtain ⟨ve12_5, rfl, ge12_5⟩ := k61_openM hM12; have HP12 := Kd.S_seg hH12 (of_decide_eq_true as_q) (by have h_ : (Aa : Int) < ((Ab.length : Int) : Int) := of_decide_eq_true as_q; first | exact h_ | (have e_ := (Kd.S_reads' Ac.out).1; omega) | simpa using h_) (seg := [.int .i64 Af, .int .i64 Ag, .int .i64 Ah, .int .i64 Ai, .int .i64 Aj, v297, .int .i64 Ak, .bool Al]) (j := 0) (show 8 ≤ 8 from by decide) (x' := (⟨Af, Ag, Ah, Ai, Aj, Au, Ak, Al⟩ : S61)) (k61_mkM _ _ _ (⟨Af, Ag, Ah, Ai, Aj, Au, Ak, Al⟩ : S61) (Kd.R_mono (Kd.R_tight rfl (Kd.R_mono (ok' := fun k_ => ((fun _ => True)) k_ ∧ k_ ≠ go10) (Kd.R_apart' (Av.out) (Kd.S_typed Ac.out) (by decide)) (fun k_ hk => ⟨trivial, fun e_ => (hk.2) (by rw [e_]; rfl)⟩))) (fun _ h_ => Or.inr (h_)))) (fun _ hk => hk) (fun k_ hk_ => ((Kd.R_mono (ok' := fun k_ => ((fun _ => True)) k_ ∧ k_ ≠ go10) (Kd.R_apart' (Av.out) (Kd.S_typed Ac.out) (by decide)) (fun k_ hk => ⟨trivial, fun e_ => (hk.2) (by rw [e_]; rfl)⟩))).1 k_ hk_.symm); have Bc := hcc12 0 _ rfl; (try simp only [show (k61).sz = 8 from rfl, Nat.mul_one, Nat.add_zero] at Bc); have hf12_0 := hfr12 0; (try simp only [show (k61).sz = 8 from rfl, Nat.mul_one, Nat.add_zero] at hf12_0); have Bd := hcc12 1 _ rfl; (try simp only [show (k61).sz = 8 from rfl, Nat.mul_one, Nat.add_zero] at Bd); have hf12_1 := hfr12 1; (try simp only [show (k61).sz = 8 from rfl, Nat.mul_one, Nat.add_zero] at hf12_1); have Be := hcc12 2 _ rfl; (try simp only [show (k61).sz = 8 from rfl, Nat.mul_one, Nat.add_zero] at Be); have hf12_2 := hfr12 2; (try simp only [show (k61).sz = 8 from rfl, Nat.mul_one, Nat.add_zero] at hf12_2); have Bf := hcc12 3 _ rfl; (try simp only [show (k61).sz = 8 from rfl, Nat.mul_one, Nat.add_zero] at Bf); have hf12_3 := hfr12 3; (try simp only [show (k61).sz = 8 from rfl, Nat.mul_one, Nat.add_zero] at hf12_3); have Bg := hcc12 4 _ rfl; (try simp only [show (k61).sz = 8 from rfl, Nat.mul_one, Nat.add_zero] at Bg); have hf12_4 := hfr12 4; (try simp only [show (k61).sz = 8 from rfl, Nat.mul_one, Nat.add_zero] at hf12_4); have Bh := hcc12 5 _ rfl; (try simp only [show (k61).sz = 8 from rfl, Nat.mul_one, Nat.add_zero] at Bh); have hf12_5 := hfr12 5; (try simp only [show (k61).sz = 8 from rfl, Nat.mul_one, Nat.add_zero] at hf12_5); have Bi := hcc12 6 _ rfl; (try simp only [show (k61).sz = 8 from rfl, Nat.mul_one, Nat.add_zero] at Bi); have hf12_6 := hfr12 6; (try simp only [show (k61).sz = 8 from rfl, Nat.mul_one, Nat.add_zero] at hf12_6); have Bj := hcc12 7 _ rfl; (try simp only [show (k61).sz = 8 from rfl, Nat.mul_one, Nat.add_zero] at Bj); have hf12_7 := hfr12 7; (try simp only [show (k61).sz = 8 from rfl, Nat.mul_one, Nat.add_zero] at hf12_7); clear hcl12 hcc12 hfr12 hM12 hoki12 hH12) | ((with_reducible refine gate_store (t := 61) (p := 21) rfl ?_); refine store_event (t := 61) (p := 21) (v := ?vo_w13) (w1 := ((((((((w11.setCell ⟨go10, (Aa : Int).toNat * 8, none⟩ (.int .i64 Af)).setCell ⟨go10, (Aa : Int).toNat * 8 + 1, none⟩ (.int .i64 Ag)).setCell ⟨go10, (Aa : Int).toNat * 8 + 2, none⟩ (.int .i64 Ah)).setCell ⟨go10, (Aa : Int).toNat * 8 + 3, none⟩ (.int .i64 Ai)).setCell ⟨go10, (Aa : Int).toNat * 8 + 4, none⟩ (.int .i64 Aj)).setCell ⟨go10, (Aa : Int).toNat * 8 + 5, none⟩ (v297)).setCell ⟨go10, (Aa : Int).toNat * 8 + 6, none⟩ (.int .i64 Ak)).setCell ⟨go10, (Aa : Int).toNat * 8 + 7, none⟩ (.bool Al))) ?hg ?ho ?hn ?hr ?_; (case ho => rfl); (case hg => rfl); (case hn => rfl); (case hr => first | (go_simp; done) | (go_simp; rfl)); intro w13 hw; have hg : w11.grownBy w13 (some go10) := (by rw [hw]; exact HP12.2); have hp_ : Kd.S k61 61 w13 w.heap.size (fun _ => True) (.slice (some ⟨go10, 0, none⟩) Ab.length co10) Aw := (by rw [hw, Bl.out]; exact HP12.1); clear HP12; replace Ac := ak (hp_); replace HB := ak ((by rw [hw]; exact below_set (below_set (below_set (below_set (below_set (below_set (below_set (below_set (HB.out) GB10.out) GB10.out) GB10.out) GB10.out) GB10.out) GB10.out) GB10.out) GB10.out : Below w.heap.size w w13)); clear Av; clear hg hw hp_))
        go_roundg k1
        case measure => have := Bm.out; omega
        case rel => exact ⟨(Aw), (wrap64 (Aa + 1)), rs_q, H', ⟨by have := Bm.out; omega⟩, ⟨kS_q Ac⟩, ⟨bw_q HB⟩⟩
       ·rw [if_neg c9] at H
        exact absurd H (by simp)
      ·rw [if_neg c7] at H
       exact absurd H (by simp)
     ·rw [if_neg c6] at H
      have Br : decide (Aa < (l0.length : Int)) = false := decide_eq_false c6
      clear c6; obtain rfl := Option.some.inj H
      go_wp2
      go_ret
      exact ⟨_, er_q, kS_q Ac, bw_q HB⟩
  ·rw [if_neg c3] at H
   exact absurd H (by simp)
 ·rw [if_neg c2] at H
  exact absurd H (by simp)

/-! ### spec_l04Copy: function 94 -/
def spec_l04Copy.f (c : Int) (d : Int) (e : Int) (g : Int) (h : Int) (a : List (S127)) (i : Int) (j : Bool) : Option (Int × Int × Int × Int × Int × (List (S127)) × Int × Bool) := (some (([] : List (S127)) : List (S127))).bind fun b => (if b.length + a.length < 8796093022208 then (some (c, d, e, g, h, (b ++ a), i, j)) else (none))
set_option maxHeartbeats 8000000 in
set_option maxRecDepth 100000 in
theorem spec_l04Copy.calls (Aa : Int) (Ac : Int) (Ae : Int) (Af : Int) (Ah : Int) (Ao : Option Addr) (Ap : Nat) (Ag : List (S127)) (Ai : Int) (Al : Bool) (r1 : Int) (r2 : Int) (r3 : Int) (r4 : Int) (r5 : Int) (r6 : List (S127)) (r7 : Int) (r8 : Bool) (w : World) (hr0_5 : Kd.C k127 w Ao Ag.length Ag) (hc0_5 : Ag.length ≤ Ap) (h : spec_l04Copy.f Aa Ac Ae Af Ah Ag Ai Al = some (r1, r2, r3, r4, r5, r6, r7, r8)) :
  Calls Try.prog 94 #[.agg #[.int .i64 Aa, .int .i64 Ac, .int .i64 Ae, .int .i64 Af, .int .i64 Ah, .slice Ao Ag.length Ap, .int .i64 Ai, .bool Al]] w fun e w' => ∃ v5_ : Value, e = .returned (.agg #[.int .i64 r1, .int .i64 r2, .int .i64 r3, .int .i64 r4, .int .i64 r5, v5_, .int .i64 r7, .bool r8]) ∧ Kd.R k127 127 w' w.heap.size (fun _ => True) v5_ r6 ∧ Below w.heap.size w w' := by
 have hu61 := Try.underlying61; have Ax := ak hr0_5; have Cw := ak hc0_5; clear hr0_5 hc0_5; have HB := ak (Below.refl w.heap.size w); have H := h
 clear h; unfold spec_l04Copy.f at H; obtain ⟨At, Am⟩ : ∃ y_ : List (S127), y_ = (([] : List (S127))) := ⟨_, rfl⟩
 replace H : (if At.length + Ag.length < 8796093022208 then (some (Aa, Ac, Ae, Af, Ah, (At ++ Ag), Ai, Al)) else (none)) = some (r1, r2, r3, r4, r5, r6, r7, r8) := by first | (rw [Am]; with_reducible exact H) | (have H2_ := (Option.bind_some _ _).symm.trans H; rw [Am]; with_reducible exact H2_) | (have H2_ := (Option.bind_some _ _).symm.trans H; with_reducible exact H2_) | with_reducible exact H | (rw [Am]; exact H) | exact H
 have Av := ak Am; clear Am
 by_cases c2 : At.length + Ag.length < 8796093022208
 ·rw [if_pos c2] at H; have Az := ak c2; clear c2; obtain ⟨Aq, An⟩ : ∃ y_ : List (S127), y_ = (At ++ Ag) := ⟨_, rfl⟩
  replace H : (some (Aa, Ac, Ae, Af, Ah, Aq, Ai, Al)) = some (r1, r2, r3, r4, r5, r6, r7, r8) := by first | (rw [An]; with_reducible exact H) | (have H2_ := (Option.bind_some _ _).symm.trans H; rw [An]; with_reducible exact H2_) | (have H2_ := (Option.bind_some _ _).symm.trans H; with_reducible exact H2_) | with_reducible exact H | (rw [An]; exact H) | exact H
  have Ay := ak An; clear An
  simp only [Option.some.injEq, Prod.mk.injEq] at H
  obtain ⟨rfl, rfl, rfl, rfl, rfl, rfl, rfl, rfl⟩ := H
  go_enter Try.func94, Try.ntmps94
  go_wp2_with (first | ((with_reducible refine gate_dst (N := 1) rfl ?_); refine box_q 1 #[.int .i64 Aa, .int .i64 Ac, .int .i64 Ae, .int .i64 Af, .int .i64 Ah, .slice Ao Ag.length Ap, .int .i64 Ai, .bool Al] 61 ?_; intro Aj hg w3 hbox hb; have Ad := ak (hbox); have Cx := gsz w (below_size (bw_q HB)) hg; have Cy := gsz w (below_size (bw_q HB)) hg; replace HB := ak (below_step (bw_q HB) hb); clear hb hbox hg) | ((with_reducible refine gate_dst (N := 2) rfl ?_); refine box_q 2 #[.int .i64 0, .int .i64 0, .int .i64 0, .int .i64 0, .int .i64 0, .slice none 0 0, .int .i64 0, .bool false] 61 ?_; intro Ab hg w4 hbox hb; have Ak := ak (hbox); have Cz := gsz w (below_size (bw_q HB)) hg; have Da := gsz w (below_size (bw_q HB)) hg; replace HB := ak (below_step (bw_q HB) hb); have Au := ak ((by rw [hg]; exact Nat.ne_of_lt (blk_lt (g := Aj) (o := .cells #[.int .i64 Aa, .int .i64 Ac, .int .i64 Ae, .int .i64 Af, .int .i64 Ah, .slice Ao Ag.length Ap, .int .i64 Ai, .bool Al] 61 (0, 0)) (bk_q Ad)) : Aj ≠ Ab)); have Ar := ak ((by rw [hg]; exact Nat.ne_of_gt (blk_lt (g := Aj) (o := .cells #[.int .i64 Aa, .int .i64 Ac, .int .i64 Ae, .int .i64 Af, .int .i64 Ah, .slice Ao Ag.length Ap, .int .i64 Ai, .bool Al] 61 (0, 0)) (bk_q Ad)) : Ab ≠ Aj)); replace Ad := ak (blk_below (g := Aj) (bk_q Ad) hb); clear hb hbox hg) | ((with_reducible refine gate_dst (N := 3) rfl ?_); refine Kd.R_lit k127 _ 127 ?hg (N := 3) ?hd (xs := ([] : List (S127))) (inner := []) (ok := fun _ => True) (okp := fun _ => True) ?hr ?hp (fun _ hk => hk) trivial (Below.refl _ _) (Nat.le_refl _) (by simp) ?_; (case hd => rfl); (case hg => rfl); (case hr => first | (go_simp; done) | (go_simp; rfl)); (case hp => exact (Reps.none _ _)); intro v434 w5 ho6 hb hg_ hnew_; clear hg_ hnew_; (first | rw [← Av.out] at ho6 | (simp only [Int.reduceToNat] at ho6; rw [← Av.out] at ho6)); have As := ak (Kd.R_lower ho6 (below_size (bw_q HB))); replace Ad := ak (blk_below (g := Aj) (bk_q Ad) hb); replace Ak := ak (blk_below (g := Ab) (bk_q Ak) hb); replace HB := ak (below_step (bw_q HB) hb); clear hb ho6; have Db := Au.out; have Dc := Ar.out; obtain ⟨Cg, Ch, Ci, Cj, Ck, Cl, Cm, Cn, Co, Cp, Cq, Cr, Cs, Ct, Cu, Cv⟩ := cf8_ Ad) | ((with_reducible refine gate_builtin (b := .append) (xs := #[.tmp 3, .tmp 5]) rfl ?_); at_builtin; refine Kd.R_append_rows k127 (w0 := w) w.heap.size rfl (.tmp 3) (.tmp 5) 59 127 (.agg #[(.int .i64 0), (.int .i64 0)]) 16 rfl Try.underlying59 info127 rfl (by decide) (by omega) v434 At Ag _ _ _ (fun _ => True) (fun _ => False) rfl rfl ?aO ?aR (fun _ _ h => h) (fun _ h => h.elim) ?aF ?aB ?aS ?aL ?_; (case aR => exact cs_q (Kd.C_below Ax.out HB.out)); (case aB => exact (bw_q HB)); (case aF => exact (fun _ _ => trivial)); (case aO => exact (kR_q As)); (case aS => exact (below_size (bw_q HB))); (case aL => have := Az.out; omega); intro v437 w9 ho hb hg hat; rw [← Ay.out] at ho; replace Ad := ak (blk_grown (g := Aj) (o := .cells #[.int .i64 Aa, .int .i64 Ac, .int .i64 Ae, .int .i64 Af, .int .i64 Ah, .slice Ao Ag.length Ap, .int .i64 Ai, .bool Al] 61 (0, 0)) (bk_q Ad) hg (Kd.R_ne As.out Ad.out (by decide))); replace Ak := ak (blk_grown (g := Ab) (o := .cells #[.int .i64 0, .int .i64 0, .int .i64 0, .int .i64 0, .int .i64 0, .slice none 0 0, .int .i64 0, .bool false] 61 (0, 0)) (bk_q Ak) hg (Kd.R_ne As.out Ak.out (by decide))); replace HB := ak (hb); have Aw := ak (ho); clear As; clear ho hb hg hat; obtain ⟨Ao10, co10, eo10⟩ := Kd.R_slice Aw.out; subst eo10; obtain ⟨Ba, Bb, Bc, Bd, Be, Bf, Bg, Bh, Bi, Bj, Bk, Bl, Bm, Bn, Bo, Bp⟩ := cf8_ Ad; obtain ⟨Bq, Br, Bs, Bt, Bu, Bv, Bw, Bx, By, Bz, Ca, Cb, Cc, Cd, Ce, Cf⟩ := cf8_ Ak))
  refine bodyPost_ret (results_cell_row rfl _ _ Ab 61 #[.int .i64 Aa, .int .i64 Ac, .int .i64 Ae, .int .i64 Af, .int .i64 Ah, .slice Ao10 Aq.length co10, .int .i64 Ai, .bool Al] (0, 0) _ rfl (by refine bz_ ?_; refine blk_put (cs := #[.int .i64 Aa, .int .i64 Ac, .int .i64 Ae, .int .i64 Af, .int .i64 Ah, .slice Ao10 Aq.length co10, .int .i64 Ai, .bool false]) ?_ 7 _ rfl; refine bz_ ?_; refine blk_put (cs := #[.int .i64 Aa, .int .i64 Ac, .int .i64 Ae, .int .i64 Af, .int .i64 Ah, .slice Ao10 Aq.length co10, .int .i64 0, .bool false]) ?_ 6 _ rfl; refine bz_ ?_; refine blk_put (cs := #[.int .i64 Aa, .int .i64 Ac, .int .i64 Ae, .int .i64 Af, .int .i64 Ah, .slice none 0 0, .int .i64 0, .bool false]) ?_ 5 _ rfl; refine bz_ ?_; refine blk_put (cs := #[.int .i64 Aa, .int .i64 Ac, .int .i64 Ae, .int .i64 Af, .int .i64 0, .slice none 0 0, .int .i64 0, .bool false]) ?_ 4 _ rfl; refine bz_ ?_; refine blk_put (cs := #[.int .i64 Aa, .int .i64 Ac, .int .i64 Ae, .int .i64 0, .int .i64 0, .slice none 0 0, .int .i64 0, .bool false]) ?_ 3 _ rfl; refine bz_ ?_; refine blk_put (cs := #[.int .i64 Aa, .int .i64 Ac, .int .i64 0, .int .i64 0, .int .i64 0, .slice none 0 0, .int .i64 0, .bool false]) ?_ 2 _ rfl; refine bz_ ?_; refine blk_put (cs := #[.int .i64 Aa, .int .i64 0, .int .i64 0, .int .i64 0, .int .i64 0, .slice none 0 0, .int .i64 0, .bool false]) ?_ 1 _ rfl; refine bz_ ?_; refine blk_put (cs := #[.int .i64 0, .int .i64 0, .int .i64 0, .int .i64 0, .int .i64 0, .slice none 0 0, .int .i64 0, .bool false]) ?_ 0 _ rfl; refine bz_ ?_; refine blk_far ?_ Ar.out _; refine bz_ ?_; exact Ak.out) Try.underlying61 rfl (by kernel_rfl)) rfl ?_
  exact ⟨_, er_q, by (with_reducible repeat (first | apply Kd.R_alloc | apply Kd.R_drewN | apply Kd.R_drew)); exact Kd.R_mono (Kd.R_far (p := ⟨Ab, 7, none⟩) (Kd.R_far (p := ⟨Ab, 6, none⟩) (Kd.R_far (p := ⟨Ab, 5, none⟩) (Kd.R_far (p := ⟨Ab, 4, none⟩) (Kd.R_far (p := ⟨Ab, 3, none⟩) (Kd.R_far (p := ⟨Ab, 2, none⟩) (Kd.R_far (p := ⟨Ab, 1, none⟩) (Kd.R_far (p := ⟨Ab, 0, none⟩) (Kd.R_far (p := ⟨Aj, 5, none⟩) (Kd.R_types (Kd.R_types Aw.out Ad.out (by decide)) Ak.out (by decide)) (fun _ hk => hk.1.2) (.slice Ao10 Aq.length co10)) (fun _ hk => hk.2) (.int .i64 Aa)) (fun _ hk => hk.2) (.int .i64 Ac)) (fun _ hk => hk.2) (.int .i64 Ae)) (fun _ hk => hk.2) (.int .i64 Af)) (fun _ hk => hk.2) (.int .i64 Ah)) (fun _ hk => hk.2) (.slice Ao10 Aq.length co10)) (fun _ hk => hk.2) (.int .i64 Ai)) (fun _ hk => hk.2) (.bool Al)) (fun _ hk => trivial), bw_q HB⟩
 ·rw [if_neg c2] at H
  exact absurd H (by simp)

/-! ### spec_SameKey: function 52 -/
def spec_SameKey.f (a : Int) (b : Int) (c : Int) (d : Int) (j : Int) (l : List (S127)) (m : Int) (n : Bool) (e : Int) (g : Int) (h : Int) (i : Int) (o : Int) (p : List (S127)) (q : Int) (s : Bool) : Option (Bool) := if a = e then (if b = g then (if c = h then (some (d == i)) else (some false)) else (some false)) else (some false)
set_option maxHeartbeats 8000000 in
set_option maxRecDepth 100000 in
theorem spec_SameKey.calls (Ac : Int) (Ad : Int) (Ae : Int) (Ai : Int) (Aj : Int) (Ak : Option Addr) (Al : Nat) (Af : List (S127)) (Am : Int) (An : Bool) (Ap : Int) (Aq : Int) (Ar : Int) (Au : Int) (Av : Int) (Aw : Option Addr) (Ax : Nat) (As : List (S127)) (Ay : Int) (Az : Bool) (r : Bool) (w : World) (hr0_5 : Kd.C k127 w Ak Af.length Af) (hc0_5 : Af.length ≤ Al) (hr1_5 : Kd.C k127 w Aw As.length As) (hc1_5 : As.length ≤ Ax) (h : spec_SameKey.f Ac Ad Ae Ai Aj Af Am An Ap Aq Ar Au Av As Ay Az = some r) :
  Calls Try.prog 52 #[.agg #[.int .i64 Ac, .int .i64 Ad, .int .i64 Ae, .int .i64 Ai, .int .i64 Aj, .slice Ak Af.length Al, .int .i64 Am, .bool An], .agg #[.int .i64 Ap, .int .i64 Aq, .int .i64 Ar, .int .i64 Au, .int .i64 Av, .slice Aw As.length Ax, .int .i64 Ay, .bool Az]] w fun e w' => e = .returned (.bool r) ∧ Below w.heap.size w w' := by
 have hu61 := Try.underlying61; have Gi := ak hr0_5; have Gj := ak hc0_5; clear hr0_5 hc0_5; have Gk := ak hr1_5; have Gl := ak hc1_5; clear hr1_5 hc1_5; have HB := ak (Below.refl w.heap.size w); have H := h
 clear h; unfold spec_SameKey.f at H
 by_cases c3 : Ac = Ap
 ·rw [if_pos c3] at H
  have Be : (Ac == Ap) = true := bqi c3
  have Bf : (Ac != Ap) = false := bnf c3
  clear c3
  by_cases c4 : Ad = Aq
  ·rw [if_pos c4] at H
   have Bg : (Ad == Aq) = true := bqi c4
   have Bh : (Ad != Aq) = false := bnf c4
   clear c4
   by_cases c5 : Ae = Ar
   ·rw [if_pos c5] at H
    have Bi : (Ae == Ar) = true := bqi c5
    have Bj : (Ae != Ar) = false := bnf c5
    clear c5; obtain rfl := Option.some.inj H
    go_enter Try.func52, Try.ntmps52
    go_wp2_with (first | ((with_reducible refine gate_dst (N := 2) rfl ?_); refine box_q 2 #[.int .i64 Ac, .int .i64 Ad, .int .i64 Ae, .int .i64 Ai, .int .i64 Aj, .slice Ak Af.length Al, .int .i64 Am, .bool An] 61 ?_; intro Aa hg w6 hbox hb; have Ab := ak (hbox); have Ba := gsz w (below_size (bw_q HB)) hg; have Bb := gsz w (below_size (bw_q HB)) hg; replace HB := ak (below_step (bw_q HB) hb); clear hb hbox hg) | ((with_reducible refine gate_dst (N := 3) rfl ?_); refine box_q 3 #[.int .i64 Ap, .int .i64 Aq, .int .i64 Ar, .int .i64 Au, .int .i64 Av, .slice Aw As.length Ax, .int .i64 Ay, .bool Az] 61 ?_; intro Ao hg w7 hbox hb; have At := ak (hbox); have Bc := gsz w (below_size (bw_q HB)) hg; have Bd := gsz w (below_size (bw_q HB)) hg; replace HB := ak (below_step (bw_q HB) hb); have Ag := ak ((by rw [hg]; exact Nat.ne_of_lt (blk_lt (g := Aa) (o := .cells #[.int .i64 Ac, .int .i64 Ad, .int .i64 Ae, .int .i64 Ai, .int .i64 Aj, .slice Ak Af.length Al, .int .i64 Am, .bool An] 61 (0, 0)) (bk_q Ab)) : Aa ≠ Ao)); have Ah := ak ((by rw [hg]; exact Nat.ne_of_gt (blk_lt (g := Aa) (o := .cells #[.int .i64 Ac, .int .i64 Ad, .int .i64 Ae, .int .i64 Ai, .int .i64 Aj, .slice Ak Af.length Al, .int .i64 Am, .bool An] 61 (0, 0)) (bk_q Ab)) : Ao ≠ Aa)); replace Ab := ak (blk_below (g := Aa) (bk_q Ab) hb); clear hb hbox hg; have Gs := Ag.out; have Gt := Ah.out; obtain ⟨Fs, Ft, Fu, Fv, Fw, Fx, Fy, Fz, Ga, Gb, Gc, Gd, Ge, Gf, Gg, Gh⟩ := cf8_ Ab; obtain ⟨Bk, Bl, Bm, Bn, Bo, Bp, Bq, Br, Bs, Bt, Bu, Bv, Bw, Bx, By, Bz⟩ := cf8_ At))
    go_ret
    exact ⟨er_q, bw_q HB⟩
   ·rw [if_neg c5] at H
    have Bi : (Ae == Ar) = false := bqf c5
    have Bj : (Ae != Ar) = true := bni c5
    obtain rfl := Option.some.inj H
    go_enter Try.func52, Try.ntmps52
    go_wp2_with (first | ((with_reducible refine gate_dst (N := 2) rfl ?_); refine box_q 2 #[.int .i64 Ac, .int .i64 Ad, .int .i64 Ae, .int .i64 Ai, .int .i64 Aj, .slice Ak Af.length Al, .int .i64 Am, .bool An] 61 ?_; intro Aa hg w11 hbox hb; have Ab := ak (hbox); have Ba := gsz w (below_size (bw_q HB)) hg; have Bb := gsz w (below_size (bw_q HB)) hg; replace HB := ak (below_step (bw_q HB) hb); clear hb hbox hg) | ((with_reducible refine gate_dst (N := 3) rfl ?_); refine box_q 3 #[.int .i64 Ap, .int .i64 Aq, .int .i64 Ar, .int .i64 Au, .int .i64 Av, .slice Aw As.length Ax, .int .i64 Ay, .bool Az] 61 ?_; intro Ao hg w12 hbox hb; have At := ak (hbox); have Bc := gsz w (below_size (bw_q HB)) hg; have Bd := gsz w (below_size (bw_q HB)) hg; replace HB := ak (below_step (bw_q HB) hb); have Ag := ak ((by rw [hg]; exact Nat.ne_of_lt (blk_lt (g := Aa) (o := .cells #[.int .i64 Ac, .int .i64 Ad, .int .i64 Ae, .int .i64 Ai, .int .i64 Aj, .slice Ak Af.length Al, .int .i64 Am, .bool An] 61 (0, 0)) (bk_q Ab)) : Aa ≠ Ao)); have Ah := ak ((by rw [hg]; exact Nat.ne_of_gt (blk_lt (g := Aa) (o := .cells #[.int .i64 Ac, .int .i64 Ad, .int .i64 Ae, .int .i64 Ai, .int .i64 Aj, .slice Ak Af.length Al, .int .i64 Am, .bool An] 61 (0, 0)) (bk_q Ab)) : Ao ≠ Aa)); replace Ab := ak (blk_below (g := Aa) (bk_q Ab) hb); clear hb hbox hg; have Gm := Ag.out; have Gn := Ah.out; obtain ⟨Ca, Cb, Cc, Cd, Ce, Cf, Cg, Ch, Ci, Cj, Ck, Cl, Cm, Cn, Co, Cp⟩ := cf8_ Ab; obtain ⟨Cq, Cr, Cs, Ct, Cu, Cv, Cw, Cx, Cy, Cz, Da, Db, Dc, Dd, De, Df⟩ := cf8_ At))
    go_ret
    exact ⟨er_q, bw_q HB⟩
  ·rw [if_neg c4] at H
   have Bg : (Ad == Aq) = false := bqf c4
   have Bh : (Ad != Aq) = true := bni c4
   obtain rfl := Option.some.inj H
   go_enter Try.func52, Try.ntmps52
   go_wp2_with (first | ((with_reducible refine gate_dst (N := 2) rfl ?_); refine box_q 2 #[.int .i64 Ac, .int .i64 Ad, .int .i64 Ae, .int .i64 Ai, .int .i64 Aj, .slice Ak Af.length Al, .int .i64 Am, .bool An] 61 ?_; intro Aa hg w16 hbox hb; have Ab := ak (hbox); have Ba := gsz w (below_size (bw_q HB)) hg; have Bb := gsz w (below_size (bw_q HB)) hg; replace HB := ak (below_step (bw_q HB) hb); clear hb hbox hg) | ((with_reducible refine gate_dst (N := 3) rfl ?_); refine box_q 3 #[.int .i64 Ap, .int .i64 Aq, .int .i64 Ar, .int .i64 Au, .int .i64 Av, .slice Aw As.length Ax, .int .i64 Ay, .bool Az] 61 ?_; intro Ao hg w17 hbox hb; have At := ak (hbox); have Bc := gsz w (below_size (bw_q HB)) hg; have Bd := gsz w (below_size (bw_q HB)) hg; replace HB := ak (below_step (bw_q HB) hb); have Ag := ak ((by rw [hg]; exact Nat.ne_of_lt (blk_lt (g := Aa) (o := .cells #[.int .i64 Ac, .int .i64 Ad, .int .i64 Ae, .int .i64 Ai, .int .i64 Aj, .slice Ak Af.length Al, .int .i64 Am, .bool An] 61 (0, 0)) (bk_q Ab)) : Aa ≠ Ao)); have Ah := ak ((by rw [hg]; exact Nat.ne_of_gt (blk_lt (g := Aa) (o := .cells #[.int .i64 Ac, .int .i64 Ad, .int .i64 Ae, .int .i64 Ai, .int .i64 Aj, .slice Ak Af.length Al, .int .i64 Am, .bool An] 61 (0, 0)) (bk_q Ab)) : Ao ≠ Aa)); replace Ab := ak (blk_below (g := Aa) (bk_q Ab) hb); clear hb hbox hg; have Go := Ag.out; have Gp := Ah.out; obtain ⟨Dg, Dh, Di, Dj, Dk, Dl, Dm, Dn, Do, Dp, Dq, Dr, Ds, Dt, Du, Dv⟩ := cf8_ Ab; obtain ⟨Dw, Dx, Dy, Dz, Ea, Eb, Ec, Ed, Ee, Ef, Eg, Eh, Ei, Ej, Ek, El⟩ := cf8_ At))
   go_ret
   exact ⟨er_q, bw_q HB⟩
 ·rw [if_neg c3] at H
  have Be : (Ac == Ap) = false := bqf c3
  have Bf : (Ac != Ap) = true := bni c3
  obtain rfl := Option.some.inj H
  go_enter Try.func52, Try.ntmps52
  go_wp2_with (first | ((with_reducible refine gate_dst (N := 2) rfl ?_); refine box_q 2 #[.int .i64 Ac, .int .i64 Ad, .int .i64 Ae, .int .i64 Ai, .int .i64 Aj, .slice Ak Af.length Al, .int .i64 Am, .bool An] 61 ?_; intro Aa hg w21 hbox hb; have Ab := ak (hbox); have Ba := gsz w (below_size (bw_q HB)) hg; have Bb := gsz w (below_size (bw_q HB)) hg; replace HB := ak (below_step (bw_q HB) hb); clear hb hbox hg) | ((with_reducible refine gate_dst (N := 3) rfl ?_); refine box_q 3 #[.int .i64 Ap, .int .i64 Aq, .int .i64 Ar, .int .i64 Au, .int .i64 Av, .slice Aw As.length Ax, .int .i64 Ay, .bool Az] 61 ?_; intro Ao hg w22 hbox hb; have At := ak (hbox); have Bc := gsz w (below_size (bw_q HB)) hg; have Bd := gsz w (below_size (bw_q HB)) hg; replace HB := ak (below_step (bw_q HB) hb); have Ag := ak ((by rw [hg]; exact Nat.ne_of_lt (blk_lt (g := Aa) (o := .cells #[.int .i64 Ac, .int .i64 Ad, .int .i64 Ae, .int .i64 Ai, .int .i64 Aj, .slice Ak Af.length Al, .int .i64 Am, .bool An] 61 (0, 0)) (bk_q Ab)) : Aa ≠ Ao)); have Ah := ak ((by rw [hg]; exact Nat.ne_of_gt (blk_lt (g := Aa) (o := .cells #[.int .i64 Ac, .int .i64 Ad, .int .i64 Ae, .int .i64 Ai, .int .i64 Aj, .slice Ak Af.length Al, .int .i64 Am, .bool An] 61 (0, 0)) (bk_q Ab)) : Ao ≠ Aa)); replace Ab := ak (blk_below (g := Aa) (bk_q Ab) hb); clear hb hbox hg; have Gq := Ag.out; have Gr := Ah.out; obtain ⟨Em, En, Eo, Ep, Eq, Er, Es, Et, Eu, Ev, Ew, Ex, Ey, Ez, Fa, Fb⟩ := cf8_ Ab; obtain ⟨Fc, Fd, Fe, Ff, Fg, Fh, Fi, Fj, Fk, Fl, Fm, Fn, Fo, Fp, Fq, Fr⟩ := cf8_ At))
  go_ret
  exact ⟨er_q, bw_q HB⟩

/-! ### spec_l05At: function 105 -/
def spec_l05At.l0 : Nat → List (S61) → Int → Int → Int → Int → Int → Int → List (S127) → Int → Bool → Option (Int)
 | 0, _, _, _, _, _, _, _, _, _, _ => none
 | k + 1, b, a, c, d, e, g, h, i, j, l => if a < (b.length : Int) then (if 0 ≤ a then ((spec_SameKey.f ((rd_T61 b a).f0) ((rd_T61 b a).f1) ((rd_T61 b a).f2) ((rd_T61 b a).f3) ((rd_T61 b a).f4) ((rd_T61 b a).f5) ((rd_T61 b a).f6) ((rd_T61 b a).f7) c d e g h i j l).bind fun m => (if m = true then (some a) else (spec_l05At.l0 k b (wrap64 (a + 1)) c d e g h i j l))) else (none)) else (some (-1))
def spec_l05At.f (k : Nat) (l0 : List (S61)) (a : Int) (b : Int) (c : Int) (d : Int) (e : Int) (g : List (S127)) (h : Int) (i : Bool) : Option (Int) := spec_l05At.l0 k l0 0 a b c d e g h i
theorem spec_l05At.mono_l : ∀ k, (∀ y0 y1 y2 y3 y4 y5 y6 y7 y8 y9, LeO (spec_l05At.l0 k y0 y1 y2 y3 y4 y5 y6 y7 y8 y9) (spec_l05At.l0 (k + 1) y0 y1 y2 y3 y4 y5 y6 y7 y8 y9))
 | 0 => fun _ _ _ _ _ _ _ _ _ _ r h => by simp [spec_l05At.l0] at h
 | k + 1 => by
  have ih0 := spec_l05At.mono_l k
  ·intro y0 y1 y2 y3 y4 y5 y6 y7 y8 y9
   unfold spec_l05At.l0
   with_reducible repeat' (first | apply ih0 | exact LeO.refl _ | exact LeO.none _ | refine LeO.ite ?_ ?_ | refine LeO.bind ?_ (fun _ => ?_))
theorem spec_l05At.mono : ∀ a0 a1 a2 a3 a4 a5 a6 a7 a8 k, LeO (spec_l05At.f k a0 a1 a2 a3 a4 a5 a6 a7 a8) (spec_l05At.f (k + 1) a0 a1 a2 a3 a4 a5 a6 a7 a8) := by
 intro a0 a1 a2 a3 a4 a5 a6 a7 a8 k
 have ih0 := spec_l05At.mono_l k
 unfold spec_l05At.f
 with_reducible repeat' (first | apply ih0 | exact LeO.refl _ | exact LeO.none _ | refine LeO.ite ?_ ?_ | refine LeO.bind ?_ (fun _ => ?_))
set_option maxHeartbeats 8000000 in
set_option maxRecDepth 100000 in
theorem spec_l05At.calls (k : Nat) (A0 : Option Addr) (c0 : Nat) (l0 : List (S61)) (Af : Int) (Ag : Int) (Ah : Int) (Ai : Int) (Aj : Int) (Au : Option Addr) (Av : Nat) (Ae : List (S127)) (Ak : Int) (Al : Bool) (r : Int) (w : World) (hr0 : Kd.C k61 w A0 l0.length l0) (hc0 : l0.length ≤ c0) (hr1_5 : Kd.C k127 w Au Ae.length Ae) (hc1_5 : Ae.length ≤ Av) (h : spec_l05At.f k l0 Af Ag Ah Ai Aj Ae Ak Al = some r) :
  Calls Try.prog 105 #[.slice A0 l0.length c0, .agg #[.int .i64 Af, .int .i64 Ag, .int .i64 Ah, .int .i64 Ai, .int .i64 Aj, .slice Au Ae.length Av, .int .i64 Ak, .bool Al]] w fun e w' => e = .returned (.int .i64 r) ∧ Below w.heap.size w w' := by
 have hu61 := Try.underlying61; have HR0 := ak hr0; have Bg := ak hc0; clear hr0 hc0; have Az := ak hr1_5; have Ba := ak hc1_5; clear hr1_5 hc1_5; have HB := ak (Below.refl w.heap.size w); have H := h
 clear h; unfold spec_l05At.f at H; have H' := ak H; clear H
 go_enter Try.func105, Try.ntmps105
 go_wp2_with (first | ((with_reducible refine gate_dst (N := 3) rfl ?_); refine box_q 3 #[.int .i64 Af, .int .i64 Ag, .int .i64 Ah, .int .i64 Ai, .int .i64 Aj, .slice Au Ae.length Av, .int .i64 Ak, .bool Al] 61 ?_; intro Ad hg w3 hbox hb; have Ab := ak (hbox); have Bd := gsz w (below_size (bw_q HB)) hg; have Be := gsz w (below_size (bw_q HB)) hg; replace HB := ak (below_step (bw_q HB) hb); clear hb hbox hg))
 go_loopg [5] k (fun kq v5 w' => ∃ (Aa : Int), v5 = .int .i64 Aa ∧ Aside0 (spec_l05At.l0 kq l0 Aa Af Ag Ah Ai Aj Ae Ak Al = some r) ∧ Aside0 (kq ≤ k) ∧ Aside0 (w'.heap[Ad]? = some (.cells #[.int .i64 Af, .int .i64 Ag, .int .i64 Ah, .int .i64 Ai, .int .i64 Aj, (.slice Au Ae.length Av), .int .i64 Ak, .bool Al] 61 (0, 0))) ∧ Aside0 (Below w.heap.size w w'))
 case atStart => exact ⟨(0), rs_q, H', ⟨Nat.le_refl _⟩, ⟨bk_q Ab⟩, ⟨bw_q HB⟩⟩
 case round =>
  clear H'; (try clear c1); (try clear p2); obtain ⟨Aa, rfl, HA, Bb, Ab, HB⟩ := hrel
  cases gk with
  | zero => exact absurd HA.out (by simp [spec_l05At.l0])
  | succ k1 =>
   have H := HA.out; clear HA
   simp only [spec_l05At.l0] at H
   by_cases c4 : Aa < (l0.length : Int)
   ·rw [if_pos c4] at H
    have Bc : decide (Aa < (l0.length : Int)) = true := decide_eq_true c4
    clear c4
    by_cases c5 : 0 ≤ Aa
    ·rw [if_pos c5] at H
     have Bf : decide (0 ≤ Aa) = true := decide_eq_true c5
     clear c5; replace H := bsi H; obtain ⟨Ay, A60, H⟩ := H
     (try dsimp only at H)
     have A6 := ak A60; clear A60; have HZ48 := ak H; clear H
     try go_wp2
     replace Ab := ak (blk_drew Ab.out); replace HB := ak (below_drew1 HB.out)
     have p482 : 0 ≤ (Aa : Int) := of_decide_eq_true as_q
     have q482 : Aa < (l0.length : Int) := of_decide_eq_true as_q
     obtain ⟨Ac, A482_5, c482_5, e482, Am, An, Ao, Ap, Aq, Ar, As, At, hl482_5, hi482_5⟩ := at_T61 HR0.out Aa p482 q482; have hw482_7 := At; have hw482_6 := As; have hw482_5 := Ar; have hw482_4 := Aq; have hw482_3 := Ap; have hw482_2 := Ao; have hw482_1 := An; have hw482_0 := Am
     cases e482
     replace Am := hbc HB Am; replace An := hbc HB An; replace Ao := hbc HB Ao; replace Ap := hbc HB Ap; replace Aq := hbc HB Aq; replace Ar := hbc HB Ar; replace As := hbc HB As; replace At := hbc HB At; have Aw := ak hi482_5; have Ax := ak hl482_5; clear hi482_5 hl482_5; replace p482 := eq_true p482; replace q482 := eq_true q482
     refine start_ (n := 6) (S := fun w' => w'.cell? ⟨Ad, 0, none⟩ = some (.int .i64 Af) ∧ w'.cell? ⟨Ad, 1, none⟩ = some (.int .i64 Ag) ∧ w'.cell? ⟨Ad, 2, none⟩ = some (.int .i64 Ah) ∧ w'.cell? ⟨Ad, 3, none⟩ = some (.int .i64 Ai) ∧ w'.cell? ⟨Ad, 4, none⟩ = some (.int .i64 Aj) ∧ w'.cell? ⟨Ad, 5, none⟩ = some (.slice Au Ae.length Av) ∧ w'.cell? ⟨Ad, 6, none⟩ = some (.int .i64 Ak) ∧ w'.cell? ⟨Ad, 7, none⟩ = some (.bool Al) ∧ w'.cell? (Ac.add ((Aa).toNat * 8)) = some (.int .i64 ((rd_T61 l0 Aa).f0)) ∧ w'.cell? ⟨(Ac.add ((Aa).toNat * 8)).block, (Ac.add ((Aa).toNat * 8)).off + 1, none⟩ = some (.int .i64 ((rd_T61 l0 Aa).f1)) ∧ w'.cell? ⟨(Ac.add ((Aa).toNat * 8)).block, (Ac.add ((Aa).toNat * 8)).off + 2, none⟩ = some (.int .i64 ((rd_T61 l0 Aa).f2)) ∧ w'.cell? ⟨(Ac.add ((Aa).toNat * 8)).block, (Ac.add ((Aa).toNat * 8)).off + 3, none⟩ = some (.int .i64 ((rd_T61 l0 Aa).f3)) ∧ w'.cell? ⟨(Ac.add ((Aa).toNat * 8)).block, (Ac.add ((Aa).toNat * 8)).off + 4, none⟩ = some (.int .i64 ((rd_T61 l0 Aa).f4)) ∧ w'.cell? ⟨(Ac.add ((Aa).toNat * 8)).block, (Ac.add ((Aa).toNat * 8)).off + 5, none⟩ = some (.slice A482_5 ((rd_T61 l0 Aa).f5).length c482_5) ∧ w'.cell? ⟨(Ac.add ((Aa).toNat * 8)).block, (Ac.add ((Aa).toNat * 8)).off + 6, none⟩ = some (.int .i64 ((rd_T61 l0 Aa).f6)) ∧ w'.cell? ⟨(Ac.add ((Aa).toNat * 8)).block, (Ac.add ((Aa).toNat * 8)).off + 7, none⟩ = some (.bool ((rd_T61 l0 Aa).f7))) (ds := []) (bL 6 0) (by kernel_rfl) rfl rfl ⟨(blk_cell Ab.out 0).trans rfl, (blk_cell Ab.out 1).trans rfl, (blk_cell Ab.out 2).trans rfl, (blk_cell Ab.out 3).trans rfl, (blk_cell Ab.out 4).trans rfl, (blk_cell Ab.out 5).trans rfl, (blk_cell Ab.out 6).trans rfl, (blk_cell Ab.out 7).trans rfl, ((HB.out.cell (World.block_lt_of_cell? w _ hw482_0)).trans hw482_0), ((HB.out.cell (World.block_lt_of_cell? w _ hw482_1)).trans hw482_1), ((HB.out.cell (World.block_lt_of_cell? w _ hw482_2)).trans hw482_2), ((HB.out.cell (World.block_lt_of_cell? w _ hw482_3)).trans hw482_3), ((HB.out.cell (World.block_lt_of_cell? w _ hw482_4)).trans hw482_4), ((HB.out.cell (World.block_lt_of_cell? w _ hw482_5)).trans hw482_5), ((HB.out.cell (World.block_lt_of_cell? w _ hw482_6)).trans hw482_6), ((HB.out.cell (World.block_lt_of_cell? w _ hw482_7)).trans hw482_7)⟩ (fun hHeld => ?_)
     generalize wr.drew = w8 at Ab HB Aw Am An Ao Ap Aq Ar As At hHeld ⊢
     refine pr_ 0 12 (bL 6 1) rfl rfl ?_
     refine pr_ 1 13 (bL 6 3) rfl rfl ?_
     refine pr_ 2 14 (bL 6 7) rfl rfl ?_
     refine take_ (i := 3) (N := some 15) (v := ?_) (a' := ?_) (bL 6 15) rfl rfl (by kernel_rfl) (fun _ _ _ h => h) (Or.inl ⟨by rfl, ?_⟩) hHeld ?_ ?_; rotate_left; (rintro w' ⟨s0, s1, s2, s3, s4, s5, s6, s7, s8, s9, s10, s11, s12, s13, s14, s15⟩; go_simp; with_reducible rfl); rotate_left; (exact put_q)
     refine take_ (i := 4) (N := some 16) (v := ?_) (a' := ?_) (bL 6 31) rfl rfl (by kernel_rfl) (fun _ _ _ h => h) (Or.inl ⟨by rfl, ?_⟩) hHeld ?_ ?_; rotate_left; (rintro w' ⟨s0, s1, s2, s3, s4, s5, s6, s7, s8, s9, s10, s11, s12, s13, s14, s15⟩; go_simp; with_reducible rfl); rotate_left; (exact put_q)
     refine one_ (i := 5) (N := some 17) (bL 6 63) rfl rfl (by kernel_rfl) (by decide) (fun K hK => ?_)
     refine goes_ Try.func52 (by kernel_rfl) rfl #[.agg #[.int .i64 ((rd_T61 l0 Aa).f0), .int .i64 ((rd_T61 l0 Aa).f1), .int .i64 ((rd_T61 l0 Aa).f2), .int .i64 ((rd_T61 l0 Aa).f3), .int .i64 ((rd_T61 l0 Aa).f4), .slice A482_5 ((rd_T61 l0 Aa).f5).length c482_5, .int .i64 ((rd_T61 l0 Aa).f6), .bool ((rd_T61 l0 Aa).f7)], .agg #[.int .i64 Af, .int .i64 Ag, .int .i64 Ah, .int .i64 Ai, .int .i64 Aj, .slice Au Ae.length Av, .int .i64 Ak, .bool Al]] (by rfl) rfl rfl mp_q ?_
     with_reducible refine (spec_SameKey.calls ((rd_T61 l0 Aa).f0) ((rd_T61 l0 Aa).f1) ((rd_T61 l0 Aa).f2) ((rd_T61 l0 Aa).f3) ((rd_T61 l0 Aa).f4) _ _ ((rd_T61 l0 Aa).f5) ((rd_T61 l0 Aa).f6) ((rd_T61 l0 Aa).f7) Af Ag Ah Ai Aj _ _ Ae Ak Al Ay _ ?side1 ?side2 ?side3 ?side4 A6.out).mono ?_
     (case side1 => exact cs_q (Kd.C_below Aw.out HB.out))
     (case side2 => exact Ax.out)
     (case side3 => exact cs_q (Kd.C_below Az.out HB.out))
     (case side4 => exact Ba.out)
     rintro e w9 ⟨rfl, hb⟩
     refine ⟨_, rfl, ?_⟩
     replace Ab := ak (blk_below (g := Ad) (bk_q Ab) hb); replace HB := ak (below_step (bw_q HB) hb)
     refine hK.out _ _ ⟨(blk_cell Ab.out 0).trans rfl, (blk_cell Ab.out 1).trans rfl, (blk_cell Ab.out 2).trans rfl, (blk_cell Ab.out 3).trans rfl, (blk_cell Ab.out 4).trans rfl, (blk_cell Ab.out 5).trans rfl, (blk_cell Ab.out 6).trans rfl, (blk_cell Ab.out 7).trans rfl, ((HB.out.cell (World.block_lt_of_cell? w _ hw482_0)).trans hw482_0), ((HB.out.cell (World.block_lt_of_cell? w _ hw482_1)).trans hw482_1), ((HB.out.cell (World.block_lt_of_cell? w _ hw482_2)).trans hw482_2), ((HB.out.cell (World.block_lt_of_cell? w _ hw482_3)).trans hw482_3), ((HB.out.cell (World.block_lt_of_cell? w _ hw482_4)).trans hw482_4), ((HB.out.cell (World.block_lt_of_cell? w _ hw482_5)).trans hw482_5), ((HB.out.cell (World.block_lt_of_cell? w _ hw482_6)).trans hw482_6), ((HB.out.cell (World.block_lt_of_cell? w _ hw482_7)).trans hw482_7)⟩ (fun hHeld => ?_)
     clear hK K
     refine norm_ (a' := ?_) ?_ ?_; rotate_left; (show Act.put _ (some 17) _ = _; simp only [Act.put, List.setIfInBounds_toArray, List.set_cons_zero, List.set_cons_succ, i64_w, i32_w]; rfl)
     have H := HZ48.out; clear HZ48
     by_cases c7 : Ay = true
     ·subst c7; rw [if_pos rfl] at H; obtain rfl := Option.some.inj H
      refine done_ (by kernel_rfl) ?_
      try go_wp2
      go_ret
      exact ⟨er_q, bw_q HB⟩
     ·replace c7 := Bool.eq_false_iff.mpr c7; subst c7
      rw [if_neg (show ¬ (false = true) by decide)] at H
      have H' := ak H; clear H
      refine done_ (by kernel_rfl) ?_
      try go_wp2
      go_roundg k1
      case measure => have := Bb.out; omega
      case rel => exact ⟨(wrap64 (Aa + 1)), rs_q, H', ⟨by have := Bb.out; omega⟩, ⟨bk_q Ab⟩, ⟨bw_q HB⟩⟩
    ·rw [if_neg c5] at H
     exact absurd H (by simp)
   ·rw [if_neg c4] at H
    have Bc : decide (Aa < (l0.length : Int)) = false := decide_eq_false c4
    clear c4; obtain rfl := Option.some.inj H
    go_wp2
    go_ret
    exact ⟨er_q, bw_q HB⟩

/-! ### spec_Find: function 35 -/
def spec_Find.f (k : Nat) (l0 : List (S61)) (c : Int) (d : Int) (e : Int) (g : Int) (h : Int) (i : List (S127)) (j : Int) (l : Bool) : Option (Int × Int × Int × Int × Int × (List (S127)) × Int × Bool × Bool) := (spec_l05At.f k l0 c d e g h i j l).bind fun a => (if a < 0 then (some (0, 0, 0, 0, 0, ([] : List (S127)), 0, false, false)) else (if 0 ≤ a then (if a < (l0.length : Int) then ((spec_l04Copy.f ((rd_T61 l0 a).f0) ((rd_T61 l0 a).f1) ((rd_T61 l0 a).f2) ((rd_T61 l0 a).f3) ((rd_T61 l0 a).f4) ((rd_T61 l0 a).f5) ((rd_T61 l0 a).f6) ((rd_T61 l0 a).f7)).bind fun b => (some (b.1, b.2.1, b.2.2.1, b.2.2.2.1, b.2.2.2.2.1, b.2.2.2.2.2.1, b.2.2.2.2.2.2.1, b.2.2.2.2.2.2.2, true))) else (none)) else (none)))
theorem spec_Find.mono : ∀ a0 a1 a2 a3 a4 a5 a6 a7 a8 k, LeO (spec_Find.f k a0 a1 a2 a3 a4 a5 a6 a7 a8) (spec_Find.f (k + 1) a0 a1 a2 a3 a4 a5 a6 a7 a8) := by
 intro a0 a1 a2 a3 a4 a5 a6 a7 a8 k
 unfold spec_Find.f
 with_reducible repeat' (first | apply spec_l05At.mono | exact LeO.refl _ | exact LeO.none _ | refine LeO.ite ?_ ?_ | refine LeO.bind ?_ (fun _ => ?_))
set_option maxHeartbeats 8000000 in
set_option maxRecDepth 100000 in
theorem spec_Find.calls (k : Nat) (A0 : Option Addr) (c0 : Nat) (l0 : List (S61)) (Al : Int) (Am : Int) (An : Int) (Ao : Int) (Ap : Int) (Au : Option Addr) (Av : Nat) (Ae : List (S127)) (Aq : Int) (Ar : Bool) (r1 : Int) (r2 : Int) (r3 : Int) (r4 : Int) (r5 : Int) (r6 : List (S127)) (r7 : Int) (r8 : Bool) (r9 : Bool) (w : World) (hr0 : Kd.C k61 w A0 l0.length l0) (hc0 : l0.length ≤ c0) (hr1_5 : Kd.C k127 w Au Ae.length Ae) (hc1_5 : Ae.length ≤ Av) (h : spec_Find.f k l0 Al Am An Ao Ap Ae Aq Ar = some (r1, r2, r3, r4, r5, r6, r7, r8, r9)) :
  Calls Try.prog 35 #[.slice A0 l0.length c0, .agg #[.int .i64 Al, .int .i64 Am, .int .i64 An, .int .i64 Ao, .int .i64 Ap, .slice Au Ae.length Av, .int .i64 Aq, .bool Ar]] w fun e w' => ∃ v5_ : Value, e = .returned (.tuple #[.agg #[.int .i64 r1, .int .i64 r2, .int .i64 r3, .int .i64 r4, .int .i64 r5, v5_, .int .i64 r7, .bool r8], .bool r9]) ∧ Kd.R k127 127 w' w.heap.size (fun _ => True) v5_ r6 ∧ Below w.heap.size w w' := by
 have hu61 := Try.underlying61; have HR0 := ak hr0; have Cv := ak hc0; clear hr0 hc0; have Bm := ak hr1_5; have Bn := ak hc1_5; clear hr1_5 hc1_5; have HB := ak (Below.refl w.heap.size w); have H := h
 clear h; unfold spec_Find.f at H; replace H := bsi H; obtain ⟨Aa, A30, H⟩ := H
 (try dsimp only at H)
 have A3 := ak A30; clear A30; have Bo := ak H; clear H
 go_enter Try.func35, Try.ntmps35
 go_upto_if 11 with (first | ((with_reducible refine gate_dst (N := 3) rfl ?_); refine box_q 3 #[.int .i64 Al, .int .i64 Am, .int .i64 An, .int .i64 Ao, .int .i64 Ap, .slice Au Ae.length Av, .int .i64 Aq, .bool Ar] 61 ?_; intro Ag hg w5 hbox hb; have Ac := ak (hbox); have Dm := gsz w (below_size (bw_q HB)) hg; have Dn := gsz w (below_size (bw_q HB)) hg; replace HB := ak (below_step (bw_q HB) hb); clear hb hbox hg) | ((with_reducible refine gate_dst (N := 4) rfl ?_); refine box_q 4 #[.int .i64 0, .int .i64 0, .int .i64 0, .int .i64 0, .int .i64 0, .slice none 0 0, .int .i64 0, .bool false] 61 ?_; intro Ab hg w6 hbox hb; have Ad := ak (hbox); have Do := gsz w (below_size (bw_q HB)) hg; have Dp := gsz w (below_size (bw_q HB)) hg; replace HB := ak (below_step (bw_q HB) hb); have Ai := ak ((by rw [hg]; exact Nat.ne_of_lt (blk_lt (g := Ag) (o := .cells #[.int .i64 Al, .int .i64 Am, .int .i64 An, .int .i64 Ao, .int .i64 Ap, .slice Au Ae.length Av, .int .i64 Aq, .bool Ar] 61 (0, 0)) (bk_q Ac)) : Ag ≠ Ab)); have Aj := ak ((by rw [hg]; exact Nat.ne_of_gt (blk_lt (g := Ag) (o := .cells #[.int .i64 Al, .int .i64 Am, .int .i64 An, .int .i64 Ao, .int .i64 Ap, .slice Au Ae.length Av, .int .i64 Aq, .bool Ar] 61 (0, 0)) (bk_q Ac)) : Ab ≠ Ag)); replace Ac := ak (blk_below (g := Ag) (bk_q Ac) hb); clear hb hbox hg; have Dx := Ai.out; have Dy := Aj.out; obtain ⟨Cw, Cx, Cy, Cz, Da, Db, Dc, Dd, De, Df, Dg, Dh, Di, Dj, Dk, Dl⟩ := cf8_ Ac) | ((with_reducible refine gate_callee (f := 105) rfl ?_); refine goesL_ (some 9) rfl rfl Try.func105 (by kernel_rfl) rfl #[.slice A0 l0.length c0, .agg #[.int .i64 Al, .int .i64 Am, .int .i64 An, .int .i64 Ao, .int .i64 Ap, .slice Au Ae.length Av, .int .i64 Aq, .bool Ar]] rfl mp_q ?_; (with_reducible refine (spec_l05At.calls k _ _ l0 Al Am An Ao Ap _ _ Ae Aq Ar Aa _ ?side1 ?side2 ?side3 ?side4 A3.out).mono ?_); (case side1 => exact cs_q (Kd.C_below HR0.out HB.out)); (case side2 => exact Cv.out); (case side3 => exact cs_q (Kd.C_below Bm.out HB.out)); (case side4 => exact Bn.out); rintro e w9 ⟨rfl, hb⟩; refine ⟨_, rfl, ?_⟩; replace Ac := ak (blk_below (g := Ag) (bk_q Ac) hb); replace Ad := ak (blk_below (g := Ab) (bk_q Ad) hb); replace HB := ak (below_step (bw_q HB) hb)))
 have H := Bo.out; clear Bo
 by_cases c10 : Aa < 0
 ·rw [if_pos c10] at H
  have At : decide (Aa < 0) = true := decide_eq_true c10
  clear c10
  (first | rw [At] | rw [Bg] | (simp only [i64_w, i32_w]; first | rw [At] | rw [Bg]) | skip)
  simp only [Option.some.injEq, Prod.mk.injEq] at H
  obtain ⟨rfl, rfl, rfl, rfl, rfl, rfl, rfl, rfl, rfl⟩ := H; have Dq := Aj.out; have Dr := Ai.out; obtain ⟨Bp, Bq, Br, Bs, Bt, Bu, Bv, Bw, Bx, By, Bz, Ca, Cb, Cc, Cd, Ce⟩ := cf8_ Ad
  go_wp2
  refine bodyPost_ret (results_ct rfl _ _ Ab 61 #[.int .i64 0, .int .i64 0, .int .i64 0, .int .i64 0, .int .i64 0, .slice none 0 0, .int .i64 0, .bool false] (0, 0) _ rfl (by refine bz_ ?_; refine blk_put (cs := #[.int .i64 0, .int .i64 0, .int .i64 0, .int .i64 0, .int .i64 0, .slice none 0 0, .int .i64 0, .bool false]) ?_ 7 _ rfl; refine bz_ ?_; refine blk_put (cs := #[.int .i64 0, .int .i64 0, .int .i64 0, .int .i64 0, .int .i64 0, .slice none 0 0, .int .i64 0, .bool false]) ?_ 6 _ rfl; refine bz_ ?_; refine blk_put (cs := #[.int .i64 0, .int .i64 0, .int .i64 0, .int .i64 0, .int .i64 0, .slice none 0 0, .int .i64 0, .bool false]) ?_ 5 _ rfl; refine bz_ ?_; refine blk_put (cs := #[.int .i64 0, .int .i64 0, .int .i64 0, .int .i64 0, .int .i64 0, .slice none 0 0, .int .i64 0, .bool false]) ?_ 4 _ rfl; refine bz_ ?_; refine blk_put (cs := #[.int .i64 0, .int .i64 0, .int .i64 0, .int .i64 0, .int .i64 0, .slice none 0 0, .int .i64 0, .bool false]) ?_ 3 _ rfl; refine bz_ ?_; refine blk_put (cs := #[.int .i64 0, .int .i64 0, .int .i64 0, .int .i64 0, .int .i64 0, .slice none 0 0, .int .i64 0, .bool false]) ?_ 2 _ rfl; refine bz_ ?_; refine blk_put (cs := #[.int .i64 0, .int .i64 0, .int .i64 0, .int .i64 0, .int .i64 0, .slice none 0 0, .int .i64 0, .bool false]) ?_ 1 _ rfl; refine bz_ ?_; refine blk_put (cs := #[.int .i64 0, .int .i64 0, .int .i64 0, .int .i64 0, .int .i64 0, .slice none 0 0, .int .i64 0, .bool false]) ?_ 0 _ rfl; refine bz_ ?_; exact Ad.out) Try.underlying61 rfl (by kernel_rfl)) rfl ?_
  exact ⟨_, er_q, by first | exact Kd.R_nil _ _ _ _ _ | exact Kd.N_nil _ _ _ _ _ | exact Kd.V_nil _ _ _ _ _ | exact Kd.Q_nil _ _ _ _ _ | exact Kd.S_nil _ _ _ _ _, bw_q HB⟩
 ·rw [if_neg c10] at H
  have At : decide (Aa < 0) = false := decide_eq_false c10
  clear c10
  (first | rw [At] | rw [Bg] | (simp only [i64_w, i32_w]; first | rw [At] | rw [Bg]) | skip)
  by_cases c13 : 0 ≤ Aa
  ·rw [if_pos c13] at H
   have Ds : decide (0 ≤ Aa) = true := decide_eq_true c13
   clear c13
   by_cases c14 : Aa < (l0.length : Int)
   ·rw [if_pos c14] at H
    have Dt : decide (Aa < (l0.length : Int)) = true := decide_eq_true c14
    clear c14; replace H := bsi H; obtain ⟨⟨Af, Ah, Ak, As, Aw, Ax, Bh, Bi⟩, A150, H⟩ := H
    (try dsimp only at H)
    have A15 := ak A150; clear A150
    simp only [Option.some.injEq, Prod.mk.injEq] at H
    obtain ⟨rfl, rfl, rfl, rfl, rfl, rfl, rfl, rfl, rfl⟩ := H
    have p886 : 0 ≤ (Aa : Int) := of_decide_eq_true as_q
    have q886 : Aa < (l0.length : Int) := of_decide_eq_true as_q
    obtain ⟨Du, A886_5, c886_5, e886, Ay, Az, Ba, Bb, Bc, Bd, Be, Bf, hl886_5, hi886_5⟩ := at_T61 HR0.out Aa p886 q886
    cases e886
    replace Ay := hbc HB Ay; replace Az := hbc HB Az; replace Ba := hbc HB Ba; replace Bb := hbc HB Bb; replace Bc := hbc HB Bc; replace Bd := hbc HB Bd; replace Be := hbc HB Be; replace Bf := hbc HB Bf; have Bk := ak hi886_5; have Bl := ak hl886_5; clear hi886_5 hl886_5; replace p886 := eq_true p886; replace q886 := eq_true q886
    go_wp2_with (first | ((with_reducible refine gate_callee (f := 94) rfl ?_); refine goesL_ (some 17) rfl rfl Try.func94 (by kernel_rfl) rfl #[.agg #[.int .i64 ((rd_T61 l0 Aa).f0), .int .i64 ((rd_T61 l0 Aa).f1), .int .i64 ((rd_T61 l0 Aa).f2), .int .i64 ((rd_T61 l0 Aa).f3), .int .i64 ((rd_T61 l0 Aa).f4), .slice A886_5 ((rd_T61 l0 Aa).f5).length c886_5, .int .i64 ((rd_T61 l0 Aa).f6), .bool ((rd_T61 l0 Aa).f7)]] rfl mp_q ?_; (with_reducible refine (spec_l04Copy.calls ((rd_T61 l0 Aa).f0) ((rd_T61 l0 Aa).f1) ((rd_T61 l0 Aa).f2) ((rd_T61 l0 Aa).f3) ((rd_T61 l0 Aa).f4) _ _ ((rd_T61 l0 Aa).f5) ((rd_T61 l0 Aa).f6) ((rd_T61 l0 Aa).f7) Af Ah Ak As Aw Ax Bh Bi _ ?side1 ?side2 A15.out).mono ?_); (case side1 => exact cs_q (Kd.C_below Bk.out HB.out)); (case side2 => exact Bl.out); rintro e w16 ⟨v893, rfl, ho0, hb⟩; refine ⟨_, rfl, ?_⟩; have hs_v893 : (v893 : Value).oneCell' = true := (by first | (have h_ := Kd.R_slice ho0; obtain ⟨A_, c_, e_⟩ := h_; simp [e_, Value.oneCell']) | (have h_ := Kd.S_slice ho0; obtain ⟨A_, c_, e_⟩ := h_; simp [e_, Value.oneCell']) | (have h_ := Kd.N_slice ho0; obtain ⟨A_, c_, e_⟩ := h_; simp [e_, Value.oneCell']) | (have h_ := Kd.V_slice ho0; obtain ⟨A_, c_, e_⟩ := h_; simp [e_, Value.oneCell'])); have hst_v893 := fun (w_ : World) (a_ : Addr) m_ => run_store Try.prog w_ a_ v893 m_ hs_v893; have Bj := ak (Kd.R_lower ho0 (below_size (bw_q HB))); replace Ac := ak (blk_below (g := Ag) (bk_q Ac) hb); replace Ad := ak (blk_below (g := Ab) (bk_q Ad) hb); replace HB := ak (below_step (bw_q HB) hb); (try clear ho0); have Dv := Aj.out; have Dw := Ai.out; obtain ⟨Cf, Cg, Ch, Ci, Cj, Ck, Cl, Cm, Cn, Co, Cp, Cq, Cr, Cs, Ct, Cu⟩ := cf8_ Ad; obtain ⟨Ao19, co19, eo19⟩ := Kd.R_slice Bj.out; subst eo19))
    refine bodyPost_ret (results_ct rfl _ _ Ab 61 #[.int .i64 Af, .int .i64 Ah, .int .i64 Ak, .int .i64 As, .int .i64 Aw, .slice Ao19 Ax.length co19, .int .i64 Bh, .bool Bi] (0, 0) _ rfl (by refine bz_ ?_; refine blk_put (cs := #[.int .i64 Af, .int .i64 Ah, .int .i64 Ak, .int .i64 As, .int .i64 Aw, .slice Ao19 Ax.length co19, .int .i64 Bh, .bool false]) ?_ 7 _ rfl; refine bz_ ?_; refine blk_put (cs := #[.int .i64 Af, .int .i64 Ah, .int .i64 Ak, .int .i64 As, .int .i64 Aw, .slice Ao19 Ax.length co19, .int .i64 0, .bool false]) ?_ 6 _ rfl; refine bz_ ?_; refine blk_put (cs := #[.int .i64 Af, .int .i64 Ah, .int .i64 Ak, .int .i64 As, .int .i64 Aw, .slice none 0 0, .int .i64 0, .bool false]) ?_ 5 _ rfl; refine bz_ ?_; refine blk_put (cs := #[.int .i64 Af, .int .i64 Ah, .int .i64 Ak, .int .i64 As, .int .i64 0, .slice none 0 0, .int .i64 0, .bool false]) ?_ 4 _ rfl; refine bz_ ?_; refine blk_put (cs := #[.int .i64 Af, .int .i64 Ah, .int .i64 Ak, .int .i64 0, .int .i64 0, .slice none 0 0, .int .i64 0, .bool false]) ?_ 3 _ rfl; refine bz_ ?_; refine blk_put (cs := #[.int .i64 Af, .int .i64 Ah, .int .i64 0, .int .i64 0, .int .i64 0, .slice none 0 0, .int .i64 0, .bool false]) ?_ 2 _ rfl; refine bz_ ?_; refine blk_put (cs := #[.int .i64 Af, .int .i64 0, .int .i64 0, .int .i64 0, .int .i64 0, .slice none 0 0, .int .i64 0, .bool false]) ?_ 1 _ rfl; refine bz_ ?_; refine blk_put (cs := #[.int .i64 0, .int .i64 0, .int .i64 0, .int .i64 0, .int .i64 0, .slice none 0 0, .int .i64 0, .bool false]) ?_ 0 _ rfl; refine bz_ ?_; exact Ad.out) Try.underlying61 rfl (by kernel_rfl)) rfl ?_
    exact ⟨_, er_q, by (with_reducible repeat (first | apply Kd.R_alloc | apply Kd.R_drewN | apply Kd.R_drew)); exact Kd.R_mono (Kd.R_far (p := ⟨Ab, 7, none⟩) (Kd.R_far (p := ⟨Ab, 6, none⟩) (Kd.R_far (p := ⟨Ab, 5, none⟩) (Kd.R_far (p := ⟨Ab, 4, none⟩) (Kd.R_far (p := ⟨Ab, 3, none⟩) (Kd.R_far (p := ⟨Ab, 2, none⟩) (Kd.R_far (p := ⟨Ab, 1, none⟩) (Kd.R_far (p := ⟨Ab, 0, none⟩) (Kd.R_types Bj.out Ad.out (by decide)) (fun _ hk => hk.2) (.int .i64 Af)) (fun _ hk => hk.2) (.int .i64 Ah)) (fun _ hk => hk.2) (.int .i64 Ak)) (fun _ hk => hk.2) (.int .i64 As)) (fun _ hk => hk.2) (.int .i64 Aw)) (fun _ hk => hk.2) (.slice Ao19 Ax.length co19)) (fun _ hk => hk.2) (.int .i64 Bh)) (fun _ hk => hk.2) (.bool Bi)) (fun _ hk => trivial), bw_q HB⟩
   ·rw [if_neg c14] at H
    exact absurd H (by simp)
  ·rw [if_neg c13] at H
   exact absurd H (by simp)

/-! ### impl_copyRecord: function 108 -/
def impl_copyRecord.f (b : Int) (c : Int) (d : Int) (e : Int) (g : Int) (a : List (S127)) (h : Int) (i : Bool) : Option (Int × Int × Int × Int × Int × (List (S127)) × Int × Bool) := if ([] : List (S127)).length + a.length < 8796093022208 then (some (b, c, d, e, g, (([] : List (S127)) ++ a), h, i)) else (none)
set_option maxHeartbeats 8000000 in
set_option maxRecDepth 100000 in
theorem impl_copyRecord.calls (Aa : Int) (Ac : Int) (Ad : Int) (Ae : Int) (Af : Int) (An : Option Addr) (Ao : Nat) (Ag : List (S127)) (Ai : Int) (Aj : Bool) (r1 : Int) (r2 : Int) (r3 : Int) (r4 : Int) (r5 : Int) (r6 : List (S127)) (r7 : Int) (r8 : Bool) (w : World) (hr0_5 : Kd.C k127 w An Ag.length Ag) (hc0_5 : Ag.length ≤ Ao) (h : impl_copyRecord.f Aa Ac Ad Ae Af Ag Ai Aj = some (r1, r2, r3, r4, r5, r6, r7, r8)) :
  Calls Try.prog 108 #[.agg #[.int .i64 Aa, .int .i64 Ac, .int .i64 Ad, .int .i64 Ae, .int .i64 Af, .slice An Ag.length Ao, .int .i64 Ai, .bool Aj]] w fun e w' => ∃ v5_ : Value, e = .returned (.agg #[.int .i64 r1, .int .i64 r2, .int .i64 r3, .int .i64 r4, .int .i64 r5, v5_, .int .i64 r7, .bool r8]) ∧ Kd.R k127 127 w' w.heap.size (fun _ => True) v5_ r6 ∧ Below w.heap.size w w' := by
 have hu61 := Try.underlying61; have At := ak hr0_5; have Cs := ak hc0_5; clear hr0_5 hc0_5; have HB := ak (Below.refl w.heap.size w); have H := h
 clear h; unfold impl_copyRecord.f at H
 by_cases c2 : ([] : List (S127)).length + Ag.length < 8796093022208
 ·rw [if_pos c2] at H; have Av := ak c2; clear c2; obtain ⟨Ap, Al⟩ : ∃ y_ : List (S127), y_ = (([] : List (S127)) ++ Ag) := ⟨_, rfl⟩
  replace H : (some (Aa, Ac, Ad, Ae, Af, Ap, Ai, Aj)) = some (r1, r2, r3, r4, r5, r6, r7, r8) := by first | (rw [Al]; with_reducible exact H) | (have H2_ := (Option.bind_some _ _).symm.trans H; rw [Al]; with_reducible exact H2_) | (have H2_ := (Option.bind_some _ _).symm.trans H; with_reducible exact H2_) | with_reducible exact H | (rw [Al]; exact H) | exact H
  have Au := ak Al; clear Al
  simp only [Option.some.injEq, Prod.mk.injEq] at H
  obtain ⟨rfl, rfl, rfl, rfl, rfl, rfl, rfl, rfl⟩ := H
  go_enter Try.func108, Try.ntmps108
  go_wp2_with (first | ((with_reducible refine gate_dst (N := 1) rfl ?_); refine box_q 1 #[.int .i64 Aa, .int .i64 Ac, .int .i64 Ad, .int .i64 Ae, .int .i64 Af, .slice An Ag.length Ao, .int .i64 Ai, .bool Aj] 61 ?_; intro Ak hg w3 hbox hb; have Ah := ak (hbox); have Ct := gsz w (below_size (bw_q HB)) hg; have Cu := gsz w (below_size (bw_q HB)) hg; replace HB := ak (below_step (bw_q HB) hb); clear hb hbox hg) | ((with_reducible refine gate_dst (N := 2) rfl ?_); refine box_q 2 #[.int .i64 0, .int .i64 0, .int .i64 0, .int .i64 0, .int .i64 0, .slice none 0 0, .int .i64 0, .bool false] 61 ?_; intro Ab hg w4 hbox hb; have Am := ak (hbox); have Cv := gsz w (below_size (bw_q HB)) hg; have Cw := gsz w (below_size (bw_q HB)) hg; replace HB := ak (below_step (bw_q HB) hb); have Ar := ak ((by rw [hg]; exact Nat.ne_of_lt (blk_lt (g := Ak) (o := .cells #[.int .i64 Aa, .int .i64 Ac, .int .i64 Ad, .int .i64 Ae, .int .i64 Af, .slice An Ag.length Ao, .int .i64 Ai, .bool Aj] 61 (0, 0)) (bk_q Ah)) : Ak ≠ Ab)); have Aq := ak ((by rw [hg]; exact Nat.ne_of_gt (blk_lt (g := Ak) (o := .cells #[.int .i64 Aa, .int .i64 Ac, .int .i64 Ad, .int .i64 Ae, .int .i64 Af, .slice An Ag.length Ao, .int .i64 Ai, .bool Aj] 61 (0, 0)) (bk_q Ah)) : Ab ≠ Ak)); replace Ah := ak (blk_below (g := Ak) (bk_q Ah) hb); clear hb hbox hg; have Cx := Ar.out; have Cy := Aq.out; obtain ⟨Bm, Bn, Bo, Bp, Bq, Br, Bs, Bt, Bu, Bv, Bw, Bx, By, Bz, Ca, Cb⟩ := cf8_ Ah) | ((with_reducible refine gate_builtin (b := .append) (xs := #[(.const (.slice none 0 0)), .tmp 4]) rfl ?_); at_builtin; refine Kd.R_append_rows k127 (w0 := w) w.heap.size rfl (.const (.slice none 0 0)) (.tmp 4) 59 127 (.agg #[(.int .i64 0), (.int .i64 0)]) 16 rfl Try.underlying59 info127 rfl (by decide) (by omega) (.slice none 0 0) ([] : List (S127)) Ag _ _ _ (fun _ => True) (fun _ => False) rfl rfl ?aO ?aR (fun _ _ h => h) (fun _ h => h.elim) ?aF ?aB ?aS ?aL ?_; (case aR => exact cs_q (Kd.C_below At.out HB.out)); (case aB => exact (bw_q HB)); (case aF => exact (fun _ _ => trivial)); (case aO => exact ((Kd.R_nil _ _ _ _ (fun _ => True)))); (case aS => exact (below_size (bw_q HB))); (case aL => have := Av.out; omega); intro v577 w7 ho hb hg hat; rw [← Au.out] at ho; replace Ah := ak (blk_grown (g := Ak) (o := .cells #[.int .i64 Aa, .int .i64 Ac, .int .i64 Ad, .int .i64 Ae, .int .i64 Af, .slice An Ag.length Ao, .int .i64 Ai, .bool Aj] 61 (0, 0)) (bk_q Ah) hg (by simp [Value.ownBlock])); replace Am := ak (blk_grown (g := Ab) (o := .cells #[.int .i64 0, .int .i64 0, .int .i64 0, .int .i64 0, .int .i64 0, .slice none 0 0, .int .i64 0, .bool false] 61 (0, 0)) (bk_q Am) hg (by simp [Value.ownBlock])); replace HB := ak (hb); have As := ak (ho); clear ho hb hg hat; obtain ⟨Ao8, co8, eo8⟩ := Kd.R_slice As.out; subst eo8; obtain ⟨Cc, Cd, Ce, Cf, Cg, Ch, Ci, Cj, Ck, Cl, Cm, Cn, Co, Cp, Cq, Cr⟩ := cf8_ Ah; obtain ⟨Aw, Ax, Ay, Az, Ba, Bb, Bc, Bd, Be, Bf, Bg, Bh, Bi, Bj, Bk, Bl⟩ := cf8_ Am))
  refine bodyPost_ret (results_cell_row rfl _ _ Ab 61 #[.int .i64 Aa, .int .i64 Ac, .int .i64 Ad, .int .i64 Ae, .int .i64 Af, .slice Ao8 Ap.length co8, .int .i64 Ai, .bool Aj] (0, 0) _ rfl (by refine bz_ ?_; refine blk_put (cs := #[.int .i64 Aa, .int .i64 Ac, .int .i64 Ad, .int .i64 Ae, .int .i64 Af, .slice Ao8 Ap.length co8, .int .i64 Ai, .bool false]) ?_ 7 _ rfl; refine bz_ ?_; refine blk_put (cs := #[.int .i64 Aa, .int .i64 Ac, .int .i64 Ad, .int .i64 Ae, .int .i64 Af, .slice Ao8 Ap.length co8, .int .i64 0, .bool false]) ?_ 6 _ rfl; refine bz_ ?_; refine blk_put (cs := #[.int .i64 Aa, .int .i64 Ac, .int .i64 Ad, .int .i64 Ae, .int .i64 Af, .slice none 0 0, .int .i64 0, .bool false]) ?_ 5 _ rfl; refine bz_ ?_; refine blk_put (cs := #[.int .i64 Aa, .int .i64 Ac, .int .i64 Ad, .int .i64 Ae, .int .i64 0, .slice none 0 0, .int .i64 0, .bool false]) ?_ 4 _ rfl; refine bz_ ?_; refine blk_put (cs := #[.int .i64 Aa, .int .i64 Ac, .int .i64 Ad, .int .i64 0, .int .i64 0, .slice none 0 0, .int .i64 0, .bool false]) ?_ 3 _ rfl; refine bz_ ?_; refine blk_put (cs := #[.int .i64 Aa, .int .i64 Ac, .int .i64 0, .int .i64 0, .int .i64 0, .slice none 0 0, .int .i64 0, .bool false]) ?_ 2 _ rfl; refine bz_ ?_; refine blk_put (cs := #[.int .i64 Aa, .int .i64 0, .int .i64 0, .int .i64 0, .int .i64 0, .slice none 0 0, .int .i64 0, .bool false]) ?_ 1 _ rfl; refine bz_ ?_; refine blk_put (cs := #[.int .i64 0, .int .i64 0, .int .i64 0, .int .i64 0, .int .i64 0, .slice none 0 0, .int .i64 0, .bool false]) ?_ 0 _ rfl; refine bz_ ?_; refine blk_far ?_ Aq.out _; refine bz_ ?_; exact Am.out) Try.underlying61 rfl (by kernel_rfl)) rfl ?_
  exact ⟨_, er_q, by (with_reducible repeat (first | apply Kd.R_alloc | apply Kd.R_drewN | apply Kd.R_drew)); exact Kd.R_mono (Kd.R_far (p := ⟨Ab, 7, none⟩) (Kd.R_far (p := ⟨Ab, 6, none⟩) (Kd.R_far (p := ⟨Ab, 5, none⟩) (Kd.R_far (p := ⟨Ab, 4, none⟩) (Kd.R_far (p := ⟨Ab, 3, none⟩) (Kd.R_far (p := ⟨Ab, 2, none⟩) (Kd.R_far (p := ⟨Ab, 1, none⟩) (Kd.R_far (p := ⟨Ab, 0, none⟩) (Kd.R_far (p := ⟨Ak, 5, none⟩) (Kd.R_types (Kd.R_types As.out Ah.out (by decide)) Am.out (by decide)) (fun _ hk => hk.1.2) (.slice Ao8 Ap.length co8)) (fun _ hk => hk.2) (.int .i64 Aa)) (fun _ hk => hk.2) (.int .i64 Ac)) (fun _ hk => hk.2) (.int .i64 Ad)) (fun _ hk => hk.2) (.int .i64 Ae)) (fun _ hk => hk.2) (.int .i64 Af)) (fun _ hk => hk.2) (.slice Ao8 Ap.length co8)) (fun _ hk => hk.2) (.int .i64 Ai)) (fun _ hk => hk.2) (.bool Aj)) (fun _ hk => trivial), bw_q HB⟩
 ·rw [if_neg c2] at H
  exact absurd H (by simp)

/-! ### impl_SameKey: function 69 -/
def impl_SameKey.f (a : Int) (b : Int) (c : Int) (d : Int) (j : Int) (l : List (S127)) (m : Int) (n : Bool) (e : Int) (g : Int) (h : Int) (i : Int) (o : Int) (p : List (S127)) (q : Int) (s : Bool) : Option (Bool) := if a = e then (if b = g then (if c = h then (some (d == i)) else (some false)) else (some false)) else (some false)
set_option maxHeartbeats 8000000 in
set_option maxRecDepth 100000 in
theorem impl_SameKey.calls (Ac : Int) (Ad : Int) (Ae : Int) (Ai : Int) (Aj : Int) (Ak : Option Addr) (Al : Nat) (Af : List (S127)) (Am : Int) (An : Bool) (Ap : Int) (Aq : Int) (Ar : Int) (Au : Int) (Av : Int) (Aw : Option Addr) (Ax : Nat) (As : List (S127)) (Ay : Int) (Az : Bool) (r : Bool) (w : World) (hr0_5 : Kd.C k127 w Ak Af.length Af) (hc0_5 : Af.length ≤ Al) (hr1_5 : Kd.C k127 w Aw As.length As) (hc1_5 : As.length ≤ Ax) (h : impl_SameKey.f Ac Ad Ae Ai Aj Af Am An Ap Aq Ar Au Av As Ay Az = some r) :
  Calls Try.prog 69 #[.agg #[.int .i64 Ac, .int .i64 Ad, .int .i64 Ae, .int .i64 Ai, .int .i64 Aj, .slice Ak Af.length Al, .int .i64 Am, .bool An], .agg #[.int .i64 Ap, .int .i64 Aq, .int .i64 Ar, .int .i64 Au, .int .i64 Av, .slice Aw As.length Ax, .int .i64 Ay, .bool Az]] w fun e w' => e = .returned (.bool r) ∧ Below w.heap.size w w' := by
 have hu61 := Try.underlying61; have Gi := ak hr0_5; have Gj := ak hc0_5; clear hr0_5 hc0_5; have Gk := ak hr1_5; have Gl := ak hc1_5; clear hr1_5 hc1_5; have HB := ak (Below.refl w.heap.size w); have H := h
 clear h; unfold impl_SameKey.f at H
 by_cases c3 : Ac = Ap
 ·rw [if_pos c3] at H
  have Be : (Ac == Ap) = true := bqi c3
  have Bf : (Ac != Ap) = false := bnf c3
  clear c3
  by_cases c4 : Ad = Aq
  ·rw [if_pos c4] at H
   have Bg : (Ad == Aq) = true := bqi c4
   have Bh : (Ad != Aq) = false := bnf c4
   clear c4
   by_cases c5 : Ae = Ar
   ·rw [if_pos c5] at H
    have Bi : (Ae == Ar) = true := bqi c5
    have Bj : (Ae != Ar) = false := bnf c5
    clear c5; obtain rfl := Option.some.inj H
    go_enter Try.func69, Try.ntmps69
    go_wp2_with (first | ((with_reducible refine gate_dst (N := 2) rfl ?_); refine box_q 2 #[.int .i64 Ac, .int .i64 Ad, .int .i64 Ae, .int .i64 Ai, .int .i64 Aj, .slice Ak Af.length Al, .int .i64 Am, .bool An] 61 ?_; intro Aa hg w6 hbox hb; have Ab := ak (hbox); have Ba := gsz w (below_size (bw_q HB)) hg; have Bb := gsz w (below_size (bw_q HB)) hg; replace HB := ak (below_step (bw_q HB) hb); clear hb hbox hg) | ((with_reducible refine gate_dst (N := 3) rfl ?_); refine box_q 3 #[.int .i64 Ap, .int .i64 Aq, .int .i64 Ar, .int .i64 Au, .int .i64 Av, .slice Aw As.length Ax, .int .i64 Ay, .bool Az] 61 ?_; intro Ao hg w7 hbox hb; have At := ak (hbox); have Bc := gsz w (below_size (bw_q HB)) hg; have Bd := gsz w (below_size (bw_q HB)) hg; replace HB := ak (below_step (bw_q HB) hb); have Ag := ak ((by rw [hg]; exact Nat.ne_of_lt (blk_lt (g := Aa) (o := .cells #[.int .i64 Ac, .int .i64 Ad, .int .i64 Ae, .int .i64 Ai, .int .i64 Aj, .slice Ak Af.length Al, .int .i64 Am, .bool An] 61 (0, 0)) (bk_q Ab)) : Aa ≠ Ao)); have Ah := ak ((by rw [hg]; exact Nat.ne_of_gt (blk_lt (g := Aa) (o := .cells #[.int .i64 Ac, .int .i64 Ad, .int .i64 Ae, .int .i64 Ai, .int .i64 Aj, .slice Ak Af.length Al, .int .i64 Am, .bool An] 61 (0, 0)) (bk_q Ab)) : Ao ≠ Aa)); replace Ab := ak (blk_below (g := Aa) (bk_q Ab) hb); clear hb hbox hg; have Gs := Ag.out; have Gt := Ah.out; obtain ⟨Fs, Ft, Fu, Fv, Fw, Fx, Fy, Fz, Ga, Gb, Gc, Gd, Ge, Gf, Gg, Gh⟩ := cf8_ Ab; obtain ⟨Bk, Bl, Bm, Bn, Bo, Bp, Bq, Br, Bs, Bt, Bu, Bv, Bw, Bx, By, Bz⟩ := cf8_ At))
    go_ret
    exact ⟨er_q, bw_q HB⟩
   ·rw [if_neg c5] at H
    have Bi : (Ae == Ar) = false := bqf c5
    have Bj : (Ae != Ar) = true := bni c5
    obtain rfl := Option.some.inj H
    go_enter Try.func69, Try.ntmps69
    go_wp2_with (first | ((with_reducible refine gate_dst (N := 2) rfl ?_); refine box_q 2 #[.int .i64 Ac, .int .i64 Ad, .int .i64 Ae, .int .i64 Ai, .int .i64 Aj, .slice Ak Af.length Al, .int .i64 Am, .bool An] 61 ?_; intro Aa hg w11 hbox hb; have Ab := ak (hbox); have Ba := gsz w (below_size (bw_q HB)) hg; have Bb := gsz w (below_size (bw_q HB)) hg; replace HB := ak (below_step (bw_q HB) hb); clear hb hbox hg) | ((with_reducible refine gate_dst (N := 3) rfl ?_); refine box_q 3 #[.int .i64 Ap, .int .i64 Aq, .int .i64 Ar, .int .i64 Au, .int .i64 Av, .slice Aw As.length Ax, .int .i64 Ay, .bool Az] 61 ?_; intro Ao hg w12 hbox hb; have At := ak (hbox); have Bc := gsz w (below_size (bw_q HB)) hg; have Bd := gsz w (below_size (bw_q HB)) hg; replace HB := ak (below_step (bw_q HB) hb); have Ag := ak ((by rw [hg]; exact Nat.ne_of_lt (blk_lt (g := Aa) (o := .cells #[.int .i64 Ac, .int .i64 Ad, .int .i64 Ae, .int .i64 Ai, .int .i64 Aj, .slice Ak Af.length Al, .int .i64 Am, .bool An] 61 (0, 0)) (bk_q Ab)) : Aa ≠ Ao)); have Ah := ak ((by rw [hg]; exact Nat.ne_of_gt (blk_lt (g := Aa) (o := .cells #[.int .i64 Ac, .int .i64 Ad, .int .i64 Ae, .int .i64 Ai, .int .i64 Aj, .slice Ak Af.length Al, .int .i64 Am, .bool An] 61 (0, 0)) (bk_q Ab)) : Ao ≠ Aa)); replace Ab := ak (blk_below (g := Aa) (bk_q Ab) hb); clear hb hbox hg; have Gm := Ag.out; have Gn := Ah.out; obtain ⟨Ca, Cb, Cc, Cd, Ce, Cf, Cg, Ch, Ci, Cj, Ck, Cl, Cm, Cn, Co, Cp⟩ := cf8_ Ab; obtain ⟨Cq, Cr, Cs, Ct, Cu, Cv, Cw, Cx, Cy, Cz, Da, Db, Dc, Dd, De, Df⟩ := cf8_ At))
    go_ret
    exact ⟨er_q, bw_q HB⟩
  ·rw [if_neg c4] at H
   have Bg : (Ad == Aq) = false := bqf c4
   have Bh : (Ad != Aq) = true := bni c4
   obtain rfl := Option.some.inj H
   go_enter Try.func69, Try.ntmps69
   go_wp2_with (first | ((with_reducible refine gate_dst (N := 2) rfl ?_); refine box_q 2 #[.int .i64 Ac, .int .i64 Ad, .int .i64 Ae, .int .i64 Ai, .int .i64 Aj, .slice Ak Af.length Al, .int .i64 Am, .bool An] 61 ?_; intro Aa hg w16 hbox hb; have Ab := ak (hbox); have Ba := gsz w (below_size (bw_q HB)) hg; have Bb := gsz w (below_size (bw_q HB)) hg; replace HB := ak (below_step (bw_q HB) hb); clear hb hbox hg) | ((with_reducible refine gate_dst (N := 3) rfl ?_); refine box_q 3 #[.int .i64 Ap, .int .i64 Aq, .int .i64 Ar, .int .i64 Au, .int .i64 Av, .slice Aw As.length Ax, .int .i64 Ay, .bool Az] 61 ?_; intro Ao hg w17 hbox hb; have At := ak (hbox); have Bc := gsz w (below_size (bw_q HB)) hg; have Bd := gsz w (below_size (bw_q HB)) hg; replace HB := ak (below_step (bw_q HB) hb); have Ag := ak ((by rw [hg]; exact Nat.ne_of_lt (blk_lt (g := Aa) (o := .cells #[.int .i64 Ac, .int .i64 Ad, .int .i64 Ae, .int .i64 Ai, .int .i64 Aj, .slice Ak Af.length Al, .int .i64 Am, .bool An] 61 (0, 0)) (bk_q Ab)) : Aa ≠ Ao)); have Ah := ak ((by rw [hg]; exact Nat.ne_of_gt (blk_lt (g := Aa) (o := .cells #[.int .i64 Ac, .int .i64 Ad, .int .i64 Ae, .int .i64 Ai, .int .i64 Aj, .slice Ak Af.length Al, .int .i64 Am, .bool An] 61 (0, 0)) (bk_q Ab)) : Ao ≠ Aa)); replace Ab := ak (blk_below (g := Aa) (bk_q Ab) hb); clear hb hbox hg; have Go := Ag.out; have Gp := Ah.out; obtain ⟨Dg, Dh, Di, Dj, Dk, Dl, Dm, Dn, Do, Dp, Dq, Dr, Ds, Dt, Du, Dv⟩ := cf8_ Ab; obtain ⟨Dw, Dx, Dy, Dz, Ea, Eb, Ec, Ed, Ee, Ef, Eg, Eh, Ei, Ej, Ek, El⟩ := cf8_ At))
   go_ret
   exact ⟨er_q, bw_q HB⟩
 ·rw [if_neg c3] at H
  have Be : (Ac == Ap) = false := bqf c3
  have Bf : (Ac != Ap) = true := bni c3
  obtain rfl := Option.some.inj H
  go_enter Try.func69, Try.ntmps69
  go_wp2_with (first | ((with_reducible refine gate_dst (N := 2) rfl ?_); refine box_q 2 #[.int .i64 Ac, .int .i64 Ad, .int .i64 Ae, .int .i64 Ai, .int .i64 Aj, .slice Ak Af.length Al, .int .i64 Am, .bool An] 61 ?_; intro Aa hg w21 hbox hb; have Ab := ak (hbox); have Ba := gsz w (below_size (bw_q HB)) hg; have Bb := gsz w (below_size (bw_q HB)) hg; replace HB := ak (below_step (bw_q HB) hb); clear hb hbox hg) | ((with_reducible refine gate_dst (N := 3) rfl ?_); refine box_q 3 #[.int .i64 Ap, .int .i64 Aq, .int .i64 Ar, .int .i64 Au, .int .i64 Av, .slice Aw As.length Ax, .int .i64 Ay, .bool Az] 61 ?_; intro Ao hg w22 hbox hb; have At := ak (hbox); have Bc := gsz w (below_size (bw_q HB)) hg; have Bd := gsz w (below_size (bw_q HB)) hg; replace HB := ak (below_step (bw_q HB) hb); have Ag := ak ((by rw [hg]; exact Nat.ne_of_lt (blk_lt (g := Aa) (o := .cells #[.int .i64 Ac, .int .i64 Ad, .int .i64 Ae, .int .i64 Ai, .int .i64 Aj, .slice Ak Af.length Al, .int .i64 Am, .bool An] 61 (0, 0)) (bk_q Ab)) : Aa ≠ Ao)); have Ah := ak ((by rw [hg]; exact Nat.ne_of_gt (blk_lt (g := Aa) (o := .cells #[.int .i64 Ac, .int .i64 Ad, .int .i64 Ae, .int .i64 Ai, .int .i64 Aj, .slice Ak Af.length Al, .int .i64 Am, .bool An] 61 (0, 0)) (bk_q Ab)) : Ao ≠ Aa)); replace Ab := ak (blk_below (g := Aa) (bk_q Ab) hb); clear hb hbox hg; have Gq := Ag.out; have Gr := Ah.out; obtain ⟨Em, En, Eo, Ep, Eq, Er, Es, Et, Eu, Ev, Ew, Ex, Ey, Ez, Fa, Fb⟩ := cf8_ Ab; obtain ⟨Fc, Fd, Fe, Ff, Fg, Fh, Fi, Fj, Fk, Fl, Fm, Fn, Fo, Fp, Fq, Fr⟩ := cf8_ At))
  go_ret
  exact ⟨er_q, bw_q HB⟩

/-! ### impl_keyAt: function 107 -/
def impl_keyAt.l0 : Nat → List (S61) → Int → Int → Int → Int → Int → Int → Int → List (S127) → Int → Bool → Option (Int)
 | 0, _, _, _, _, _, _, _, _, _, _, _ => none
 | k + 1, b, n, a, c, d, e, g, h, i, j, l => if a < n then (if 0 ≤ a then (if a < (b.length : Int) then ((impl_SameKey.f ((rd_T61 b a).f0) ((rd_T61 b a).f1) ((rd_T61 b a).f2) ((rd_T61 b a).f3) ((rd_T61 b a).f4) ((rd_T61 b a).f5) ((rd_T61 b a).f6) ((rd_T61 b a).f7) c d e g h i j l).bind fun m => (if m = true then (some a) else (impl_keyAt.l0 k b n (wrap64 (a + 1)) c d e g h i j l))) else (none)) else (none)) else (some (-1))
def impl_keyAt.f (k : Nat) (l0 : List (S61)) (a : Int) (b : Int) (c : Int) (d : Int) (e : Int) (g : List (S127)) (h : Int) (i : Bool) : Option (Int) := impl_keyAt.l0 k l0 (l0.length : Int) 0 a b c d e g h i
theorem impl_keyAt.mono_l : ∀ k, (∀ y0 y1 y2 y3 y4 y5 y6 y7 y8 y9 y10, LeO (impl_keyAt.l0 k y0 y1 y2 y3 y4 y5 y6 y7 y8 y9 y10) (impl_keyAt.l0 (k + 1) y0 y1 y2 y3 y4 y5 y6 y7 y8 y9 y10))
 | 0 => fun _ _ _ _ _ _ _ _ _ _ _ r h => by simp [impl_keyAt.l0] at h
 | k + 1 => by
  have ih0 := impl_keyAt.mono_l k
  ·intro y0 y1 y2 y3 y4 y5 y6 y7 y8 y9 y10
   unfold impl_keyAt.l0
   with_reducible repeat' (first | apply ih0 | exact LeO.refl _ | exact LeO.none _ | refine LeO.ite ?_ ?_ | refine LeO.bind ?_ (fun _ => ?_))
theorem impl_keyAt.mono : ∀ a0 a1 a2 a3 a4 a5 a6 a7 a8 k, LeO (impl_keyAt.f k a0 a1 a2 a3 a4 a5 a6 a7 a8) (impl_keyAt.f (k + 1) a0 a1 a2 a3 a4 a5 a6 a7 a8) := by
 intro a0 a1 a2 a3 a4 a5 a6 a7 a8 k
 have ih0 := impl_keyAt.mono_l k
 unfold impl_keyAt.f
 with_reducible repeat' (first | apply ih0 | exact LeO.refl _ | exact LeO.none _ | refine LeO.ite ?_ ?_ | refine LeO.bind ?_ (fun _ => ?_))
set_option maxHeartbeats 8000000 in
set_option maxRecDepth 100000 in
theorem impl_keyAt.calls (k : Nat) (A0 : Option Addr) (c0 : Nat) (l0 : List (S61)) (Ae : Int) (Af : Int) (Ag : Int) (Ah : Int) (Ai : Int) (Am : Option Addr) (An : Nat) (Ac : List (S127)) (Aj : Int) (Ak : Bool) (r : Int) (w : World) (hr0 : Kd.C k61 w A0 l0.length l0) (hc0 : l0.length ≤ c0) (hr1_5 : Kd.C k127 w Am Ac.length Ac) (hc1_5 : Ac.length ≤ An) (h : impl_keyAt.f k l0 Ae Af Ag Ah Ai Ac Aj Ak = some r) :
  Calls Try.prog 107 #[.slice A0 l0.length c0, .agg #[.int .i64 Ae, .int .i64 Af, .int .i64 Ag, .int .i64 Ah, .int .i64 Ai, .slice Am Ac.length An, .int .i64 Aj, .bool Ak]] w fun e w' => e = .returned (.int .i64 r) ∧ Below w.heap.size w w' := by
 have hu61 := Try.underlying61; have HR0 := ak hr0; have Cw := ak hc0; clear hr0 hc0; have Bc := ak hr1_5; have Bd := ak hc1_5; clear hr1_5 hc1_5; have HB := ak (Below.refl w.heap.size w); have H := h
 clear h; unfold impl_keyAt.f at H; have H' := ak H; clear H
 go_enter Try.func107, Try.ntmps107
 go_wp2_with (first | ((with_reducible refine gate_dst (N := 3) rfl ?_); refine box_q 3 #[.int .i64 Ae, .int .i64 Af, .int .i64 Ag, .int .i64 Ah, .int .i64 Ai, .slice Am Ac.length An, .int .i64 Aj, .bool Ak] 61 ?_; intro Al hg w3 hbox hb; have Ad := ak (hbox); have Cn := gsz w (below_size (bw_q HB)) hg; have Co := gsz w (below_size (bw_q HB)) hg; replace HB := ak (below_step (bw_q HB) hb); clear hb hbox hg))
 go_loopg [9] k (fun kq v9 w' => ∃ (Aa : Int), v9 = .int .i64 Aa ∧ Aside0 (impl_keyAt.l0 kq l0 (l0.length : Int) Aa Ae Af Ag Ah Ai Ac Aj Ak = some r) ∧ Aside0 (kq ≤ k) ∧ Aside0 (w'.heap[Al]? = some (.cells #[.int .i64 Ae, .int .i64 Af, .int .i64 Ag, .int .i64 Ah, .int .i64 Ai, (.slice Am Ac.length An), .int .i64 Aj, .bool Ak] 61 (0, 0))) ∧ Aside0 (Below w.heap.size w w'))
 case atStart => exact ⟨(0), rs_q, H', ⟨Nat.le_refl _⟩, ⟨bk_q Ad⟩, ⟨bw_q HB⟩⟩
 case round =>
  clear H'; (try clear c1); (try clear p2); obtain ⟨Aa, rfl, HA, Be, Ad, HB⟩ := hrel
  cases gk with
  | zero => exact absurd HA.out (by simp [impl_keyAt.l0])
  | succ k1 =>
   have H := HA.out; clear HA
   simp only [impl_keyAt.l0] at H
   by_cases c4 : Aa < (l0.length : Int)
   ·rw [if_pos c4] at H
    have Bg : decide (Aa < (l0.length : Int)) = true := decide_eq_true c4
    clear c4
    by_cases c5 : 0 ≤ Aa
    ·rw [if_pos c5] at H
     have Cu : decide (0 ≤ Aa) = true := decide_eq_true c5
     clear c5
     by_cases c6 : Aa < (l0.length : Int)
     ·rw [if_pos c6] at H
      have Cv : decide (Aa < (l0.length : Int)) = true := decide_eq_true c6
      clear c6; replace H := bsi H; obtain ⟨Bb, A70, H⟩ := H
      (try dsimp only at H)
      have A7 := ak A70; clear A70; have Bf := ak H; clear H
      have p612 : 0 ≤ (Aa : Int) := of_decide_eq_true as_q
      have q612 : Aa < (l0.length : Int) := of_decide_eq_true as_q
      obtain ⟨Cp, A612_5, c612_5, e612, Ao, Ap, Aq, Ar, As, At, Au, Av, hl612_5, hi612_5⟩ := at_T61 HR0.out Aa p612 q612
      cases e612
      replace Ao := hbc HB Ao; replace Ap := hbc HB Ap; replace Aq := hbc HB Aq; replace Ar := hbc HB Ar; replace As := hbc HB As; replace At := hbc HB At; replace Au := hbc HB Au; replace Av := hbc HB Av; have Az := ak hi612_5; have Ba := ak hl612_5; clear hi612_5 hl612_5; replace p612 := eq_true p612; replace q612 := eq_true q612
      go_upto_if 16 with (first | ((with_reducible refine gate_dst (N := 6) rfl ?_); refine box_q 6 #[.int .i64 0, .int .i64 0, .int .i64 0, .int .i64 0, .int .i64 0, .slice none 0 0, .int .i64 0, .bool false] 61 ?_; intro Aw hg w9 hbox hb; have Ax := ak (hbox); have Cq := gsz w (below_size (bw_q HB)) hg; have Cr := gsz w (below_size (bw_q HB)) hg; replace HB := ak (below_step (bw_q HB) hb); have Ab := ak ((by rw [hg]; exact Nat.ne_of_lt (blk_lt (g := Al) (o := .cells #[.int .i64 Ae, .int .i64 Af, .int .i64 Ag, .int .i64 Ah, .int .i64 Ai, .slice Am Ac.length An, .int .i64 Aj, .bool Ak] 61 (0, 0)) (bk_q Ad)) : Al ≠ Aw)); have Ay := ak ((by rw [hg]; exact Nat.ne_of_gt (blk_lt (g := Al) (o := .cells #[.int .i64 Ae, .int .i64 Af, .int .i64 Ag, .int .i64 Ah, .int .i64 Ai, .slice Am Ac.length An, .int .i64 Aj, .bool Ak] 61 (0, 0)) (bk_q Ad)) : Aw ≠ Al)); replace Ad := ak (blk_below (g := Al) (bk_q Ad) hb); clear hb hbox hg; have Cs := Ay.out; have Ct := Ab.out; obtain ⟨Bh, Bi, Bj, Bk, Bl, Bm, Bn, Bo, Bp, Bq, Br, Bs, Bt, Bu, Bv, Bw⟩ := cf8_ Ax; obtain ⟨Bx, By, Bz, Ca, Cb, Cc, Cd, Ce, Cf, Cg, Ch, Ci, Cj, Ck, Cl, Cm⟩ := cf8_ Ad) | ((with_reducible refine gate_callee (f := 69) rfl ?_); refine goesL_ (some 16) rfl rfl Try.func69 (by kernel_rfl) rfl #[.agg #[.int .i64 ((rd_T61 l0 Aa).f0), .int .i64 ((rd_T61 l0 Aa).f1), .int .i64 ((rd_T61 l0 Aa).f2), .int .i64 ((rd_T61 l0 Aa).f3), .int .i64 ((rd_T61 l0 Aa).f4), .slice A612_5 ((rd_T61 l0 Aa).f5).length c612_5, .int .i64 ((rd_T61 l0 Aa).f6), .bool ((rd_T61 l0 Aa).f7)], .agg #[.int .i64 Ae, .int .i64 Af, .int .i64 Ag, .int .i64 Ah, .int .i64 Ai, .slice Am Ac.length An, .int .i64 Aj, .bool Ak]] rfl mp_q ?_; (with_reducible refine (impl_SameKey.calls ((rd_T61 l0 Aa).f0) ((rd_T61 l0 Aa).f1) ((rd_T61 l0 Aa).f2) ((rd_T61 l0 Aa).f3) ((rd_T61 l0 Aa).f4) _ _ ((rd_T61 l0 Aa).f5) ((rd_T61 l0 Aa).f6) ((rd_T61 l0 Aa).f7) Ae Af Ag Ah Ai _ _ Ac Aj Ak Bb _ ?side1 ?side2 ?side3 ?side4 A7.out).mono ?_); (case side1 => exact Kd.C_below Az.out (bw_q HB)); (case side2 => exact Ba.out); (case side3 => exact Kd.C_below Bc.out (bw_q HB)); (case side4 => exact Bd.out); rintro e w13 ⟨rfl, hb⟩; refine ⟨_, rfl, ?_⟩; replace Ad := ak (blk_below (g := Al) (o := .cells #[.int .i64 Ae, .int .i64 Af, .int .i64 Ag, .int .i64 Ah, .int .i64 Ai, .slice Am Ac.length An, .int .i64 Aj, .bool Ak] 61 (0, 0)) (by refine bz_ ?_; refine blk_far ?_ Ab.out _; refine bz_ ?_; refine blk_far ?_ Ab.out _; refine bz_ ?_; refine blk_far ?_ Ab.out _; refine bz_ ?_; refine blk_far ?_ Ab.out _; refine bz_ ?_; refine blk_far ?_ Ab.out _; refine bz_ ?_; refine blk_far ?_ Ab.out _; refine bz_ ?_; refine blk_far ?_ Ab.out _; refine bz_ ?_; refine blk_far ?_ Ab.out _; refine bz_ ?_; exact Ad.out) hb); replace Ax := ak (blk_below (g := Aw) (o := .cells #[.int .i64 ((rd_T61 l0 Aa).f0), .int .i64 ((rd_T61 l0 Aa).f1), .int .i64 ((rd_T61 l0 Aa).f2), .int .i64 ((rd_T61 l0 Aa).f3), .int .i64 ((rd_T61 l0 Aa).f4), .slice A612_5 ((rd_T61 l0 Aa).f5).length c612_5, .int .i64 ((rd_T61 l0 Aa).f6), .bool ((rd_T61 l0 Aa).f7)] 61 (0, 0)) (by refine bz_ ?_; refine blk_put (cs := #[.int .i64 ((rd_T61 l0 Aa).f0), .int .i64 ((rd_T61 l0 Aa).f1), .int .i64 ((rd_T61 l0 Aa).f2), .int .i64 ((rd_T61 l0 Aa).f3), .int .i64 ((rd_T61 l0 Aa).f4), .slice A612_5 ((rd_T61 l0 Aa).f5).length c612_5, .int .i64 ((rd_T61 l0 Aa).f6), .bool false]) ?_ 7 _ rfl; refine bz_ ?_; refine blk_put (cs := #[.int .i64 ((rd_T61 l0 Aa).f0), .int .i64 ((rd_T61 l0 Aa).f1), .int .i64 ((rd_T61 l0 Aa).f2), .int .i64 ((rd_T61 l0 Aa).f3), .int .i64 ((rd_T61 l0 Aa).f4), .slice A612_5 ((rd_T61 l0 Aa).f5).length c612_5, .int .i64 0, .bool false]) ?_ 6 _ rfl; refine bz_ ?_; refine blk_put (cs := #[.int .i64 ((rd_T61 l0 Aa).f0), .int .i64 ((rd_T61 l0 Aa).f1), .int .i64 ((rd_T61 l0 Aa).f2), .int .i64 ((rd_T61 l0 Aa).f3), .int .i64 ((rd_T61 l0 Aa).f4), .slice none 0 0, .int .i64 0, .bool false]) ?_ 5 _ rfl; refine bz_ ?_; refine blk_put (cs := #[.int .i64 ((rd_T61 l0 Aa).f0), .int .i64 ((rd_T61 l0 Aa).f1), .int .i64 ((rd_T61 l0 Aa).f2), .int .i64 ((rd_T61 l0 Aa).f3), .int .i64 0, .slice none 0 0, .int .i64 0, .bool false]) ?_ 4 _ rfl; refine bz_ ?_; refine blk_put (cs := #[.int .i64 ((rd_T61 l0 Aa).f0), .int .i64 ((rd_T61 l0 Aa).f1), .int .i64 ((rd_T61 l0 Aa).f2), .int .i64 0, .int .i64 0, .slice none 0 0, .int .i64 0, .bool false]) ?_ 3 _ rfl; refine bz_ ?_; refine blk_put (cs := #[.int .i64 ((rd_T61 l0 Aa).f0), .int .i64 ((rd_T61 l0 Aa).f1), .int .i64 0, .int .i64 0, .int .i64 0, .slice none 0 0, .int .i64 0, .bool false]) ?_ 2 _ rfl; refine bz_ ?_; refine blk_put (cs := #[.int .i64 ((rd_T61 l0 Aa).f0), .int .i64 0, .int .i64 0, .int .i64 0, .int .i64 0, .slice none 0 0, .int .i64 0, .bool false]) ?_ 1 _ rfl; refine bz_ ?_; refine blk_put (cs := #[.int .i64 0, .int .i64 0, .int .i64 0, .int .i64 0, .int .i64 0, .slice none 0 0, .int .i64 0, .bool false]) ?_ 0 _ rfl; refine bz_ ?_; exact Ax.out) hb); replace HB := ak (below_step (bw_q HB) hb)))
      (try clear Ao); (try clear Ap); (try clear Aq); (try clear Ar); (try clear As); (try clear At); (try clear Au); (try clear Av); have H := Bf.out; clear Bf
      by_cases c14 : Bb = true
      ·subst c14; rw [if_pos rfl] at H; obtain rfl := Option.some.inj H
       go_wp2
       go_ret
       exact ⟨er_q, bw_q HB⟩
      ·replace c14 := Bool.eq_false_iff.mpr c14; subst c14
       rw [if_neg (show ¬ (false = true) by decide)] at H
       have H' := ak H; clear H
       go_wp2
       go_roundg k1
       case measure => have := Be.out; omega
       case rel => exact ⟨(wrap64 (Aa + 1)), rs_q, H', ⟨by have := Be.out; omega⟩, ⟨bk_q Ad⟩, ⟨bw_q HB⟩⟩
     ·rw [if_neg c6] at H
      exact absurd H (by simp)
    ·rw [if_neg c5] at H
     exact absurd H (by simp)
   ·rw [if_neg c4] at H
    have Bg : decide (Aa < (l0.length : Int)) = false := decide_eq_false c4
    clear c4; obtain rfl := Option.some.inj H
    go_wp2
    go_ret
    exact ⟨er_q, bw_q HB⟩

end Go.Proofs.Ythjmdiggglkeaaa.Q
