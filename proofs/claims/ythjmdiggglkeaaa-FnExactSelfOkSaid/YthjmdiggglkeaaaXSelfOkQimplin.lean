import Derived.Test.YthjmdiggglkeaaaXSelfOkQspecl01In
import Derived.Test.YthjmdiggglkeaaaXSelfOkQlawstoNear
/- A Go function as a Lean function, and its contract: for every input the Go code comes to what the Lean function tells. -/


namespace Go.Proofs.Ythjmdiggglkeaaa.Q
open Go.RowKit Go.Proofs.YthjmdiggglkeaaaW.PrintWords Go.Proofs.YthjmdiggglkeaaaW.PrintLast Go.Proofs.YthjmdiggglkeaaaW.PrintMore
attribute [local go_sem] max2_int min2_int max_two min_two max_three min_three max_four min_four   -- for this text's walks alone
set_option linter.unusedVariables false
set_option linter.unusedSimpArgs false

/-! ### laws_toNearS: function 106 -/
def laws_toNearS.l0 : Nat → List (S141) → List (S127) → Int → Option ((List (S127)))
 | 0, _, _, _ => none
 | k + 1, x0, x3, x4 => if x4 < (x0.length : Int) then (if 0 ≤ x4 then ((laws_toNear.f ((rd_T141 x0 x4).f0) ((rd_T141 x0 x4).f1)).bind fun bt278 => (if x4 < (x3.length : Int) then (laws_toNearS.l0 k x0 (x3.set (x4 : Int).toNat (⟨bt278.1, bt278.2⟩ : S127)) (wrap64 (x4 + 1))) else (none))) else (none)) else (some x3)
def laws_toNearS.f (k : Nat) (l0 : List (S141)) : Option ((List (S127))) := if 0 ≤ (l0.length : Int) then (if ((l0.length : Int) : Int).toNat ≤ 17592186044416 then (laws_toNearS.l0 k l0 (List.replicate ((l0.length : Int) : Int).toNat z127) 0) else (none)) else (none)
theorem laws_toNearS.mono_l : ∀ k, (∀ y0 y1 y2, LeO (laws_toNearS.l0 k y0 y1 y2) (laws_toNearS.l0 (k + 1) y0 y1 y2))
 | 0 => fun _ _ _ r h => by simp [laws_toNearS.l0] at h
 | k + 1 => by
  have ih0 := laws_toNearS.mono_l k
  ·intro y0 y1 y2
   unfold laws_toNearS.l0
   repeat' first
   | (with_reducible exact ih0 _ _ _)
   | (with_reducible exact LeO.refl _)
   | (with_reducible exact LeO.none _)
   | (with_reducible refine LeO.ite ?_ ?_)
   | (with_reducible refine LeO.bind ?_ (fun _ => ?_))
   | exact ih0 _ _ _
   | exact LeO.none _
   | refine LeO.ite ?_ ?_
   | refine LeO.bind ?_ (fun _ => ?_)
theorem laws_toNearS.mono : ∀ a0 k, LeO (laws_toNearS.f k a0) (laws_toNearS.f (k + 1) a0) := by
 intro a0 k
 have ih0 := laws_toNearS.mono_l k
 unfold laws_toNearS.f
 repeat' first
   | (with_reducible exact ih0 _ _ _)
   | (with_reducible exact LeO.refl _)
   | (with_reducible exact LeO.none _)
   | (with_reducible refine LeO.ite ?_ ?_)
   | (with_reducible refine LeO.bind ?_ (fun _ => ?_))
   | exact ih0 _ _ _
   | exact LeO.none _
   | refine LeO.ite ?_ ?_
   | refine LeO.bind ?_ (fun _ => ?_)
set_option maxHeartbeats 8000000 in
set_option maxRecDepth 100000 in
theorem laws_toNearS.calls (k : Nat) (A0 : Option Addr) (c0 : Nat) (l0 : List (S141)) (r : List (S127)) (w : World) (hr0 : Kd.C k141 w A0 l0.length l0) (hc0 : l0.length ≤ c0) (h : laws_toNearS.f k l0 = some r) :
  Calls Try.prog 106 #[.slice A0 l0.length c0] w fun e w' => ∃ v0_ : Value, e = .returned (v0_) ∧ Kd.R k127 127 w' w.heap.size (fun _ => True) v0_ r ∧ Below w.heap.size w w' := by
 have hu141 := Try.underlying141
 have hu127 := Try.underlying127
 have HR0 := Aside0.mk hr0
 have HC0 := Aside0.mk hc0
 clear hr0 hc0
 have HB := Aside0.mk (Below.refl w.heap.size w)
 have H : (if 0 ≤ (l0.length : Int) then (if ((l0.length : Int) : Int).toNat ≤ 17592186044416 then (laws_toNearS.l0 k l0 (List.replicate ((l0.length : Int) : Int).toNat z127) 0) else (none)) else (none)) = some r := h
 clear h
 by_cases c2 : 0 ≤ (l0.length : Int)
 ·rw [if_pos c2] at H
  have c2b0 := eq_true c2
  have c2b1 : decide (0 ≤ (l0.length : Int)) = true := decide_eq_true c2
  clear c2
  by_cases c3 : ((l0.length : Int) : Int).toNat ≤ 17592186044416
  ·rw [if_pos c3] at H
   have c3b0 := eq_true c3
   have c3b1 : decide (((l0.length : Int) : Int).toNat ≤ 17592186044416) = true := decide_eq_true c3
   clear c3
   obtain ⟨y274, hy274⟩ : ∃ y_ : List (S127), y_ = (List.replicate ((l0.length : Int) : Int).toNat z127) := ⟨_, rfl⟩
   replace H : (laws_toNearS.l0 k l0 y274 0) = some r := by first | (rw [hy274]; with_reducible exact H) | (have H2_ := (Option.bind_some _ _).symm.trans H; rw [hy274]; with_reducible exact H2_) | (have H2_ := (Option.bind_some _ _).symm.trans H; with_reducible exact H2_) | with_reducible exact H | (rw [hy274]; exact H) | exact H
   have Ny274 := Aside0.mk hy274
   clear hy274
   have H' := Aside0.mk H
   clear H
   go_enter Try.func106, Try.ntmps106
   go_wp2_with (first | ((with_reducible refine gate_dst (N := 7) rfl ?_); refine Kd.R_make k127 _ 127 rfl (N := 7) rfl 59 _ _ rfl (l0.length : Int) rfl rfl Try.underlying59 (.agg #[(.int .i64 0), (.int .i64 0)]) 16 info127 rfl (by decide) (by omega) z127 (ok := fun _ => True) (okp := fun _ => True) (k127_mkM _ _ _ z127 ) (fun _ hk => hk) trivial (of_decide_eq_true as_q) (Nat.le_trans (Nat.mul_le_mul_right _ (of_decide_eq_true as_q : (l0.length : Int).toNat ≤ 17592186044416)) (by omega)) (Below.refl _ _) (Nat.le_refl _) ?_; intro v275 w4 ho5 hb hg_ hnew_; clear hg_ hnew_; (first | rw [← Ny274.out] at ho5 | (simp only [Int.reduceToNat] at ho5; rw [← Ny274.out] at ho5)); have HO276 := Aside0.mk (Kd.R_lower ho5 (below_size (bw_q HB))); replace HB := Aside0.mk (below_step (bw_q HB) hb); clear hb ho5))
   go_loopg [4] k (fun kq v4 w' => ∃ (x3_1 : List (S127)) (x4_1 : Int), v4 = .int .i64 x4_1 ∧ Aside0 (laws_toNearS.l0 kq l0 x3_1 x4_1 = some r) ∧ Aside0 (kq ≤ k) ∧ Aside0 (Kd.R k127 127 w' w.heap.size (fun _ => True) v275 x3_1) ∧ Aside0 (Below w.heap.size w w'))
   case atStart => exact ⟨(y274), (0), (by first | rfl | (simp; done) | (simp [*]; done)), H', ⟨Nat.le_refl _⟩, ⟨by (with_reducible repeat (first | apply Kd.R_alloc | apply Kd.R_drewN | apply Kd.R_drew)); exact HO276.out⟩, ⟨bw_q HB⟩⟩
   case round =>
    clear H'
    try clear c1
    try clear c2
    try clear c2b0
    try clear c2b1
    try clear p2
    try clear c3
    try clear c3b0
    try clear c3b1
    obtain ⟨x3_1, x4_1, rfl, HA, HK1, HO_3, HB⟩ := hrel
    cases gk with
    | zero => exact absurd HA.out (by simp [laws_toNearS.l0])
    | succ k1 =>
     have H := HA.out
     clear HA
     simp only [laws_toNearS.l0] at H
     by_cases c6 : x4_1 < (l0.length : Int)
     ·rw [if_pos c6] at H
      have c6b0 : decide (x4_1 < (l0.length : Int)) = true := decide_eq_true c6
      clear c6
      by_cases c7 : 0 ≤ x4_1
      ·rw [if_pos c7] at H
       have c7b0 : decide (0 ≤ x4_1) = true := decide_eq_true c7
       clear c7
       replace H := Option.bind_eq_some_iff.mp H
       obtain ⟨⟨t278, t279⟩, A80, H⟩ := H
       replace H : (if x4_1 < (x3_1.length : Int) then (laws_toNearS.l0 k1 l0 (x3_1.set (x4_1 : Int).toNat (⟨t278, t279⟩ : S127)) (wrap64 (x4_1 + 1))) else (none)) = some r := H
       have A8 := Aside0.mk A80
       clear A80
       by_cases c9 : x4_1 < (x3_1.length : Int)
       ·rw [if_pos c9] at H
        have c9b0 : decide (x4_1 < (x3_1.length : Int)) = true := decide_eq_true c9
        clear c9
        obtain ⟨y280, hy280⟩ : ∃ y_ : List (S127), y_ = (x3_1.set (x4_1 : Int).toNat (⟨t278, t279⟩ : S127)) := ⟨_, rfl⟩
        replace H : (laws_toNearS.l0 k1 l0 y280 (wrap64 (x4_1 + 1))) = some r := by first | (rw [hy280]; with_reducible exact H) | (have H2_ := (Option.bind_some _ _).symm.trans H; rw [hy280]; with_reducible exact H2_) | (have H2_ := (Option.bind_some _ _).symm.trans H; with_reducible exact H2_) | with_reducible exact H | (rw [hy280]; exact H) | exact H
        have Ny280 := Aside0.mk hy280
        clear hy280
        have H' := Aside0.mk H
        clear H
        have p277 : 0 ≤ (x4_1 : Int) := of_decide_eq_true as_q
        have q277 : x4_1 < (l0.length : Int) := of_decide_eq_true as_q
        obtain ⟨ad277, e277, hx277_0, hx277_1⟩ := at_T141 HR0.out x4_1 p277 q277
        cases e277
        replace hx277_0 := (HB.out.cell (World.block_lt_of_cell? w _ hx277_0)).trans hx277_0
        replace hx277_1 := (HB.out.cell (World.block_lt_of_cell? w _ hx277_1)).trans hx277_1
        replace p277 := eq_true p277
        replace q277 := eq_true q277
        go_wp2_with (first | ((with_reducible refine gate_callee (f := 140) rfl ?_); refine goesL_ (some 20) rfl rfl Try.func140 (by kernel_rfl) rfl #[.agg #[.int .i64 ((rd_T141 l0 x4_1).f0), .int .i64 ((rd_T141 l0 x4_1).f1)]] rfl mp_q ?_; (with_reducible refine (laws_toNear.calls ((rd_T141 l0 x4_1).f0) ((rd_T141 l0 x4_1).f1) t278 t279 _ A8.out).mono ?_); rintro e w11 ⟨rfl, hb⟩; refine ⟨_, rfl, ?_⟩; replace HO_3 := Aside0.mk (Kd.R_below (kR_q HO_3) hb); replace HB := Aside0.mk (below_step (bw_q HB) hb); (try clear hb); (try clear hb2); (try clear hk); (try clear hi); have p10 : 0 ≤ (x4_1 : Int) := of_decide_eq_true as_q; have q10 : (x4_1 : Int) < ((x3_1.length : Int) : Int) := of_decide_eq_true as_q; obtain ⟨go10, co10, eo10, gb10, gl10, cl10, HG10⟩ := Kd.R_form HO_3.out (by omega); (first | cases eo10 | (injection eo10 with ea_ en_ ec_; (first | subst ea_ | (injection ea_ with ea_; subst ea_)); subst ec_; clear en_)); have GB10 := Aside0.mk gb10; have GG10 := Aside0.mk HG10; clear gb10 gl10 HG10; obtain ⟨ce10, hcl10, hM10, hcc10, hfr10⟩ := Kd.R_elem HO_3.out z127 (x4_1 : Int) p10 q10; obtain rfl := k127_openM hM10; have hx10_0 : w11.cell? ⟨go10, (x4_1 : Int).toNat * 2, none⟩ = some (.int .i64 ((rd_T127 x3_1 x4_1).f0)) := hcc10 0 _ rfl; have hx10_1 : w11.cell? ⟨go10, (x4_1 : Int).toNat * 2 + 1, none⟩ = some (.int .i64 ((rd_T127 x3_1 x4_1).f1)) := hcc10 1 _ rfl; have hf10_0 : w11.frozen? ⟨go10, (x4_1 : Int).toNat * 2, none⟩ = false := hfr10 0; have hf10_1 : w11.frozen? ⟨go10, (x4_1 : Int).toNat * 2 + 1, none⟩ = false := hfr10 1; clear hcl10 hcc10 hfr10 hM10; replace p10 := eq_true p10; replace q10 := eq_true q10; have HX12 := Aside0.mk (show Kd.R k127 127 w11 w.heap.size (fun _ => True) (.slice (some ⟨go10, 0, none⟩) x3_1.length co10) x3_1 from (kR_q HO_3)); obtain ⟨ce12, hcl12, hM12, hcc12, hfr12⟩ := Kd.R_elem HX12.out z127 (x4_1 : Int) (of_decide_eq_true as_q) (by have h_ : (x4_1 : Int) < ((x3_1.length : Int) : Int) := of_decide_eq_true as_q; first | exact h_ | (have e_ := (Kd.R_reads' HO_3.out).1; omega) | simpa using h_); obtain rfl := k127_openM hM12; have HP12 := Kd.R_seg HX12.out (x4_1 : Int) (of_decide_eq_true as_q) (by have h_ : (x4_1 : Int) < ((x3_1.length : Int) : Int) := of_decide_eq_true as_q; first | exact h_ | (have e_ := (Kd.R_reads' HO_3.out).1; omega) | simpa using h_) (seg := [.int .i64 t278, .int .i64 t279]) (j := 0) hcl12 hcc12 (show 2 ≤ 2 from by decide) (x' := (⟨t278, t279⟩ : S127)) (k127_mkM _ _ _ (⟨t278, t279⟩ : S127) ) (fun _ hk => hk); have hx12_0 := hcc12 0 _ rfl; (try simp only [show (k127).sz = 2 from rfl, Nat.mul_one, Nat.add_zero] at hx12_0); have hf12_0 := hfr12 0; (try simp only [show (k127).sz = 2 from rfl, Nat.mul_one, Nat.add_zero] at hf12_0); have hx12_1 := hcc12 1 _ rfl; (try simp only [show (k127).sz = 2 from rfl, Nat.mul_one, Nat.add_zero] at hx12_1); have hf12_1 := hfr12 1; (try simp only [show (k127).sz = 2 from rfl, Nat.mul_one, Nat.add_zero] at hf12_1); clear hcl12 hcc12 hfr12 hM12) | ((with_reducible refine gate_store (t := 127) (p := 21) rfl ?_); refine store_event (t := 127) (p := 21) (v := ?vo_w13) (w1 := ((w11.setCell ⟨go10, (x4_1 : Int).toNat * 2, none⟩ (.int .i64 t278)).setCell ⟨go10, (x4_1 : Int).toNat * 2 + 1, none⟩ (.int .i64 t279))) ?hg ?ho ?hn ?hr ?_; (case ho => rfl); (case hg => rfl); (case hn => rfl); (case hr => first | (go_simp; done) | (go_simp; rfl)); intro w13 hw; have hg : w11.grownBy w13 (some go10) := (by rw [hw]; exact HP12.2); have hp_ : Kd.R k127 127 w13 w.heap.size (fun _ => True) (.slice (some ⟨go10, 0, none⟩) x3_1.length co10) y280 := (by rw [hw, Ny280.out]; exact HP12.1); clear HP12; replace HO_3 := Aside0.mk (hp_); replace HB := Aside0.mk ((by rw [hw]; exact below_set (below_set (HB.out) GB10.out) GB10.out : Below w.heap.size w w13)); clear hg hw hp_))
        go_roundg k1
        case measure => have := HK1.out; omega
        case rel => exact ⟨(y280), (wrap64 (x4_1 + 1)), (by first | rfl | (simp; done) | (simp [*]; done)), H', ⟨by have := HK1.out; omega⟩, ⟨by (with_reducible repeat (first | apply Kd.R_alloc | apply Kd.R_drewN | apply Kd.R_drew)); exact HO_3.out⟩, ⟨bw_q HB⟩⟩
       ·rw [if_neg c9] at H
        exact absurd H (by simp)
      ·rw [if_neg c7] at H
       exact absurd H (by simp)
     ·rw [if_neg c6] at H
      have c6b0 : decide (x4_1 < (l0.length : Int)) = false := decide_eq_false c6
      clear c6
      obtain rfl := Option.some.inj H
      go_wp2
      go_ret
      exact ⟨_, er_q, by (with_reducible repeat (first | apply Kd.R_alloc | apply Kd.R_drewN | apply Kd.R_drew)); exact HO_3.out, bw_q HB⟩
  ·rw [if_neg c3] at H
   exact absurd H (by simp)
 ·rw [if_neg c2] at H
  exact absurd H (by simp)

end Go.Proofs.Ythjmdiggglkeaaa.Q

/- A Go function as a Lean function, and its contract: for every input the Go code comes to what the Lean function tells. -/


namespace Go.Proofs.Ythjmdiggglkeaaa.Q
open Go.RowKit Go.Proofs.YthjmdiggglkeaaaW.PrintWords Go.Proofs.YthjmdiggglkeaaaW.PrintLast Go.Proofs.YthjmdiggglkeaaaW.PrintMore
attribute [local go_sem] max2_int min2_int max_two min_two max_three min_three max_four min_four   -- for this text's walks alone
set_option linter.unusedVariables false
set_option linter.unusedSimpArgs false

/-! ### laws_toRecord: function 36 -/
def laws_toRecord.f (k : Nat) (a0_0 : Int) (a0_1 : Int) (a0_2 : Int) (a0_3 : Int) (a0_4 : Int) (l0_5 : List (S141)) (a0_6 : Int) (a0_7 : Bool) : Option (Int × Int × Int × Int × Int × (List (S127)) × Int × Bool) := (laws_toNearS.f k l0_5).bind fun t284 => (some (a0_0, a0_1, a0_2, a0_3, a0_4, t284, a0_6, a0_7))
theorem laws_toRecord.mono : ∀ a0 a1 a2 a3 a4 a5 a6 a7 k, LeO (laws_toRecord.f k a0 a1 a2 a3 a4 a5 a6 a7) (laws_toRecord.f (k + 1) a0 a1 a2 a3 a4 a5 a6 a7) := by
 intro a0 a1 a2 a3 a4 a5 a6 a7 k
 unfold laws_toRecord.f
 repeat' first
   | (with_reducible exact laws_toNearS.mono _ _)
   | (with_reducible exact LeO.refl _)
   | (with_reducible exact LeO.none _)
   | (with_reducible refine LeO.ite ?_ ?_)
   | (with_reducible refine LeO.bind ?_ (fun _ => ?_))
   | exact laws_toNearS.mono _ _
   | exact LeO.none _
   | refine LeO.ite ?_ ?_
   | refine LeO.bind ?_ (fun _ => ?_)
set_option maxHeartbeats 8000000 in
set_option maxRecDepth 100000 in
theorem laws_toRecord.calls (k : Nat) (a0_0 : Int) (a0_1 : Int) (a0_2 : Int) (a0_3 : Int) (a0_4 : Int) (A0_5 : Option Addr) (c0_5 : Nat) (l0_5 : List (S141)) (a0_6 : Int) (a0_7 : Bool) (r1 : Int) (r2 : Int) (r3 : Int) (r4 : Int) (r5 : Int) (r6 : List (S127)) (r7 : Int) (r8 : Bool) (w : World) (hr0_5 : Kd.C k141 w A0_5 l0_5.length l0_5) (hc0_5 : l0_5.length ≤ c0_5) (h : laws_toRecord.f k a0_0 a0_1 a0_2 a0_3 a0_4 l0_5 a0_6 a0_7 = some (r1, r2, r3, r4, r5, r6, r7, r8)) :
  Calls Try.prog 36 #[.agg #[.int .i64 a0_0, .int .i64 a0_1, .int .i64 a0_2, .int .i64 a0_3, .int .i64 a0_4, .slice A0_5 l0_5.length c0_5, .int .i64 a0_6, .bool a0_7]] w fun e w' => ∃ v5_ : Value, e = .returned (.agg #[.int .i64 r1, .int .i64 r2, .int .i64 r3, .int .i64 r4, .int .i64 r5, v5_, .int .i64 r7, .bool r8]) ∧ Kd.R k127 127 w' w.heap.size (fun _ => True) v5_ r6 ∧ Below w.heap.size w w' := by
 have hu57 := Try.underlying57
 have hu61 := Try.underlying61
 have HR0_5 := Aside0.mk hr0_5
 have HC0_5 := Aside0.mk hc0_5
 clear hr0_5 hc0_5
 have HB := Aside0.mk (Below.refl w.heap.size w)
 have H : ((laws_toNearS.f k l0_5).bind fun t284 => (some (a0_0, a0_1, a0_2, a0_3, a0_4, t284, a0_6, a0_7))) = some (r1, r2, r3, r4, r5, r6, r7, r8) := h
 clear h
 replace H := Option.bind_eq_some_iff.mp H
 obtain ⟨t284, A20, H⟩ := H
 replace H : (some (a0_0, a0_1, a0_2, a0_3, a0_4, t284, a0_6, a0_7)) = some (r1, r2, r3, r4, r5, r6, r7, r8) := H
 have A2 := Aside0.mk A20
 clear A20
 simp only [Option.some.injEq, Prod.mk.injEq] at H
 obtain ⟨rfl, rfl, rfl, rfl, rfl, rfl, rfl, rfl⟩ := H
 go_enter Try.func36, Try.ntmps36
 go_wp2_with (first | ((with_reducible refine gate_dst (N := 1) rfl ?_); refine box_q 1 #[.int .i64 a0_0, .int .i64 a0_1, .int .i64 a0_2, .int .i64 a0_3, .int .i64 a0_4, .slice A0_5 l0_5.length c0_5, .int .i64 a0_6, .bool a0_7] 57 ?_; intro gb281 hg w3 hbox hb; have BK281 := Aside0.mk (hbox); have GW281 := Aside0.mk ((by rw [hg]; exact (below_size (bw_q HB)) : w.heap.size ≤ gb281)); have GE281 := Aside0.mk ((by rw [hg]; exact (below_size (bw_q HB)) : w.heap.size ≤ gb281)); replace HB := Aside0.mk (below_step (bw_q HB) hb); clear hb hbox hg) | ((with_reducible refine gate_dst (N := 2) rfl ?_); refine box_q 2 #[.int .i64 0, .int .i64 0, .int .i64 0, .int .i64 0, .int .i64 0, .slice none 0 0, .int .i64 0, .bool false] 61 ?_; intro gb282 hg w4 hbox hb; have BK282 := Aside0.mk (hbox); have GW282 := Aside0.mk ((by rw [hg]; exact (below_size (bw_q HB)) : w.heap.size ≤ gb282)); have GE282 := Aside0.mk ((by rw [hg]; exact (below_size (bw_q HB)) : w.heap.size ≤ gb282)); replace HB := Aside0.mk (below_step (bw_q HB) hb); have NB281_282 := Aside0.mk ((by rw [hg]; exact Nat.ne_of_lt (blk_lt (g := gb281) (o := .cells #[.int .i64 a0_0, .int .i64 a0_1, .int .i64 a0_2, .int .i64 a0_3, .int .i64 a0_4, .slice A0_5 l0_5.length c0_5, .int .i64 a0_6, .bool a0_7] 57 (0, 0)) (bk_q BK281)) : gb281 ≠ gb282)); have NB282_281 := Aside0.mk ((by rw [hg]; exact Nat.ne_of_gt (blk_lt (g := gb281) (o := .cells #[.int .i64 a0_0, .int .i64 a0_1, .int .i64 a0_2, .int .i64 a0_3, .int .i64 a0_4, .slice A0_5 l0_5.length c0_5, .int .i64 a0_6, .bool a0_7] 57 (0, 0)) (bk_q BK281)) : gb282 ≠ gb281)); replace BK281 := Aside0.mk (blk_below (g := gb281) (bk_q BK281) hb); clear hb hbox hg) | ((with_reducible refine gate_dst (N := 3) rfl ?_); refine box_q 3 #[.int .i64 0, .int .i64 0, .int .i64 0, .int .i64 0, .int .i64 0, .slice none 0 0, .int .i64 0, .bool false] 61 ?_; intro gb283 hg w5 hbox hb; have BK283 := Aside0.mk (hbox); have GW283 := Aside0.mk ((by rw [hg]; exact (below_size (bw_q HB)) : w.heap.size ≤ gb283)); have GE283 := Aside0.mk ((by rw [hg]; exact (below_size (bw_q HB)) : w.heap.size ≤ gb283)); replace HB := Aside0.mk (below_step (bw_q HB) hb); have NB281_283 := Aside0.mk ((by rw [hg]; exact Nat.ne_of_lt (blk_lt (g := gb281) (o := .cells #[.int .i64 a0_0, .int .i64 a0_1, .int .i64 a0_2, .int .i64 a0_3, .int .i64 a0_4, .slice A0_5 l0_5.length c0_5, .int .i64 a0_6, .bool a0_7] 57 (0, 0)) (bk_q BK281)) : gb281 ≠ gb283)); have NB283_281 := Aside0.mk ((by rw [hg]; exact Nat.ne_of_gt (blk_lt (g := gb281) (o := .cells #[.int .i64 a0_0, .int .i64 a0_1, .int .i64 a0_2, .int .i64 a0_3, .int .i64 a0_4, .slice A0_5 l0_5.length c0_5, .int .i64 a0_6, .bool a0_7] 57 (0, 0)) (bk_q BK281)) : gb283 ≠ gb281)); replace BK281 := Aside0.mk (blk_below (g := gb281) (bk_q BK281) hb); have NB282_283 := Aside0.mk ((by rw [hg]; exact Nat.ne_of_lt (blk_lt (g := gb282) (o := .cells #[.int .i64 0, .int .i64 0, .int .i64 0, .int .i64 0, .int .i64 0, .slice none 0 0, .int .i64 0, .bool false] 61 (0, 0)) (bk_q BK282)) : gb282 ≠ gb283)); have NB283_282 := Aside0.mk ((by rw [hg]; exact Nat.ne_of_gt (blk_lt (g := gb282) (o := .cells #[.int .i64 0, .int .i64 0, .int .i64 0, .int .i64 0, .int .i64 0, .slice none 0 0, .int .i64 0, .bool false] 61 (0, 0)) (bk_q BK282)) : gb283 ≠ gb282)); replace BK282 := Aside0.mk (blk_below (g := gb282) (bk_q BK282) hb); clear hb hbox hg; have hnb6 := NB281_282.out; have hnc6 := NB282_281.out; have hnb7 := NB281_283.out; have hnc7 := NB283_281.out; have hcz8_0 : w5.cell? ⟨gb281, 0, none⟩ = some (.int .i64 a0_0) := (blk_cell BK281.out 0).trans rfl; have hcz8_1 : w5.cell? ⟨gb281, 1, none⟩ = some (.int .i64 a0_1) := (blk_cell BK281.out 1).trans rfl; have hcz8_2 : w5.cell? ⟨gb281, 2, none⟩ = some (.int .i64 a0_2) := (blk_cell BK281.out 2).trans rfl; have hcz8_3 : w5.cell? ⟨gb281, 3, none⟩ = some (.int .i64 a0_3) := (blk_cell BK281.out 3).trans rfl; have hcz8_4 : w5.cell? ⟨gb281, 4, none⟩ = some (.int .i64 a0_4) := (blk_cell BK281.out 4).trans rfl; have hcz8_5 : w5.cell? ⟨gb281, 5, none⟩ = some (.slice A0_5 l0_5.length c0_5) := (blk_cell BK281.out 5).trans rfl; have hcz8_6 : w5.cell? ⟨gb281, 6, none⟩ = some (.int .i64 a0_6) := (blk_cell BK281.out 6).trans rfl; have hcz8_7 : w5.cell? ⟨gb281, 7, none⟩ = some (.bool a0_7) := (blk_cell BK281.out 7).trans rfl; have hfz8_0 := blk_frozen BK281.out 0; have hfz8_1 := blk_frozen BK281.out 1; have hfz8_2 := blk_frozen BK281.out 2; have hfz8_3 := blk_frozen BK281.out 3; have hfz8_4 := blk_frozen BK281.out 4; have hfz8_5 := blk_frozen BK281.out 5; have hfz8_6 := blk_frozen BK281.out 6; have hfz8_7 := blk_frozen BK281.out 7; have hnb9 := NB283_282.out; have hnc9 := NB282_283.out; have hcz10_0 : w5.cell? ⟨gb283, 0, none⟩ = some (.int .i64 0) := (blk_cell BK283.out 0).trans rfl; have hcz10_1 : w5.cell? ⟨gb283, 1, none⟩ = some (.int .i64 0) := (blk_cell BK283.out 1).trans rfl; have hcz10_2 : w5.cell? ⟨gb283, 2, none⟩ = some (.int .i64 0) := (blk_cell BK283.out 2).trans rfl; have hcz10_3 : w5.cell? ⟨gb283, 3, none⟩ = some (.int .i64 0) := (blk_cell BK283.out 3).trans rfl; have hcz10_4 : w5.cell? ⟨gb283, 4, none⟩ = some (.int .i64 0) := (blk_cell BK283.out 4).trans rfl; have hcz10_5 : w5.cell? ⟨gb283, 5, none⟩ = some (.slice none 0 0) := (blk_cell BK283.out 5).trans rfl; have hcz10_6 : w5.cell? ⟨gb283, 6, none⟩ = some (.int .i64 0) := (blk_cell BK283.out 6).trans rfl; have hcz10_7 : w5.cell? ⟨gb283, 7, none⟩ = some (.bool false) := (blk_cell BK283.out 7).trans rfl; have hfz10_0 := blk_frozen BK283.out 0; have hfz10_1 := blk_frozen BK283.out 1; have hfz10_2 := blk_frozen BK283.out 2; have hfz10_3 := blk_frozen BK283.out 3; have hfz10_4 := blk_frozen BK283.out 4; have hfz10_5 := blk_frozen BK283.out 5; have hfz10_6 := blk_frozen BK283.out 6; have hfz10_7 := blk_frozen BK283.out 7) | ((with_reducible refine gate_callee (f := 106) rfl ?_); refine goesL_ (some 21) rfl rfl Try.func106 (by kernel_rfl) rfl #[.slice A0_5 l0_5.length c0_5] rfl mp_q ?_; (with_reducible refine (laws_toNearS.calls k _ _ l0_5 t284 _ ?side1 ?side2 A2.out).mono ?_); (case side1 => exact Kd.C_below HR0_5.out (bw_q HB)); (case side2 => exact HC0_5.out); rintro e w11 ⟨v285, rfl, ho0, hb⟩; refine ⟨_, rfl, ?_⟩; have HO286 := Aside0.mk (Kd.R_lower ho0 (below_size (bw_q HB))); replace BK281 := Aside0.mk (blk_below (g := gb281) (o := .cells #[.int .i64 a0_0, .int .i64 a0_1, .int .i64 a0_2, .int .i64 a0_3, .int .i64 a0_4, .slice A0_5 l0_5.length c0_5, .int .i64 a0_6, .bool a0_7] 57 (0, 0)) (by refine bz_ ?_; refine blk_far ?_ NB281_283.out _; refine bz_ ?_; refine blk_far ?_ NB281_283.out _; refine bz_ ?_; refine blk_far ?_ NB281_283.out _; refine bz_ ?_; refine blk_far ?_ NB281_283.out _; refine bz_ ?_; refine blk_far ?_ NB281_283.out _; refine bz_ ?_; exact BK281.out) hb); replace BK282 := Aside0.mk (blk_below (g := gb282) (o := .cells #[.int .i64 0, .int .i64 0, .int .i64 0, .int .i64 0, .int .i64 0, .slice none 0 0, .int .i64 0, .bool false] 61 (0, 0)) (by refine bz_ ?_; refine blk_far ?_ NB282_283.out _; refine bz_ ?_; refine blk_far ?_ NB282_283.out _; refine bz_ ?_; refine blk_far ?_ NB282_283.out _; refine bz_ ?_; refine blk_far ?_ NB282_283.out _; refine bz_ ?_; refine blk_far ?_ NB282_283.out _; refine bz_ ?_; exact BK282.out) hb); replace BK283 := Aside0.mk (blk_below (g := gb283) (o := .cells #[.int .i64 a0_0, .int .i64 a0_1, .int .i64 a0_2, .int .i64 a0_3, .int .i64 a0_4, .slice none 0 0, .int .i64 0, .bool false] 61 (0, 0)) (by refine bz_ ?_; refine blk_put (cs := #[.int .i64 a0_0, .int .i64 a0_1, .int .i64 a0_2, .int .i64 a0_3, .int .i64 0, .slice none 0 0, .int .i64 0, .bool false]) ?_ 4 _ rfl; refine bz_ ?_; refine blk_put (cs := #[.int .i64 a0_0, .int .i64 a0_1, .int .i64 a0_2, .int .i64 0, .int .i64 0, .slice none 0 0, .int .i64 0, .bool false]) ?_ 3 _ rfl; refine bz_ ?_; refine blk_put (cs := #[.int .i64 a0_0, .int .i64 a0_1, .int .i64 0, .int .i64 0, .int .i64 0, .slice none 0 0, .int .i64 0, .bool false]) ?_ 2 _ rfl; refine bz_ ?_; refine blk_put (cs := #[.int .i64 a0_0, .int .i64 0, .int .i64 0, .int .i64 0, .int .i64 0, .slice none 0 0, .int .i64 0, .bool false]) ?_ 1 _ rfl; refine bz_ ?_; refine blk_put (cs := #[.int .i64 0, .int .i64 0, .int .i64 0, .int .i64 0, .int .i64 0, .slice none 0 0, .int .i64 0, .bool false]) ?_ 0 _ rfl; refine bz_ ?_; exact BK283.out) hb); replace HB := Aside0.mk (below_step (bw_q HB) hb); (try clear hb); (try clear hb2); (try clear hk); (try clear hi); (try clear ho0); obtain ⟨Ao12, co12, eo12⟩ := Kd.R_slice HO286.out; subst eo12; have hcz13_0 : w11.cell? ⟨gb283, 0, none⟩ = some (.int .i64 a0_0) := (blk_cell BK283.out 0).trans rfl; have hcz13_1 : w11.cell? ⟨gb283, 1, none⟩ = some (.int .i64 a0_1) := (blk_cell BK283.out 1).trans rfl; have hcz13_2 : w11.cell? ⟨gb283, 2, none⟩ = some (.int .i64 a0_2) := (blk_cell BK283.out 2).trans rfl; have hcz13_3 : w11.cell? ⟨gb283, 3, none⟩ = some (.int .i64 a0_3) := (blk_cell BK283.out 3).trans rfl; have hcz13_4 : w11.cell? ⟨gb283, 4, none⟩ = some (.int .i64 a0_4) := (blk_cell BK283.out 4).trans rfl; have hcz13_5 : w11.cell? ⟨gb283, 5, none⟩ = some (.slice none 0 0) := (blk_cell BK283.out 5).trans rfl; have hcz13_6 : w11.cell? ⟨gb283, 6, none⟩ = some (.int .i64 0) := (blk_cell BK283.out 6).trans rfl; have hcz13_7 : w11.cell? ⟨gb283, 7, none⟩ = some (.bool false) := (blk_cell BK283.out 7).trans rfl; have hfz13_0 := blk_frozen BK283.out 0; have hfz13_1 := blk_frozen BK283.out 1; have hfz13_2 := blk_frozen BK283.out 2; have hfz13_3 := blk_frozen BK283.out 3; have hfz13_4 := blk_frozen BK283.out 4; have hfz13_5 := blk_frozen BK283.out 5; have hfz13_6 := blk_frozen BK283.out 6; have hfz13_7 := blk_frozen BK283.out 7; have hcz14_0 : w11.cell? ⟨gb281, 0, none⟩ = some (.int .i64 a0_0) := (blk_cell BK281.out 0).trans rfl; have hcz14_1 : w11.cell? ⟨gb281, 1, none⟩ = some (.int .i64 a0_1) := (blk_cell BK281.out 1).trans rfl; have hcz14_2 : w11.cell? ⟨gb281, 2, none⟩ = some (.int .i64 a0_2) := (blk_cell BK281.out 2).trans rfl; have hcz14_3 : w11.cell? ⟨gb281, 3, none⟩ = some (.int .i64 a0_3) := (blk_cell BK281.out 3).trans rfl; have hcz14_4 : w11.cell? ⟨gb281, 4, none⟩ = some (.int .i64 a0_4) := (blk_cell BK281.out 4).trans rfl; have hcz14_5 : w11.cell? ⟨gb281, 5, none⟩ = some (.slice A0_5 l0_5.length c0_5) := (blk_cell BK281.out 5).trans rfl; have hcz14_6 : w11.cell? ⟨gb281, 6, none⟩ = some (.int .i64 a0_6) := (blk_cell BK281.out 6).trans rfl; have hcz14_7 : w11.cell? ⟨gb281, 7, none⟩ = some (.bool a0_7) := (blk_cell BK281.out 7).trans rfl; have hfz14_0 := blk_frozen BK281.out 0; have hfz14_1 := blk_frozen BK281.out 1; have hfz14_2 := blk_frozen BK281.out 2; have hfz14_3 := blk_frozen BK281.out 3; have hfz14_4 := blk_frozen BK281.out 4; have hfz14_5 := blk_frozen BK281.out 5; have hfz14_6 := blk_frozen BK281.out 6; have hfz14_7 := blk_frozen BK281.out 7; have hcz15_0 : w11.cell? ⟨gb282, 0, none⟩ = some (.int .i64 0) := (blk_cell BK282.out 0).trans rfl; have hcz15_1 : w11.cell? ⟨gb282, 1, none⟩ = some (.int .i64 0) := (blk_cell BK282.out 1).trans rfl; have hcz15_2 : w11.cell? ⟨gb282, 2, none⟩ = some (.int .i64 0) := (blk_cell BK282.out 2).trans rfl; have hcz15_3 : w11.cell? ⟨gb282, 3, none⟩ = some (.int .i64 0) := (blk_cell BK282.out 3).trans rfl; have hcz15_4 : w11.cell? ⟨gb282, 4, none⟩ = some (.int .i64 0) := (blk_cell BK282.out 4).trans rfl; have hcz15_5 : w11.cell? ⟨gb282, 5, none⟩ = some (.slice none 0 0) := (blk_cell BK282.out 5).trans rfl; have hcz15_6 : w11.cell? ⟨gb282, 6, none⟩ = some (.int .i64 0) := (blk_cell BK282.out 6).trans rfl; have hcz15_7 : w11.cell? ⟨gb282, 7, none⟩ = some (.bool false) := (blk_cell BK282.out 7).trans rfl; have hfz15_0 := blk_frozen BK282.out 0; have hfz15_1 := blk_frozen BK282.out 1; have hfz15_2 := blk_frozen BK282.out 2; have hfz15_3 := blk_frozen BK282.out 3; have hfz15_4 := blk_frozen BK282.out 4; have hfz15_5 := blk_frozen BK282.out 5; have hfz15_6 := blk_frozen BK282.out 6; have hfz15_7 := blk_frozen BK282.out 7))
 refine bodyPost_ret (results_cell_row rfl _ _ gb282 61 #[.int .i64 a0_0, .int .i64 a0_1, .int .i64 a0_2, .int .i64 a0_3, .int .i64 a0_4, .slice Ao12 t284.length co12, .int .i64 a0_6, .bool a0_7] (0, 0) _ rfl (by refine bz_ ?_; refine blk_put (cs := #[.int .i64 a0_0, .int .i64 a0_1, .int .i64 a0_2, .int .i64 a0_3, .int .i64 a0_4, .slice Ao12 t284.length co12, .int .i64 a0_6, .bool false]) ?_ 7 _ rfl; refine bz_ ?_; refine blk_put (cs := #[.int .i64 a0_0, .int .i64 a0_1, .int .i64 a0_2, .int .i64 a0_3, .int .i64 a0_4, .slice Ao12 t284.length co12, .int .i64 0, .bool false]) ?_ 6 _ rfl; refine bz_ ?_; refine blk_put (cs := #[.int .i64 a0_0, .int .i64 a0_1, .int .i64 a0_2, .int .i64 a0_3, .int .i64 a0_4, .slice none 0 0, .int .i64 0, .bool false]) ?_ 5 _ rfl; refine bz_ ?_; refine blk_put (cs := #[.int .i64 a0_0, .int .i64 a0_1, .int .i64 a0_2, .int .i64 a0_3, .int .i64 0, .slice none 0 0, .int .i64 0, .bool false]) ?_ 4 _ rfl; refine bz_ ?_; refine blk_put (cs := #[.int .i64 a0_0, .int .i64 a0_1, .int .i64 a0_2, .int .i64 0, .int .i64 0, .slice none 0 0, .int .i64 0, .bool false]) ?_ 3 _ rfl; refine bz_ ?_; refine blk_put (cs := #[.int .i64 a0_0, .int .i64 a0_1, .int .i64 0, .int .i64 0, .int .i64 0, .slice none 0 0, .int .i64 0, .bool false]) ?_ 2 _ rfl; refine bz_ ?_; refine blk_put (cs := #[.int .i64 a0_0, .int .i64 0, .int .i64 0, .int .i64 0, .int .i64 0, .slice none 0 0, .int .i64 0, .bool false]) ?_ 1 _ rfl; refine bz_ ?_; refine blk_put (cs := #[.int .i64 0, .int .i64 0, .int .i64 0, .int .i64 0, .int .i64 0, .slice none 0 0, .int .i64 0, .bool false]) ?_ 0 _ rfl; refine bz_ ?_; refine blk_far ?_ NB282_283.out _; refine bz_ ?_; refine blk_far ?_ NB282_283.out _; refine bz_ ?_; refine blk_far ?_ NB282_283.out _; refine bz_ ?_; exact BK282.out) Try.underlying61 rfl (by kernel_rfl)) rfl ?_
 exact ⟨_, er_q, by (with_reducible repeat (first | apply Kd.R_alloc | apply Kd.R_drewN | apply Kd.R_drew)); exact Kd.R_mono (Kd.R_far (p := ⟨gb282, 7, none⟩) (Kd.R_far (p := ⟨gb282, 6, none⟩) (Kd.R_far (p := ⟨gb282, 5, none⟩) (Kd.R_far (p := ⟨gb282, 4, none⟩) (Kd.R_far (p := ⟨gb282, 3, none⟩) (Kd.R_far (p := ⟨gb282, 2, none⟩) (Kd.R_far (p := ⟨gb282, 1, none⟩) (Kd.R_far (p := ⟨gb282, 0, none⟩) (Kd.R_far (p := ⟨gb283, 7, none⟩) (Kd.R_far (p := ⟨gb283, 6, none⟩) (Kd.R_far (p := ⟨gb283, 5, none⟩) (Kd.R_types (Kd.R_types HO286.out BK283.out (by decide)) BK282.out (by decide)) (fun _ hk => hk.1.2) (.slice Ao12 t284.length co12)) (fun _ hk => hk.1.2) (.int .i64 a0_6)) (fun _ hk => hk.1.2) (.bool a0_7)) (fun _ hk => hk.2) (.int .i64 a0_0)) (fun _ hk => hk.2) (.int .i64 a0_1)) (fun _ hk => hk.2) (.int .i64 a0_2)) (fun _ hk => hk.2) (.int .i64 a0_3)) (fun _ hk => hk.2) (.int .i64 a0_4)) (fun _ hk => hk.2) (.slice Ao12 t284.length co12)) (fun _ hk => hk.2) (.int .i64 a0_6)) (fun _ hk => hk.2) (.bool a0_7)) (fun _ hk => trivial), bw_q HB⟩

end Go.Proofs.Ythjmdiggglkeaaa.Q

/- A Go function as a Lean function, and its contract: for every input the Go code comes to what the Lean function tells. -/


namespace Go.Proofs.Ythjmdiggglkeaaa.Q
open Go.RowKit Go.Proofs.YthjmdiggglkeaaaW.PrintWords Go.Proofs.YthjmdiggglkeaaaW.PrintLast Go.Proofs.YthjmdiggglkeaaaW.PrintMore
attribute [local go_sem] max2_int min2_int max_two min_two max_three min_three max_four min_four   -- for this text's walks alone
set_option linter.unusedVariables false
set_option linter.unusedSimpArgs false

/-! ### laws_toRecordS: function 27 -/
def laws_toRecordS.l0 : Nat → List (S57) → List (S61) → Int → Option ((List (S61)))
 | 0, _, _, _ => none
 | k + 1, x0, x3, x4 => if x4 < (x0.length : Int) then (if 0 ≤ x4 then ((laws_toRecord.f k ((rd_T57 x0 x4).f0) ((rd_T57 x0 x4).f1) ((rd_T57 x0 x4).f2) ((rd_T57 x0 x4).f3) ((rd_T57 x0 x4).f4) ((rd_T57 x0 x4).f5) ((rd_T57 x0 x4).f6) ((rd_T57 x0 x4).f7)).bind fun bt291 => (if x4 < (x3.length : Int) then (laws_toRecordS.l0 k x0 (x3.set (x4 : Int).toNat (⟨bt291.1, bt291.2.1, bt291.2.2.1, bt291.2.2.2.1, bt291.2.2.2.2.1, bt291.2.2.2.2.2.1, bt291.2.2.2.2.2.2.1, bt291.2.2.2.2.2.2.2⟩ : S61)) (wrap64 (x4 + 1))) else (none))) else (none)) else (some x3)
def laws_toRecordS.f (k : Nat) (l0 : List (S57)) : Option ((List (S61))) := if 0 ≤ (l0.length : Int) then (if ((l0.length : Int) : Int).toNat ≤ 3518437208883 then (laws_toRecordS.l0 k l0 (List.replicate ((l0.length : Int) : Int).toNat z61) 0) else (none)) else (none)
theorem laws_toRecordS.mono_l : ∀ k, (∀ y0 y1 y2, LeO (laws_toRecordS.l0 k y0 y1 y2) (laws_toRecordS.l0 (k + 1) y0 y1 y2))
 | 0 => fun _ _ _ r h => by simp [laws_toRecordS.l0] at h
 | k + 1 => by
  have ih0 := laws_toRecordS.mono_l k
  ·intro y0 y1 y2
   unfold laws_toRecordS.l0
   repeat' first
   | (with_reducible exact ih0 _ _ _)
   | (with_reducible exact laws_toRecord.mono _ _ _ _ _ _ _ _ _)
   | (with_reducible exact LeO.refl _)
   | (with_reducible exact LeO.none _)
   | (with_reducible refine LeO.ite ?_ ?_)
   | (with_reducible refine LeO.bind ?_ (fun _ => ?_))
   | exact ih0 _ _ _
   | exact laws_toRecord.mono _ _ _ _ _ _ _ _ _
   | exact LeO.none _
   | refine LeO.ite ?_ ?_
   | refine LeO.bind ?_ (fun _ => ?_)
theorem laws_toRecordS.mono : ∀ a0 k, LeO (laws_toRecordS.f k a0) (laws_toRecordS.f (k + 1) a0) := by
 intro a0 k
 have ih0 := laws_toRecordS.mono_l k
 unfold laws_toRecordS.f
 repeat' first
   | (with_reducible exact ih0 _ _ _)
   | (with_reducible exact laws_toRecord.mono _ _ _ _ _ _ _ _ _)
   | (with_reducible exact LeO.refl _)
   | (with_reducible exact LeO.none _)
   | (with_reducible refine LeO.ite ?_ ?_)
   | (with_reducible refine LeO.bind ?_ (fun _ => ?_))
   | exact ih0 _ _ _
   | exact laws_toRecord.mono _ _ _ _ _ _ _ _ _
   | exact LeO.none _
   | refine LeO.ite ?_ ?_
   | refine LeO.bind ?_ (fun _ => ?_)
set_option maxHeartbeats 8000000 in
set_option maxRecDepth 100000 in
theorem laws_toRecordS.calls (k : Nat) (A0 : Option Addr) (c0 : Nat) (l0 : List (S57)) (r : List (S61)) (w : World) (hr0 : Kd.C k57 w A0 l0.length l0) (hc0 : l0.length ≤ c0) (h : laws_toRecordS.f k l0 = some r) :
  Calls Try.prog 27 #[.slice A0 l0.length c0] w fun e w' => ∃ v0_ : Value, e = .returned (v0_) ∧ Kd.S k61 61 w' w.heap.size (fun _ => True) v0_ r ∧ Below w.heap.size w w' := by
 have hu57 := Try.underlying57
 have hu61 := Try.underlying61
 have HR0 := Aside0.mk hr0
 have HC0 := Aside0.mk hc0
 clear hr0 hc0
 have HB := Aside0.mk (Below.refl w.heap.size w)
 have H : (if 0 ≤ (l0.length : Int) then (if ((l0.length : Int) : Int).toNat ≤ 3518437208883 then (laws_toRecordS.l0 k l0 (List.replicate ((l0.length : Int) : Int).toNat z61) 0) else (none)) else (none)) = some r := h
 clear h
 by_cases c2 : 0 ≤ (l0.length : Int)
 ·rw [if_pos c2] at H
  have c2b0 := eq_true c2
  have c2b1 : decide (0 ≤ (l0.length : Int)) = true := decide_eq_true c2
  clear c2
  by_cases c3 : ((l0.length : Int) : Int).toNat ≤ 3518437208883
  ·rw [if_pos c3] at H
   have c3b0 := eq_true c3
   have c3b1 : decide (((l0.length : Int) : Int).toNat ≤ 3518437208883) = true := decide_eq_true c3
   clear c3
   obtain ⟨y287, hy287⟩ : ∃ y_ : List (S61), y_ = (List.replicate ((l0.length : Int) : Int).toNat z61) := ⟨_, rfl⟩
   replace H : (laws_toRecordS.l0 k l0 y287 0) = some r := by first | (rw [hy287]; with_reducible exact H) | (have H2_ := (Option.bind_some _ _).symm.trans H; rw [hy287]; with_reducible exact H2_) | (have H2_ := (Option.bind_some _ _).symm.trans H; with_reducible exact H2_) | with_reducible exact H | (rw [hy287]; exact H) | exact H
   have Ny287 := Aside0.mk hy287
   clear hy287
   have H' := Aside0.mk H
   clear H
   go_enter Try.func27, Try.ntmps27
   go_wp2_with (first | ((with_reducible refine gate_dst (N := 7) rfl ?_); refine Kd.S_make k61 _ 61 rfl (N := 7) rfl 41 _ _ rfl (l0.length : Int) rfl rfl Try.underlying41 (.agg #[(.int .i64 0), (.int .i64 0), (.int .i64 0), (.int .i64 0), (.int .i64 0), (.slice none 0 0), (.int .i64 0), (.bool false)]) 80 info61 rfl (by decide) (by omega) z61 (ok := fun _ => True) (okp := fun _ => True) (k61_mkM _ _ _ z61 (Kd.R_nil _ _ _ _ _)) (fun _ hk => hk) trivial (of_decide_eq_true as_q) (Nat.le_trans (Nat.mul_le_mul_right _ (of_decide_eq_true as_q : (l0.length : Int).toNat ≤ 3518437208883)) (by omega)) (Below.refl _ _) (Nat.le_refl _) ?_; intro v288 w4 ho5 hb hg_ hnew_; clear hg_ hnew_; (first | rw [← Ny287.out] at ho5 | (simp only [Int.reduceToNat] at ho5; rw [← Ny287.out] at ho5)); have HO289 := Aside0.mk (Kd.S_lower ho5 (below_size (bw_q HB))); replace HB := Aside0.mk (below_step (bw_q HB) hb); clear hb ho5))
   go_loopg [4] k (fun kq v4 w' => ∃ (x3_1 : List (S61)) (x4_1 : Int), v4 = .int .i64 x4_1 ∧ Aside0 (laws_toRecordS.l0 kq l0 x3_1 x4_1 = some r) ∧ Aside0 (kq ≤ k) ∧ Aside0 (Kd.S k61 61 w' w.heap.size (fun _ => True) v288 x3_1) ∧ Aside0 (Below w.heap.size w w'))
   case atStart => exact ⟨(y287), (0), (by first | rfl | (simp; done) | (simp [*]; done)), H', ⟨Nat.le_refl _⟩, ⟨by (with_reducible repeat (first | apply Kd.S_alloc | apply Kd.S_drewN | apply Kd.S_drew)); exact HO289.out⟩, ⟨bw_q HB⟩⟩
   case round =>
    clear H'
    try clear c2
    try clear c2b0
    try clear c2b1
    try clear p2
    try clear c3
    try clear c3b0
    try clear c3b1
    obtain ⟨x3_1, x4_1, rfl, HA, HK1, HO_3, HB⟩ := hrel
    cases gk with
    | zero => exact absurd HA.out (by simp [laws_toRecordS.l0])
    | succ k1 =>
     have H := HA.out
     clear HA
     simp only [laws_toRecordS.l0] at H
     by_cases c6 : x4_1 < (l0.length : Int)
     ·rw [if_pos c6] at H
      have c6b0 : decide (x4_1 < (l0.length : Int)) = true := decide_eq_true c6
      clear c6
      by_cases c7 : 0 ≤ x4_1
      ·rw [if_pos c7] at H
       have c7b0 : decide (0 ≤ x4_1) = true := decide_eq_true c7
       clear c7
       replace H := Option.bind_eq_some_iff.mp H
       obtain ⟨⟨t291, t292, t293, t294, t295, t296, t299, t300⟩, A80, H⟩ := H
       replace H : (if x4_1 < (x3_1.length : Int) then (laws_toRecordS.l0 k1 l0 (x3_1.set (x4_1 : Int).toNat (⟨t291, t292, t293, t294, t295, t296, t299, t300⟩ : S61)) (wrap64 (x4_1 + 1))) else (none)) = some r := H
       have A8 := Aside0.mk A80
       clear A80
       by_cases c9 : x4_1 < (x3_1.length : Int)
       ·rw [if_pos c9] at H
        have c9b0 : decide (x4_1 < (x3_1.length : Int)) = true := decide_eq_true c9
        clear c9
        obtain ⟨y301, hy301⟩ : ∃ y_ : List (S61), y_ = (x3_1.set (x4_1 : Int).toNat (⟨t291, t292, t293, t294, t295, t296, t299, t300⟩ : S61)) := ⟨_, rfl⟩
        replace H : (laws_toRecordS.l0 k1 l0 y301 (wrap64 (x4_1 + 1))) = some r := by first | (rw [hy301]; with_reducible exact H) | (have H2_ := (Option.bind_some _ _).symm.trans H; rw [hy301]; with_reducible exact H2_) | (have H2_ := (Option.bind_some _ _).symm.trans H; with_reducible exact H2_) | with_reducible exact H | (rw [hy301]; exact H) | exact H
        have Ny301 := Aside0.mk hy301
        clear hy301
        have H' := Aside0.mk H
        clear H
        have p290 : 0 ≤ (x4_1 : Int) := of_decide_eq_true as_q
        have q290 : x4_1 < (l0.length : Int) := of_decide_eq_true as_q
        obtain ⟨ad290, A290_5, c290_5, e290, hx290_0, hx290_1, hx290_2, hx290_3, hx290_4, hx290_5, hx290_6, hx290_7, hl290_5, hi290_5⟩ := at_T57 HR0.out x4_1 p290 q290
        cases e290
        replace hx290_0 := (HB.out.cell (World.block_lt_of_cell? w _ hx290_0)).trans hx290_0
        replace hx290_1 := (HB.out.cell (World.block_lt_of_cell? w _ hx290_1)).trans hx290_1
        replace hx290_2 := (HB.out.cell (World.block_lt_of_cell? w _ hx290_2)).trans hx290_2
        replace hx290_3 := (HB.out.cell (World.block_lt_of_cell? w _ hx290_3)).trans hx290_3
        replace hx290_4 := (HB.out.cell (World.block_lt_of_cell? w _ hx290_4)).trans hx290_4
        replace hx290_5 := (HB.out.cell (World.block_lt_of_cell? w _ hx290_5)).trans hx290_5
        replace hx290_6 := (HB.out.cell (World.block_lt_of_cell? w _ hx290_6)).trans hx290_6
        replace hx290_7 := (HB.out.cell (World.block_lt_of_cell? w _ hx290_7)).trans hx290_7
        have HR290_5 := Aside0.mk hi290_5
        have HC290_5 := Aside0.mk hl290_5
        clear hi290_5 hl290_5
        replace p290 := eq_true p290
        replace q290 := eq_true q290
        go_wp2_with (first | ((with_reducible refine gate_callee (f := 36) rfl ?_); refine goesL_ (some 20) rfl rfl Try.func36 (by kernel_rfl) rfl #[.agg #[.int .i64 ((rd_T57 l0 x4_1).f0), .int .i64 ((rd_T57 l0 x4_1).f1), .int .i64 ((rd_T57 l0 x4_1).f2), .int .i64 ((rd_T57 l0 x4_1).f3), .int .i64 ((rd_T57 l0 x4_1).f4), .slice A290_5 ((rd_T57 l0 x4_1).f5).length c290_5, .int .i64 ((rd_T57 l0 x4_1).f6), .bool ((rd_T57 l0 x4_1).f7)]] rfl mp_q ?_; (with_reducible refine (laws_toRecord.calls k1 ((rd_T57 l0 x4_1).f0) ((rd_T57 l0 x4_1).f1) ((rd_T57 l0 x4_1).f2) ((rd_T57 l0 x4_1).f3) ((rd_T57 l0 x4_1).f4) _ _ ((rd_T57 l0 x4_1).f5) ((rd_T57 l0 x4_1).f6) ((rd_T57 l0 x4_1).f7) t291 t292 t293 t294 t295 t296 t299 t300 _ ?side1 ?side2 A8.out).mono ?_); (case side1 => exact cs_q (Kd.C_below HR290_5.out HB.out)); (case side2 => exact HC290_5.out); rintro e w11 ⟨v297, rfl, ho0, hb⟩; refine ⟨_, rfl, ?_⟩; have hs_v297 : (v297 : Value).oneCell' = true := (by first | (obtain ⟨A_, c_, e_⟩ := Kd.R_slice ho0; simp [e_, Value.oneCell']) | (obtain ⟨A_, c_, e_⟩ := Kd.S_slice ho0; simp [e_, Value.oneCell']) | (obtain ⟨A_, c_, e_⟩ := Kd.N_slice ho0; simp [e_, Value.oneCell']) | (obtain ⟨A_, c_, e_⟩ := Kd.V_slice ho0; simp [e_, Value.oneCell'])); have hst_v297 := fun (w_ : World) (a_ : Addr) m_ => run_store Try.prog w_ a_ v297 m_ hs_v297; replace HO_3 := Aside0.mk (Kd.S_elder' (kS_q HO_3) (Kd.R_base ho0) hb); have HO298 := Aside0.mk (Kd.R_lower ho0 (below_size (bw_q HB))); replace HB := Aside0.mk (below_step (bw_q HB) hb); (try clear hb); (try clear hb2); (try clear hk); (try clear hi); (try clear ho0); have p10 : 0 ≤ (x4_1 : Int) := of_decide_eq_true as_q; have q10 : (x4_1 : Int) < ((x3_1.length : Int) : Int) := of_decide_eq_true as_q; obtain ⟨go10, co10, eo10, gb10, gl10, cl10, HG10⟩ := Kd.S_form HO_3.out (by omega); (first | cases eo10 | (injection eo10 with ea_ en_ ec_; (first | subst ea_ | (injection ea_ with ea_; subst ea_)); subst ec_; clear en_)); have GB10 := Aside0.mk gb10; have GG10 := Aside0.mk HG10; clear gb10 gl10 HG10; obtain ⟨_, ce10, hcl10, hM10, hcc10, hfr10, _, _⟩ := Kd.S_elem HO_3.out z61 (x4_1 : Int) p10 q10; obtain ⟨ve10_5, rfl, ge10_5⟩ := k61_openM hM10; have hx10_0 : w11.cell? ⟨go10, (x4_1 : Int).toNat * 8, none⟩ = some (.int .i64 ((rd_T61 x3_1 x4_1).f0)) := hcc10 0 _ rfl; have hx10_1 : w11.cell? ⟨go10, (x4_1 : Int).toNat * 8 + 1, none⟩ = some (.int .i64 ((rd_T61 x3_1 x4_1).f1)) := hcc10 1 _ rfl; have hx10_2 : w11.cell? ⟨go10, (x4_1 : Int).toNat * 8 + 2, none⟩ = some (.int .i64 ((rd_T61 x3_1 x4_1).f2)) := hcc10 2 _ rfl; have hx10_3 : w11.cell? ⟨go10, (x4_1 : Int).toNat * 8 + 3, none⟩ = some (.int .i64 ((rd_T61 x3_1 x4_1).f3)) := hcc10 3 _ rfl; have hx10_4 : w11.cell? ⟨go10, (x4_1 : Int).toNat * 8 + 4, none⟩ = some (.int .i64 ((rd_T61 x3_1 x4_1).f4)) := hcc10 4 _ rfl; have hx10_5 : w11.cell? ⟨go10, (x4_1 : Int).toNat * 8 + 5, none⟩ = some (ve10_5) := hcc10 5 _ rfl; have hx10_6 : w11.cell? ⟨go10, (x4_1 : Int).toNat * 8 + 6, none⟩ = some (.int .i64 ((rd_T61 x3_1 x4_1).f6)) := hcc10 6 _ rfl; have hx10_7 : w11.cell? ⟨go10, (x4_1 : Int).toNat * 8 + 7, none⟩ = some (.bool ((rd_T61 x3_1 x4_1).f7)) := hcc10 7 _ rfl; have hf10_0 : w11.frozen? ⟨go10, (x4_1 : Int).toNat * 8, none⟩ = false := hfr10 0; have hf10_1 : w11.frozen? ⟨go10, (x4_1 : Int).toNat * 8 + 1, none⟩ = false := hfr10 1; have hf10_2 : w11.frozen? ⟨go10, (x4_1 : Int).toNat * 8 + 2, none⟩ = false := hfr10 2; have hf10_3 : w11.frozen? ⟨go10, (x4_1 : Int).toNat * 8 + 3, none⟩ = false := hfr10 3; have hf10_4 : w11.frozen? ⟨go10, (x4_1 : Int).toNat * 8 + 4, none⟩ = false := hfr10 4; have hf10_5 : w11.frozen? ⟨go10, (x4_1 : Int).toNat * 8 + 5, none⟩ = false := hfr10 5; have hf10_6 : w11.frozen? ⟨go10, (x4_1 : Int).toNat * 8 + 6, none⟩ = false := hfr10 6; have hf10_7 : w11.frozen? ⟨go10, (x4_1 : Int).toNat * 8 + 7, none⟩ = false := hfr10 7; clear hcl10 hcc10 hfr10 hM10; replace p10 := eq_true p10; replace q10 := eq_true q10; have n_ := Aside0.mk (Kd.S_mono (ok' := (fun k_ => some k_ ≠ (v297 : Value).ownBlock)) HO_3.out (fun k_ hk => hk.2)); clear HO_3; have HO_3 := n_; clear n_; have HX12 := Aside0.mk (show Kd.S k61 61 w11 w.heap.size (fun k_ => ((fun _ => True)) k_ ∧ ¬ ((fun k_ => some k_ = (v297 : Value).ownBlock)) k_) (.slice (some ⟨go10, 0, none⟩) x3_1.length co10) x3_1 from (by (with_reducible repeat (first | apply Kd.S_alloc | apply Kd.S_drewN | apply Kd.S_drew)); exact Kd.S_mono HO_3.out (fun k_ hk => ⟨trivial, fun e_ => hk e_⟩))); obtain ⟨oki12, ce12, hcl12, hM12, hcc12, hfr12, hoki12, hH12⟩ := Kd.S_elem HX12.out z61 (x4_1 : Int) (of_decide_eq_true as_q) (by have h_ : (x4_1 : Int) < ((x3_1.length : Int) : Int) := of_decide_eq_true as_q; first | exact h_ | (have e_ := (Kd.S_reads' HO_3.out).1; omega) | simpa using h_); obtain ⟨ve12_5, rfl, ge12_5⟩ := k61_openM hM12; have HP12 := Kd.S_seg hH12 (of_decide_eq_true as_q) (by have h_ : (x4_1 : Int) < ((x3_1.length : Int) : Int) := of_decide_eq_true as_q; first | exact h_ | (have e_ := (Kd.S_reads' HO_3.out).1; omega) | simpa using h_) (seg := [.int .i64 t291, .int .i64 t292, .int .i64 t293, .int .i64 t294, .int .i64 t295, v297, .int .i64 t299, .bool t300]) (j := 0) (show 8 ≤ 8 from by decide) (x' := (⟨t291, t292, t293, t294, t295, t296, t299, t300⟩ : S61)) (k61_mkM _ _ _ (⟨t291, t292, t293, t294, t295, t296, t299, t300⟩ : S61) (Kd.R_mono (Kd.R_tight rfl (Kd.R_mono (ok' := fun k_ => ((fun _ => True)) k_ ∧ k_ ≠ go10) (Kd.R_apart' (HO298.out) (Kd.S_typed HO_3.out) (by decide)) (fun k_ hk => ⟨trivial, fun e_ => (hk.2) (by rw [e_]; rfl)⟩))) (fun _ h_ => Or.inr (h_)))) (fun _ hk => hk) (fun k_ hk_ => ((Kd.R_mono (ok' := fun k_ => ((fun _ => True)) k_ ∧ k_ ≠ go10) (Kd.R_apart' (HO298.out) (Kd.S_typed HO_3.out) (by decide)) (fun k_ hk => ⟨trivial, fun e_ => (hk.2) (by rw [e_]; rfl)⟩))).1 k_ hk_.symm); have hx12_0 := hcc12 0 _ rfl; (try simp only [show (k61).sz = 8 from rfl, Nat.mul_one, Nat.add_zero] at hx12_0); have hf12_0 := hfr12 0; (try simp only [show (k61).sz = 8 from rfl, Nat.mul_one, Nat.add_zero] at hf12_0); have hx12_1 := hcc12 1 _ rfl; (try simp only [show (k61).sz = 8 from rfl, Nat.mul_one, Nat.add_zero] at hx12_1); have hf12_1 := hfr12 1; (try simp only [show (k61).sz = 8 from rfl, Nat.mul_one, Nat.add_zero] at hf12_1); have hx12_2 := hcc12 2 _ rfl; (try simp only [show (k61).sz = 8 from rfl, Nat.mul_one, Nat.add_zero] at hx12_2); have hf12_2 := hfr12 2; (try simp only [show (k61).sz = 8 from rfl, Nat.mul_one, Nat.add_zero] at hf12_2); have hx12_3 := hcc12 3 _ rfl; (try simp only [show (k61).sz = 8 from rfl, Nat.mul_one, Nat.add_zero] at hx12_3); have hf12_3 := hfr12 3; (try simp only [show (k61).sz = 8 from rfl, Nat.mul_one, Nat.add_zero] at hf12_3); have hx12_4 := hcc12 4 _ rfl; (try simp only [show (k61).sz = 8 from rfl, Nat.mul_one, Nat.add_zero] at hx12_4); have hf12_4 := hfr12 4; (try simp only [show (k61).sz = 8 from rfl, Nat.mul_one, Nat.add_zero] at hf12_4); have hx12_5 := hcc12 5 _ rfl; (try simp only [show (k61).sz = 8 from rfl, Nat.mul_one, Nat.add_zero] at hx12_5); have hf12_5 := hfr12 5; (try simp only [show (k61).sz = 8 from rfl, Nat.mul_one, Nat.add_zero] at hf12_5); have hx12_6 := hcc12 6 _ rfl; (try simp only [show (k61).sz = 8 from rfl, Nat.mul_one, Nat.add_zero] at hx12_6); have hf12_6 := hfr12 6; (try simp only [show (k61).sz = 8 from rfl, Nat.mul_one, Nat.add_zero] at hf12_6); have hx12_7 := hcc12 7 _ rfl; (try simp only [show (k61).sz = 8 from rfl, Nat.mul_one, Nat.add_zero] at hx12_7); have hf12_7 := hfr12 7; (try simp only [show (k61).sz = 8 from rfl, Nat.mul_one, Nat.add_zero] at hf12_7); clear hcl12 hcc12 hfr12 hM12 hoki12 hH12) | ((with_reducible refine gate_store (t := 61) (p := 21) rfl ?_); refine store_event (t := 61) (p := 21) (v := ?vo_w13) (w1 := ((((((((w11.setCell ⟨go10, (x4_1 : Int).toNat * 8, none⟩ (.int .i64 t291)).setCell ⟨go10, (x4_1 : Int).toNat * 8 + 1, none⟩ (.int .i64 t292)).setCell ⟨go10, (x4_1 : Int).toNat * 8 + 2, none⟩ (.int .i64 t293)).setCell ⟨go10, (x4_1 : Int).toNat * 8 + 3, none⟩ (.int .i64 t294)).setCell ⟨go10, (x4_1 : Int).toNat * 8 + 4, none⟩ (.int .i64 t295)).setCell ⟨go10, (x4_1 : Int).toNat * 8 + 5, none⟩ (v297)).setCell ⟨go10, (x4_1 : Int).toNat * 8 + 6, none⟩ (.int .i64 t299)).setCell ⟨go10, (x4_1 : Int).toNat * 8 + 7, none⟩ (.bool t300))) ?hg ?ho ?hn ?hr ?_; (case ho => rfl); (case hg => rfl); (case hn => rfl); (case hr => first | (go_simp; done) | (go_simp; rfl)); intro w13 hw; have hg : w11.grownBy w13 (some go10) := (by rw [hw]; exact HP12.2); have hp_ : Kd.S k61 61 w13 w.heap.size (fun _ => True) (.slice (some ⟨go10, 0, none⟩) x3_1.length co10) y301 := (by rw [hw, Ny301.out]; exact HP12.1); clear HP12; replace HO_3 := Aside0.mk (hp_); replace HB := Aside0.mk ((by rw [hw]; exact below_set (below_set (below_set (below_set (below_set (below_set (below_set (below_set (HB.out) GB10.out) GB10.out) GB10.out) GB10.out) GB10.out) GB10.out) GB10.out) GB10.out : Below w.heap.size w w13)); clear HO298; clear hg hw hp_))
        go_roundg k1
        case measure => have := HK1.out; omega
        case rel => exact ⟨(y301), (wrap64 (x4_1 + 1)), (by first | rfl | (simp; done) | (simp [*]; done)), H', ⟨by have := HK1.out; omega⟩, ⟨by (with_reducible repeat (first | apply Kd.S_alloc | apply Kd.S_drewN | apply Kd.S_drew)); exact HO_3.out⟩, ⟨bw_q HB⟩⟩
       ·rw [if_neg c9] at H
        exact absurd H (by simp)
      ·rw [if_neg c7] at H
       exact absurd H (by simp)
     ·rw [if_neg c6] at H
      have c6b0 : decide (x4_1 < (l0.length : Int)) = false := decide_eq_false c6
      clear c6
      obtain rfl := Option.some.inj H
      go_wp2
      go_ret
      exact ⟨_, er_q, by (with_reducible repeat (first | apply Kd.S_alloc | apply Kd.S_drewN | apply Kd.S_drew)); exact HO_3.out, bw_q HB⟩
  ·rw [if_neg c3] at H
   exact absurd H (by simp)
 ·rw [if_neg c2] at H
  exact absurd H (by simp)

end Go.Proofs.Ythjmdiggglkeaaa.Q

/- A Go function as a Lean function, and its contract: for every input the Go code comes to what the Lean function tells. -/

namespace Go.Proofs.Ythjmdiggglkeaaa.Q
open Go.RowKit Go.Proofs.YthjmdiggglkeaaaW.PrintWords Go.Proofs.YthjmdiggglkeaaaW.PrintLast Go.Proofs.YthjmdiggglkeaaaW.PrintMore
attribute [local go_sem] max2_int min2_int max_two min_two max_three min_three max_four min_four   -- for this text's walks alone
set_option linter.unusedVariables false
set_option linter.unusedSimpArgs false

/-! ### laws_toIntS: function 89 -/
def laws_toIntS.l0 : Nat → List Int → List Int → Int → Option (List Int)
 | 0, _, _, _ => none
 | k + 1, x0, x3, x4 => if x4 < (x0.length : Int) then (if 0 ≤ x4 then (if x4 < (x3.length : Int) then (laws_toIntS.l0 k x0 (x3.set (x4 : Int).toNat (rd x0 x4)) (wrap64 (x4 + 1))) else (none)) else (none)) else (some x3)
def laws_toIntS.f (k : Nat) (l0 : List Int) : Option (List Int) := if 0 ≤ (l0.length : Int) then (if ((l0.length : Int) : Int).toNat ≤ 35184372088832 then (laws_toIntS.l0 k l0 (List.replicate ((l0.length : Int) : Int).toNat 0) 0) else (none)) else (none)
theorem laws_toIntS.mono_l : ∀ k, (∀ y0 y1 y2, LeO (laws_toIntS.l0 k y0 y1 y2) (laws_toIntS.l0 (k + 1) y0 y1 y2))
 | 0 => fun _ _ _ r h => by simp [laws_toIntS.l0] at h
 | k + 1 => by
  have ih0 := laws_toIntS.mono_l k
  ·intro y0 y1 y2
   unfold laws_toIntS.l0
   repeat' first
   | (with_reducible exact ih0 _ _ _)
   | (with_reducible exact LeO.refl _)
   | (with_reducible exact LeO.none _)
   | (with_reducible refine LeO.ite ?_ ?_)
   | (with_reducible refine LeO.bind ?_ (fun _ => ?_))
   | exact ih0 _ _ _
   | exact LeO.none _
   | refine LeO.ite ?_ ?_
   | refine LeO.bind ?_ (fun _ => ?_)
theorem laws_toIntS.mono : ∀ a0 k, LeO (laws_toIntS.f k a0) (laws_toIntS.f (k + 1) a0) := by
 intro a0 k
 have ih0 := laws_toIntS.mono_l k
 unfold laws_toIntS.f
 repeat' first
   | (with_reducible exact ih0 _ _ _)
   | (with_reducible exact LeO.refl _)
   | (with_reducible exact LeO.none _)
   | (with_reducible refine LeO.ite ?_ ?_)
   | (with_reducible refine LeO.bind ?_ (fun _ => ?_))
   | exact ih0 _ _ _
   | exact LeO.none _
   | refine LeO.ite ?_ ?_
   | refine LeO.bind ?_ (fun _ => ?_)
set_option maxHeartbeats 8000000 in
set_option maxRecDepth 100000 in
theorem laws_toIntS.calls (k : Nat) (A0 : Option Addr) (c0 : Nat) (l0 : List Int) (r : List Int) (w : World) (hr0 : Kd.C (Kd.int .i64) w A0 l0.length l0) (hc0 : l0.length ≤ c0) (h : laws_toIntS.f k l0 = some r) :
  Calls Try.prog 89 #[.slice A0 l0.length c0] w fun e w' => ∃ v0_ : Value, e = .returned (v0_) ∧ Kd.R (Kd.int .i64) 3 w' w.heap.size (fun _ => True) v0_ r ∧ Below w.heap.size w w' := by
 have HR0 := Aside0.mk hr0
 have HC0 := Aside0.mk hc0
 clear hr0 hc0
 have HB := Aside0.mk (Below.refl w.heap.size w)
 have H : (if 0 ≤ (l0.length : Int) then (if ((l0.length : Int) : Int).toNat ≤ 35184372088832 then (laws_toIntS.l0 k l0 (List.replicate ((l0.length : Int) : Int).toNat 0) 0) else (none)) else (none)) = some r := h
 clear h
 by_cases c2 : 0 ≤ (l0.length : Int)
 ·rw [if_pos c2] at H
  have c2b0 := eq_true c2
  have c2b1 : decide (0 ≤ (l0.length : Int)) = true := decide_eq_true c2
  clear c2
  by_cases c3 : ((l0.length : Int) : Int).toNat ≤ 35184372088832
  ·rw [if_pos c3] at H
   have c3b0 := eq_true c3
   have c3b1 : decide (((l0.length : Int) : Int).toNat ≤ 35184372088832) = true := decide_eq_true c3
   clear c3
   obtain ⟨y302, hy302⟩ : ∃ y_ : List Int, y_ = (List.replicate ((l0.length : Int) : Int).toNat 0) := ⟨_, rfl⟩
   replace H : (laws_toIntS.l0 k l0 y302 0) = some r := by first | (rw [hy302]; with_reducible exact H) | (have H2_ := (Option.bind_some _ _).symm.trans H; rw [hy302]; with_reducible exact H2_) | (have H2_ := (Option.bind_some _ _).symm.trans H; with_reducible exact H2_) | with_reducible exact H | (rw [hy302]; exact H) | exact H
   have Ny302 := Aside0.mk hy302
   clear hy302
   have H' := Aside0.mk H
   clear H
   go_enter Try.func89, Try.ntmps89
   go_wp2_with (first | ((with_reducible refine gate_dst (N := 7) rfl ?_); refine Kd.R_make (Kd.int .i64) _ 3 rfl (N := 7) rfl 35 _ _ rfl (l0.length : Int) rfl rfl Try.underlying35 (.int .i64 0) 8 info3 rfl (by decide) (by omega) 0 (ok := fun _ => True) (okp := fun _ => True) rfl (fun _ hk => hk) trivial (of_decide_eq_true as_q) (Nat.le_trans (Nat.mul_le_mul_right _ (of_decide_eq_true as_q : (l0.length : Int).toNat ≤ 35184372088832)) (by omega)) (Below.refl _ _) (Nat.le_refl _) ?_; intro v303 w4 ho5 hb hg_ hnew_; clear hg_ hnew_; (first | rw [← Ny302.out] at ho5 | (simp only [Int.reduceToNat] at ho5; rw [← Ny302.out] at ho5)); have HO304 := Aside0.mk (Kd.R_lower ho5 (below_size (bw_q HB))); replace HB := Aside0.mk (below_step (bw_q HB) hb); clear hb ho5))
   go_loopg [4] k (fun kq v4 w' => ∃ (x3_1 : List Int) (x4_1 : Int), v4 = .int .i64 x4_1 ∧ Aside0 (laws_toIntS.l0 kq l0 x3_1 x4_1 = some r) ∧ Aside0 (kq ≤ k) ∧ Aside0 (Kd.R (Kd.int .i64) 3 w' w.heap.size (fun _ => True) v303 x3_1) ∧ Aside0 (Below w.heap.size w w'))
   case atStart => exact ⟨(y302), (0), (by first | rfl | (simp; done) | (simp [*]; done)), H', ⟨Nat.le_refl _⟩, ⟨by (with_reducible repeat (first | apply Kd.R_alloc | apply Kd.R_drewN | apply Kd.R_drew)); exact HO304.out⟩, ⟨bw_q HB⟩⟩
   case round =>
    clear H'
    try clear c2
    try clear c2b0
    try clear c2b1
    try clear p2
    try clear c3
    try clear c3b0
    try clear c3b1
    obtain ⟨x3_1, x4_1, rfl, HA, HK1, HO_3, HB⟩ := hrel
    cases gk with
    | zero => exact absurd HA.out (by simp [laws_toIntS.l0])
    | succ k1 =>
     have H := HA.out
     clear HA
     simp only [laws_toIntS.l0] at H
     by_cases c6 : x4_1 < (l0.length : Int)
     ·rw [if_pos c6] at H
      have c6b0 : decide (x4_1 < (l0.length : Int)) = true := decide_eq_true c6
      clear c6
      by_cases c7 : 0 ≤ x4_1
      ·rw [if_pos c7] at H
       have c7b0 : decide (0 ≤ x4_1) = true := decide_eq_true c7
       clear c7
       by_cases c8 : x4_1 < (x3_1.length : Int)
       ·rw [if_pos c8] at H
        have c8b0 : decide (x4_1 < (x3_1.length : Int)) = true := decide_eq_true c8
        clear c8
        obtain ⟨y306, hy306⟩ : ∃ y_ : List Int, y_ = (x3_1.set (x4_1 : Int).toNat (rd l0 x4_1)) := ⟨_, rfl⟩
        replace H : (laws_toIntS.l0 k1 l0 y306 (wrap64 (x4_1 + 1))) = some r := by first | (rw [hy306]; with_reducible exact H) | (have H2_ := (Option.bind_some _ _).symm.trans H; rw [hy306]; with_reducible exact H2_) | (have H2_ := (Option.bind_some _ _).symm.trans H; with_reducible exact H2_) | with_reducible exact H | (rw [hy306]; exact H) | exact H
        have Ny306 := Aside0.mk hy306
        clear hy306
        have H' := Aside0.mk H
        clear H
        have p305 : 0 ≤ (x4_1 : Int) := of_decide_eq_true as_q
        have q305 : x4_1 < (l0.length : Int) := of_decide_eq_true as_q
        obtain ⟨ad305, e305, hx305_0⟩ := Kd.at_int HR0.out x4_1 p305 q305
        cases e305
        replace hx305_0 := (HB.out.cell (World.block_lt_of_cell? w _ hx305_0)).trans hx305_0
        replace p305 := eq_true p305
        replace q305 := eq_true q305
        have p9 : 0 ≤ (x4_1 : Int) := of_decide_eq_true as_q
        have q9 : (x4_1 : Int) < ((x3_1.length : Int) : Int) := of_decide_eq_true as_q
        obtain ⟨go9, co9, eo9, gb9, gl9, cl9, HG9⟩ := Kd.R_form HO_3.out (by omega)
        (first | cases eo9 | (injection eo9 with ea_ en_ ec_; (first | subst ea_ | (injection ea_ with ea_; subst ea_)); subst ec_; clear en_))
        have GB9 := Aside0.mk gb9
        have GG9 := Aside0.mk HG9
        clear gb9 gl9 HG9
        obtain ⟨hx9_0, hf9_0⟩ := Kd.R_celln 0 HO_3.out (x4_1 : Int) p9 q9
        replace p9 := eq_true p9
        replace q9 := eq_true q9
        have HP10 := Kd.R_putg HO_3.out (x4_1 : Int) (rd l0 x4_1)
        go_wp2_with (first | ((with_reducible refine gate_store (t := 3) (p := 20) rfl ?_); refine store_event (t := 3) (p := 20) (v := ?vo_w11) (w1 := (wr.setCell ⟨go9, (x4_1 : Int).toNat, none⟩ (.int .i64 (rd l0 x4_1)))) ?hg ?ho ?hn ?hr ?_; (case ho => rfl); (case hg => rfl); (case hn => rfl); (case hr => first | (go_simp; done) | (go_simp; rfl)); intro w11 hw; have hg : wr.grownBy w11 (some go9) := (by rw [hw]; exact HP10.2); have hp_ : Kd.R (Kd.int .i64) 3 w11 w.heap.size (fun _ => True) (.slice (some ⟨go9, 0, none⟩) x3_1.length co9) y306 := (by rw [hw, Ny306.out]; exact HP10.1); clear HP10; replace HO_3 := Aside0.mk (hp_); replace HB := Aside0.mk ((by rw [hw]; exact below_set (HB.out) GB9.out : Below w.heap.size w w11)); clear hg hw hp_))
        go_roundg k1
        case measure => have := HK1.out; omega
        case rel => exact ⟨(y306), (wrap64 (x4_1 + 1)), (by first | rfl | (simp; done) | (simp [*]; done)), H', ⟨by have := HK1.out; omega⟩, ⟨by (with_reducible repeat (first | apply Kd.R_alloc | apply Kd.R_drewN | apply Kd.R_drew)); exact HO_3.out⟩, ⟨bw_q HB⟩⟩
       ·rw [if_neg c8] at H
        exact absurd H (by simp)
      ·rw [if_neg c7] at H
       exact absurd H (by simp)
     ·rw [if_neg c6] at H
      have c6b0 : decide (x4_1 < (l0.length : Int)) = false := decide_eq_false c6
      clear c6
      obtain rfl := Option.some.inj H
      go_wp2
      go_ret
      exact ⟨_, er_q, by (with_reducible repeat (first | apply Kd.R_alloc | apply Kd.R_drewN | apply Kd.R_drew)); exact HO_3.out, bw_q HB⟩
  ·rw [if_neg c3] at H
   exact absurd H (by simp)
 ·rw [if_neg c2] at H
  exact absurd H (by simp)

end Go.Proofs.Ythjmdiggglkeaaa.Q

/- A Go function as a Lean function, and its contract: for every input the Go code comes to what the Lean function tells. -/




namespace Go.Proofs.Ythjmdiggglkeaaa.Q
open Go.RowKit Go.Proofs.YthjmdiggglkeaaaW.PrintWords Go.Proofs.YthjmdiggglkeaaaW.PrintLast Go.Proofs.YthjmdiggglkeaaaW.PrintMore
attribute [local go_sem] max2_int min2_int max_two min_two max_three min_three max_four min_four   -- for this text's walks alone
set_option linter.unusedVariables false
set_option linter.unusedSimpArgs false

/-! ### laws_toSelf: function 22 -/
def laws_toSelf.f (k : Nat) (a0_0 : Int) (a0_1 : Int) (a0_2 : Int) (l0_3 : List (S134)) (l0_4 : List (S136)) (l0_5 : List Int) (l0_6 : List (S57)) : Option (Int × Int × Int × (List (S93)) × (List (S102)) × List Int × (List (S61))) := (laws_toNet.f k a0_2 l0_3 l0_4).bind fun bt310 => ((laws_toIntS.f k l0_5).bind fun t317 => ((laws_toRecordS.f k l0_6).bind fun t320 => (some (a0_0, a0_1, bt310.1, bt310.2.1, bt310.2.2, t317, t320))))
theorem laws_toSelf.mono : ∀ a0 a1 a2 a3 a4 a5 a6 k, LeO (laws_toSelf.f k a0 a1 a2 a3 a4 a5 a6) (laws_toSelf.f (k + 1) a0 a1 a2 a3 a4 a5 a6) := by
 intro a0 a1 a2 a3 a4 a5 a6 k
 unfold laws_toSelf.f
 repeat' first
   | (with_reducible exact laws_toIntS.mono _ _)
   | (with_reducible exact laws_toNet.mono _ _ _ _)
   | (with_reducible exact laws_toRecordS.mono _ _)
   | (with_reducible exact LeO.refl _)
   | (with_reducible exact LeO.none _)
   | (with_reducible refine LeO.ite ?_ ?_)
   | (with_reducible refine LeO.bind ?_ (fun _ => ?_))
   | exact laws_toIntS.mono _ _
   | exact laws_toNet.mono _ _ _ _
   | exact laws_toRecordS.mono _ _
   | exact LeO.none _
   | refine LeO.ite ?_ ?_
   | refine LeO.bind ?_ (fun _ => ?_)
set_option maxHeartbeats 8000000 in
set_option maxRecDepth 100000 in
theorem laws_toSelf.calls (k : Nat) (a0_0 : Int) (a0_1 : Int) (a0_2 : Int) (A0_3 : Option Addr) (c0_3 : Nat) (l0_3 : List (S134)) (A0_4 : Option Addr) (c0_4 : Nat) (l0_4 : List (S136)) (A0_5 : Option Addr) (c0_5 : Nat) (l0_5 : List Int) (A0_6 : Option Addr) (c0_6 : Nat) (l0_6 : List (S57)) (r1 : Int) (r2 : Int) (r3 : Int) (r4 : List (S93)) (r5 : List (S102)) (r6 : List Int) (r7 : List (S61)) (w : World) (hr0_3 : Kd.C k134 w A0_3 l0_3.length l0_3) (hc0_3 : l0_3.length ≤ c0_3) (hr0_4 : Kd.C k136 w A0_4 l0_4.length l0_4) (hc0_4 : l0_4.length ≤ c0_4) (hr0_5 : Kd.C (Kd.int .i64) w A0_5 l0_5.length l0_5) (hc0_5 : l0_5.length ≤ c0_5) (hr0_6 : Kd.C k57 w A0_6 l0_6.length l0_6) (hc0_6 : l0_6.length ≤ c0_6) (h : laws_toSelf.f k a0_0 a0_1 a0_2 l0_3 l0_4 l0_5 l0_6 = some (r1, r2, r3, r4, r5, r6, r7)) :
  Calls Try.prog 22 #[.agg #[.int .i64 a0_0, .int .i64 a0_1, .int .i64 a0_2, .slice A0_3 l0_3.length c0_3, .slice A0_4 l0_4.length c0_4, .slice A0_5 l0_5.length c0_5, .slice A0_6 l0_6.length c0_6]] w fun e w' => ∃ v3_ v4_ v5_ v6_ : Value, e = .returned (.agg #[.int .i64 r1, .int .i64 r2, .int .i64 r3, v3_, v4_, v5_, v6_]) ∧ Kd.R k93 93 w' w.heap.size (fun _ => True) v3_ r4 ∧ Kd.R k102 102 w' w.heap.size (fun _ => True) v4_ r5 ∧ Kd.R (Kd.int .i64) 3 w' w.heap.size (fun _ => True) v5_ r6 ∧ Kd.S k61 61 w' w.heap.size (fun _ => True) v6_ r7 ∧ Below w.heap.size w w' := by
 have hu38 := Try.underlying38
 have hu43 := Try.underlying43
 have hu25 := Try.underlying25
 have hu31 := Try.underlying31
 have HR0_3 := Aside0.mk hr0_3
 have HC0_3 := Aside0.mk hc0_3
 clear hr0_3 hc0_3
 have HR0_4 := Aside0.mk hr0_4
 have HC0_4 := Aside0.mk hc0_4
 clear hr0_4 hc0_4
 have HR0_5 := Aside0.mk hr0_5
 have HC0_5 := Aside0.mk hc0_5
 clear hr0_5 hc0_5
 have HR0_6 := Aside0.mk hr0_6
 have HC0_6 := Aside0.mk hc0_6
 clear hr0_6 hc0_6
 have HB := Aside0.mk (Below.refl w.heap.size w)
 have H : ((laws_toNet.f k a0_2 l0_3 l0_4).bind fun bt310 => ((laws_toIntS.f k l0_5).bind fun t317 => ((laws_toRecordS.f k l0_6).bind fun t320 => (some (a0_0, a0_1, bt310.1, bt310.2.1, bt310.2.2, t317, t320))))) = some (r1, r2, r3, r4, r5, r6, r7) := h
 clear h
 replace H := Option.bind_eq_some_iff.mp H
 obtain ⟨⟨t310, t311, t314⟩, A20, H⟩ := H
 replace H : ((laws_toIntS.f k l0_5).bind fun t317 => ((laws_toRecordS.f k l0_6).bind fun t320 => (some (a0_0, a0_1, t310, t311, t314, t317, t320)))) = some (r1, r2, r3, r4, r5, r6, r7) := H
 have A2 := Aside0.mk A20
 clear A20
 replace H := Option.bind_eq_some_iff.mp H
 obtain ⟨t317, A30, H⟩ := H
 replace H : ((laws_toRecordS.f k l0_6).bind fun t320 => (some (a0_0, a0_1, t310, t311, t314, t317, t320))) = some (r1, r2, r3, r4, r5, r6, r7) := H
 have A3 := Aside0.mk A30
 clear A30
 replace H := Option.bind_eq_some_iff.mp H
 obtain ⟨t320, A40, H⟩ := H
 replace H : (some (a0_0, a0_1, t310, t311, t314, t317, t320)) = some (r1, r2, r3, r4, r5, r6, r7) := H
 have A4 := Aside0.mk A40
 clear A40
 simp only [Option.some.injEq, Prod.mk.injEq] at H
 obtain ⟨rfl, rfl, rfl, rfl, rfl, rfl, rfl⟩ := H
 go_enter Try.func22, Try.ntmps22
 go_wp2_with (first | ((with_reducible refine gate_dst (N := 1) rfl ?_); refine box_q 1 #[.int .i64 a0_0, .int .i64 a0_1, .int .i64 a0_2, .slice A0_3 l0_3.length c0_3, .slice A0_4 l0_4.length c0_4, .slice A0_5 l0_5.length c0_5, .slice A0_6 l0_6.length c0_6] 38 ?_; intro gb307 hg w5 hbox hb; have BK307 := Aside0.mk (hbox); have GW307 := Aside0.mk ((by rw [hg]; exact (below_size (bw_q HB)) : w.heap.size ≤ gb307)); have GE307 := Aside0.mk ((by rw [hg]; exact (below_size (bw_q HB)) : w.heap.size ≤ gb307)); replace HB := Aside0.mk (below_step (bw_q HB) hb); clear hb hbox hg) | ((with_reducible refine gate_dst (N := 2) rfl ?_); refine box_q 2 #[.int .i64 0, .int .i64 0, .int .i64 0, .slice none 0 0, .slice none 0 0, .slice none 0 0, .slice none 0 0] 43 ?_; intro gb308 hg w6 hbox hb; have BK308 := Aside0.mk (hbox); have GW308 := Aside0.mk ((by rw [hg]; exact (below_size (bw_q HB)) : w.heap.size ≤ gb308)); have GE308 := Aside0.mk ((by rw [hg]; exact (below_size (bw_q HB)) : w.heap.size ≤ gb308)); replace HB := Aside0.mk (below_step (bw_q HB) hb); have NB307_308 := Aside0.mk ((by rw [hg]; exact Nat.ne_of_lt (blk_lt (g := gb307) (o := .cells #[.int .i64 a0_0, .int .i64 a0_1, .int .i64 a0_2, .slice A0_3 l0_3.length c0_3, .slice A0_4 l0_4.length c0_4, .slice A0_5 l0_5.length c0_5, .slice A0_6 l0_6.length c0_6] 38 (0, 0)) (bk_q BK307)) : gb307 ≠ gb308)); have NB308_307 := Aside0.mk ((by rw [hg]; exact Nat.ne_of_gt (blk_lt (g := gb307) (o := .cells #[.int .i64 a0_0, .int .i64 a0_1, .int .i64 a0_2, .slice A0_3 l0_3.length c0_3, .slice A0_4 l0_4.length c0_4, .slice A0_5 l0_5.length c0_5, .slice A0_6 l0_6.length c0_6] 38 (0, 0)) (bk_q BK307)) : gb308 ≠ gb307)); replace BK307 := Aside0.mk (blk_below (g := gb307) (bk_q BK307) hb); clear hb hbox hg) | ((with_reducible refine gate_dst (N := 3) rfl ?_); refine box_q 3 #[.int .i64 0, .int .i64 0, .int .i64 0, .slice none 0 0, .slice none 0 0, .slice none 0 0, .slice none 0 0] 43 ?_; intro gb309 hg w7 hbox hb; have BK309 := Aside0.mk (hbox); have GW309 := Aside0.mk ((by rw [hg]; exact (below_size (bw_q HB)) : w.heap.size ≤ gb309)); have GE309 := Aside0.mk ((by rw [hg]; exact (below_size (bw_q HB)) : w.heap.size ≤ gb309)); replace HB := Aside0.mk (below_step (bw_q HB) hb); have NB307_309 := Aside0.mk ((by rw [hg]; exact Nat.ne_of_lt (blk_lt (g := gb307) (o := .cells #[.int .i64 a0_0, .int .i64 a0_1, .int .i64 a0_2, .slice A0_3 l0_3.length c0_3, .slice A0_4 l0_4.length c0_4, .slice A0_5 l0_5.length c0_5, .slice A0_6 l0_6.length c0_6] 38 (0, 0)) (bk_q BK307)) : gb307 ≠ gb309)); have NB309_307 := Aside0.mk ((by rw [hg]; exact Nat.ne_of_gt (blk_lt (g := gb307) (o := .cells #[.int .i64 a0_0, .int .i64 a0_1, .int .i64 a0_2, .slice A0_3 l0_3.length c0_3, .slice A0_4 l0_4.length c0_4, .slice A0_5 l0_5.length c0_5, .slice A0_6 l0_6.length c0_6] 38 (0, 0)) (bk_q BK307)) : gb309 ≠ gb307)); replace BK307 := Aside0.mk (blk_below (g := gb307) (bk_q BK307) hb); have NB308_309 := Aside0.mk ((by rw [hg]; exact Nat.ne_of_lt (blk_lt (g := gb308) (o := .cells #[.int .i64 0, .int .i64 0, .int .i64 0, .slice none 0 0, .slice none 0 0, .slice none 0 0, .slice none 0 0] 43 (0, 0)) (bk_q BK308)) : gb308 ≠ gb309)); have NB309_308 := Aside0.mk ((by rw [hg]; exact Nat.ne_of_gt (blk_lt (g := gb308) (o := .cells #[.int .i64 0, .int .i64 0, .int .i64 0, .slice none 0 0, .slice none 0 0, .slice none 0 0, .slice none 0 0] 43 (0, 0)) (bk_q BK308)) : gb309 ≠ gb308)); replace BK308 := Aside0.mk (blk_below (g := gb308) (bk_q BK308) hb); clear hb hbox hg; have hnb8 := NB307_308.out; have hnc8 := NB308_307.out; have hnb9 := NB307_309.out; have hnc9 := NB309_307.out; have hcz10_0 : w7.cell? ⟨gb307, 0, none⟩ = some (.int .i64 a0_0) := (blk_cell BK307.out 0).trans rfl; have hcz10_1 : w7.cell? ⟨gb307, 1, none⟩ = some (.int .i64 a0_1) := (blk_cell BK307.out 1).trans rfl; have hcz10_2 : w7.cell? ⟨gb307, 2, none⟩ = some (.int .i64 a0_2) := (blk_cell BK307.out 2).trans rfl; have hcz10_3 : w7.cell? ⟨gb307, 3, none⟩ = some (.slice A0_3 l0_3.length c0_3) := (blk_cell BK307.out 3).trans rfl; have hcz10_4 : w7.cell? ⟨gb307, 4, none⟩ = some (.slice A0_4 l0_4.length c0_4) := (blk_cell BK307.out 4).trans rfl; have hcz10_5 : w7.cell? ⟨gb307, 5, none⟩ = some (.slice A0_5 l0_5.length c0_5) := (blk_cell BK307.out 5).trans rfl; have hcz10_6 : w7.cell? ⟨gb307, 6, none⟩ = some (.slice A0_6 l0_6.length c0_6) := (blk_cell BK307.out 6).trans rfl; have hfz10_0 := blk_frozen BK307.out 0; have hfz10_1 := blk_frozen BK307.out 1; have hfz10_2 := blk_frozen BK307.out 2; have hfz10_3 := blk_frozen BK307.out 3; have hfz10_4 := blk_frozen BK307.out 4; have hfz10_5 := blk_frozen BK307.out 5; have hfz10_6 := blk_frozen BK307.out 6; have hnb11 := NB309_308.out; have hnc11 := NB308_309.out; have hcz12_0 : w7.cell? ⟨gb309, 0, none⟩ = some (.int .i64 0) := (blk_cell BK309.out 0).trans rfl; have hcz12_1 : w7.cell? ⟨gb309, 1, none⟩ = some (.int .i64 0) := (blk_cell BK309.out 1).trans rfl; have hcz12_2 : w7.cell? ⟨gb309, 2, none⟩ = some (.int .i64 0) := (blk_cell BK309.out 2).trans rfl; have hcz12_3 : w7.cell? ⟨gb309, 3, none⟩ = some (.slice none 0 0) := (blk_cell BK309.out 3).trans rfl; have hcz12_4 : w7.cell? ⟨gb309, 4, none⟩ = some (.slice none 0 0) := (blk_cell BK309.out 4).trans rfl; have hcz12_5 : w7.cell? ⟨gb309, 5, none⟩ = some (.slice none 0 0) := (blk_cell BK309.out 5).trans rfl; have hcz12_6 : w7.cell? ⟨gb309, 6, none⟩ = some (.slice none 0 0) := (blk_cell BK309.out 6).trans rfl; have hfz12_0 := blk_frozen BK309.out 0; have hfz12_1 := blk_frozen BK309.out 1; have hfz12_2 := blk_frozen BK309.out 2; have hfz12_3 := blk_frozen BK309.out 3; have hfz12_4 := blk_frozen BK309.out 4; have hfz12_5 := blk_frozen BK309.out 5; have hfz12_6 := blk_frozen BK309.out 6) | ((with_reducible refine gate_callee (f := 17) rfl ?_); refine goesL_ (some 12) rfl rfl Try.func17 (by kernel_rfl) rfl #[.agg #[.int .i64 a0_2, .slice A0_3 l0_3.length c0_3, .slice A0_4 l0_4.length c0_4]] rfl mp_q ?_; (with_reducible refine (laws_toNet.calls k a0_2 _ _ l0_3 _ _ l0_4 t310 t311 t314 _ ?side1 ?side2 ?side3 ?side4 A2.out).mono ?_); (case side1 => exact Kd.C_below HR0_3.out (bw_q HB)); (case side2 => exact HC0_3.out); (case side3 => exact Kd.C_below HR0_4.out (bw_q HB)); (case side4 => exact HC0_4.out); rintro e w13 ⟨v312, v315, rfl, ho0, ho1, hb⟩; refine ⟨_, rfl, ?_⟩; have hs_v312 : (v312 : Value).oneCell' = true := (by first | (obtain ⟨A_, c_, e_⟩ := Kd.R_slice ho0; simp [e_, Value.oneCell']) | (obtain ⟨A_, c_, e_⟩ := Kd.S_slice ho0; simp [e_, Value.oneCell']) | (obtain ⟨A_, c_, e_⟩ := Kd.N_slice ho0; simp [e_, Value.oneCell']) | (obtain ⟨A_, c_, e_⟩ := Kd.V_slice ho0; simp [e_, Value.oneCell'])); have hst_v312 := fun (w_ : World) (a_ : Addr) m_ => run_store Try.prog w_ a_ v312 m_ hs_v312; have hs_v315 : (v315 : Value).oneCell' = true := (by first | (obtain ⟨A_, c_, e_⟩ := Kd.R_slice ho1; simp [e_, Value.oneCell']) | (obtain ⟨A_, c_, e_⟩ := Kd.S_slice ho1; simp [e_, Value.oneCell']) | (obtain ⟨A_, c_, e_⟩ := Kd.N_slice ho1; simp [e_, Value.oneCell']) | (obtain ⟨A_, c_, e_⟩ := Kd.V_slice ho1; simp [e_, Value.oneCell'])); have hst_v315 := fun (w_ : World) (a_ : Addr) m_ => run_store Try.prog w_ a_ v315 m_ hs_v315; have HO313 := Aside0.mk (Kd.R_lower ho0 (below_size (bw_q HB))); have HO316 := Aside0.mk (Kd.R_lower ho1 (below_size (bw_q HB))); replace BK307 := Aside0.mk (blk_below (g := gb307) (o := .cells #[.int .i64 a0_0, .int .i64 a0_1, .int .i64 a0_2, .slice A0_3 l0_3.length c0_3, .slice A0_4 l0_4.length c0_4, .slice A0_5 l0_5.length c0_5, .slice A0_6 l0_6.length c0_6] 38 (0, 0)) (by refine bz_ ?_; refine blk_far ?_ NB307_309.out _; refine bz_ ?_; refine blk_far ?_ NB307_309.out _; refine bz_ ?_; exact BK307.out) hb); replace BK308 := Aside0.mk (blk_below (g := gb308) (o := .cells #[.int .i64 0, .int .i64 0, .int .i64 0, .slice none 0 0, .slice none 0 0, .slice none 0 0, .slice none 0 0] 43 (0, 0)) (by refine bz_ ?_; refine blk_far ?_ NB308_309.out _; refine bz_ ?_; refine blk_far ?_ NB308_309.out _; refine bz_ ?_; exact BK308.out) hb); replace BK309 := Aside0.mk (blk_below (g := gb309) (o := .cells #[.int .i64 a0_0, .int .i64 a0_1, .int .i64 0, .slice none 0 0, .slice none 0 0, .slice none 0 0, .slice none 0 0] 43 (0, 0)) (by refine bz_ ?_; refine blk_put (cs := #[.int .i64 a0_0, .int .i64 0, .int .i64 0, .slice none 0 0, .slice none 0 0, .slice none 0 0, .slice none 0 0]) ?_ 1 _ rfl; refine bz_ ?_; refine blk_put (cs := #[.int .i64 0, .int .i64 0, .int .i64 0, .slice none 0 0, .slice none 0 0, .slice none 0 0, .slice none 0 0]) ?_ 0 _ rfl; refine bz_ ?_; exact BK309.out) hb); replace HB := Aside0.mk (below_step (bw_q HB) hb); (try clear hb); (try clear hb2); (try clear hk); (try clear hi); (try clear ho0); (try clear ho1); have hcz14_0 : w13.cell? ⟨gb309, 0, none⟩ = some (.int .i64 a0_0) := (blk_cell BK309.out 0).trans rfl; have hcz14_1 : w13.cell? ⟨gb309, 1, none⟩ = some (.int .i64 a0_1) := (blk_cell BK309.out 1).trans rfl; have hcz14_2 : w13.cell? ⟨gb309, 2, none⟩ = some (.int .i64 0) := (blk_cell BK309.out 2).trans rfl; have hcz14_3 : w13.cell? ⟨gb309, 3, none⟩ = some (.slice none 0 0) := (blk_cell BK309.out 3).trans rfl; have hcz14_4 : w13.cell? ⟨gb309, 4, none⟩ = some (.slice none 0 0) := (blk_cell BK309.out 4).trans rfl; have hcz14_5 : w13.cell? ⟨gb309, 5, none⟩ = some (.slice none 0 0) := (blk_cell BK309.out 5).trans rfl; have hcz14_6 : w13.cell? ⟨gb309, 6, none⟩ = some (.slice none 0 0) := (blk_cell BK309.out 6).trans rfl; have hfz14_0 := blk_frozen BK309.out 0; have hfz14_1 := blk_frozen BK309.out 1; have hfz14_2 := blk_frozen BK309.out 2; have hfz14_3 := blk_frozen BK309.out 3; have hfz14_4 := blk_frozen BK309.out 4; have hfz14_5 := blk_frozen BK309.out 5; have hfz14_6 := blk_frozen BK309.out 6; obtain ⟨Ao15, co15, eo15⟩ := Kd.R_slice HO313.out; subst eo15; obtain ⟨Ao16, co16, eo16⟩ := Kd.R_slice HO316.out; subst eo16; have hcz17_0 : w13.cell? ⟨gb307, 0, none⟩ = some (.int .i64 a0_0) := (blk_cell BK307.out 0).trans rfl; have hcz17_1 : w13.cell? ⟨gb307, 1, none⟩ = some (.int .i64 a0_1) := (blk_cell BK307.out 1).trans rfl; have hcz17_2 : w13.cell? ⟨gb307, 2, none⟩ = some (.int .i64 a0_2) := (blk_cell BK307.out 2).trans rfl; have hcz17_3 : w13.cell? ⟨gb307, 3, none⟩ = some (.slice A0_3 l0_3.length c0_3) := (blk_cell BK307.out 3).trans rfl; have hcz17_4 : w13.cell? ⟨gb307, 4, none⟩ = some (.slice A0_4 l0_4.length c0_4) := (blk_cell BK307.out 4).trans rfl; have hcz17_5 : w13.cell? ⟨gb307, 5, none⟩ = some (.slice A0_5 l0_5.length c0_5) := (blk_cell BK307.out 5).trans rfl; have hcz17_6 : w13.cell? ⟨gb307, 6, none⟩ = some (.slice A0_6 l0_6.length c0_6) := (blk_cell BK307.out 6).trans rfl; have hfz17_0 := blk_frozen BK307.out 0; have hfz17_1 := blk_frozen BK307.out 1; have hfz17_2 := blk_frozen BK307.out 2; have hfz17_3 := blk_frozen BK307.out 3; have hfz17_4 := blk_frozen BK307.out 4; have hfz17_5 := blk_frozen BK307.out 5; have hfz17_6 := blk_frozen BK307.out 6) | ((with_reducible refine gate_callee (f := 89) rfl ?_); refine goesL_ (some 16) rfl rfl Try.func89 (by kernel_rfl) rfl #[.slice A0_5 l0_5.length c0_5] rfl mp_q ?_; (with_reducible refine (laws_toIntS.calls k _ _ l0_5 t317 _ ?side1 ?side2 A3.out).mono ?_); (case side1 => exact Kd.C_below HR0_5.out (bw_q HB)); (case side2 => exact HC0_5.out); rintro e w18 ⟨v318, rfl, ho0, hb⟩; refine ⟨_, rfl, ?_⟩; replace HO313 := Aside0.mk (Kd.R_below (by (with_reducible repeat (first | apply Kd.R_alloc | apply Kd.R_drewN | apply Kd.R_drew)); exact (Kd.R_mono (Kd.R_far (p := ⟨gb309, 4, none⟩) (Kd.R_far (p := ⟨gb309, 3, none⟩) (Kd.R_far (p := ⟨gb309, 2, none⟩) (Kd.R_types HO313.out BK309.out (by decide)) (fun _ hk => hk.2) (.int .i64 t310)) (fun _ hk => hk.2) (.slice Ao15 t311.length co15)) (fun _ hk => hk.2) (.slice Ao16 t314.length co16)) (fun _ h_ => h_.1))) hb); replace HO316 := Aside0.mk (Kd.R_below (by (with_reducible repeat (first | apply Kd.R_alloc | apply Kd.R_drewN | apply Kd.R_drew)); exact (Kd.R_mono (Kd.R_far (p := ⟨gb309, 4, none⟩) (Kd.R_far (p := ⟨gb309, 3, none⟩) (Kd.R_far (p := ⟨gb309, 2, none⟩) (Kd.R_types HO316.out BK309.out (by decide)) (fun _ hk => hk.2) (.int .i64 t310)) (fun _ hk => hk.2) (.slice Ao15 t311.length co15)) (fun _ hk => hk.2) (.slice Ao16 t314.length co16)) (fun _ h_ => h_.1))) hb); have HO319 := Aside0.mk (Kd.R_lower ho0 (below_size (bw_q HB))); replace BK307 := Aside0.mk (blk_below (g := gb307) (o := .cells #[.int .i64 a0_0, .int .i64 a0_1, .int .i64 a0_2, .slice A0_3 l0_3.length c0_3, .slice A0_4 l0_4.length c0_4, .slice A0_5 l0_5.length c0_5, .slice A0_6 l0_6.length c0_6] 38 (0, 0)) (by refine bz_ ?_; refine blk_far ?_ NB307_309.out _; refine bz_ ?_; refine blk_far ?_ NB307_309.out _; refine bz_ ?_; refine blk_far ?_ NB307_309.out _; refine bz_ ?_; exact BK307.out) hb); replace BK308 := Aside0.mk (blk_below (g := gb308) (o := .cells #[.int .i64 0, .int .i64 0, .int .i64 0, .slice none 0 0, .slice none 0 0, .slice none 0 0, .slice none 0 0] 43 (0, 0)) (by refine bz_ ?_; refine blk_far ?_ NB308_309.out _; refine bz_ ?_; refine blk_far ?_ NB308_309.out _; refine bz_ ?_; refine blk_far ?_ NB308_309.out _; refine bz_ ?_; exact BK308.out) hb); replace BK309 := Aside0.mk (blk_below (g := gb309) (o := .cells #[.int .i64 a0_0, .int .i64 a0_1, .int .i64 t310, .slice Ao15 t311.length co15, .slice Ao16 t314.length co16, .slice none 0 0, .slice none 0 0] 43 (0, 0)) (by refine bz_ ?_; refine blk_put (cs := #[.int .i64 a0_0, .int .i64 a0_1, .int .i64 t310, .slice Ao15 t311.length co15, .slice none 0 0, .slice none 0 0, .slice none 0 0]) ?_ 4 _ rfl; refine bz_ ?_; refine blk_put (cs := #[.int .i64 a0_0, .int .i64 a0_1, .int .i64 t310, .slice none 0 0, .slice none 0 0, .slice none 0 0, .slice none 0 0]) ?_ 3 _ rfl; refine bz_ ?_; refine blk_put (cs := #[.int .i64 a0_0, .int .i64 a0_1, .int .i64 0, .slice none 0 0, .slice none 0 0, .slice none 0 0, .slice none 0 0]) ?_ 2 _ rfl; refine bz_ ?_; exact BK309.out) hb); replace HB := Aside0.mk (below_step (bw_q HB) hb); (try clear hb); (try clear hb2); (try clear hk); (try clear hi); (try clear ho0); obtain ⟨Ao19, co19, eo19⟩ := Kd.R_slice HO319.out; subst eo19; have hcz20_0 : w18.cell? ⟨gb309, 0, none⟩ = some (.int .i64 a0_0) := (blk_cell BK309.out 0).trans rfl; have hcz20_1 : w18.cell? ⟨gb309, 1, none⟩ = some (.int .i64 a0_1) := (blk_cell BK309.out 1).trans rfl; have hcz20_2 : w18.cell? ⟨gb309, 2, none⟩ = some (.int .i64 t310) := (blk_cell BK309.out 2).trans rfl; have hcz20_3 : w18.cell? ⟨gb309, 3, none⟩ = some (.slice Ao15 t311.length co15) := (blk_cell BK309.out 3).trans rfl; have hcz20_4 : w18.cell? ⟨gb309, 4, none⟩ = some (.slice Ao16 t314.length co16) := (blk_cell BK309.out 4).trans rfl; have hcz20_5 : w18.cell? ⟨gb309, 5, none⟩ = some (.slice none 0 0) := (blk_cell BK309.out 5).trans rfl; have hcz20_6 : w18.cell? ⟨gb309, 6, none⟩ = some (.slice none 0 0) := (blk_cell BK309.out 6).trans rfl; have hfz20_0 := blk_frozen BK309.out 0; have hfz20_1 := blk_frozen BK309.out 1; have hfz20_2 := blk_frozen BK309.out 2; have hfz20_3 := blk_frozen BK309.out 3; have hfz20_4 := blk_frozen BK309.out 4; have hfz20_5 := blk_frozen BK309.out 5; have hfz20_6 := blk_frozen BK309.out 6; have hcz21_0 : w18.cell? ⟨gb307, 0, none⟩ = some (.int .i64 a0_0) := (blk_cell BK307.out 0).trans rfl; have hcz21_1 : w18.cell? ⟨gb307, 1, none⟩ = some (.int .i64 a0_1) := (blk_cell BK307.out 1).trans rfl; have hcz21_2 : w18.cell? ⟨gb307, 2, none⟩ = some (.int .i64 a0_2) := (blk_cell BK307.out 2).trans rfl; have hcz21_3 : w18.cell? ⟨gb307, 3, none⟩ = some (.slice A0_3 l0_3.length c0_3) := (blk_cell BK307.out 3).trans rfl; have hcz21_4 : w18.cell? ⟨gb307, 4, none⟩ = some (.slice A0_4 l0_4.length c0_4) := (blk_cell BK307.out 4).trans rfl; have hcz21_5 : w18.cell? ⟨gb307, 5, none⟩ = some (.slice A0_5 l0_5.length c0_5) := (blk_cell BK307.out 5).trans rfl; have hcz21_6 : w18.cell? ⟨gb307, 6, none⟩ = some (.slice A0_6 l0_6.length c0_6) := (blk_cell BK307.out 6).trans rfl; have hfz21_0 := blk_frozen BK307.out 0; have hfz21_1 := blk_frozen BK307.out 1; have hfz21_2 := blk_frozen BK307.out 2; have hfz21_3 := blk_frozen BK307.out 3; have hfz21_4 := blk_frozen BK307.out 4; have hfz21_5 := blk_frozen BK307.out 5; have hfz21_6 := blk_frozen BK307.out 6) | ((with_reducible refine gate_callee (f := 27) rfl ?_); refine goesL_ (some 20) rfl rfl Try.func27 (by kernel_rfl) rfl #[.slice A0_6 l0_6.length c0_6] rfl mp_q ?_; (with_reducible refine (laws_toRecordS.calls k _ _ l0_6 t320 _ ?side1 ?side2 A4.out).mono ?_); (case side1 => exact Kd.C_below HR0_6.out (bw_q HB)); (case side2 => exact HC0_6.out); rintro e w22 ⟨v321, rfl, ho0, hb⟩; refine ⟨_, rfl, ?_⟩; replace HO313 := Aside0.mk (Kd.R_below (by (with_reducible repeat (first | apply Kd.R_alloc | apply Kd.R_drewN | apply Kd.R_drew)); exact (Kd.R_mono (Kd.R_far (p := ⟨gb309, 5, none⟩) (Kd.R_types HO313.out BK309.out (by decide)) (fun _ hk => hk.2) (.slice Ao19 t317.length co19)) (fun _ h_ => h_.1))) hb); replace HO316 := Aside0.mk (Kd.R_below (by (with_reducible repeat (first | apply Kd.R_alloc | apply Kd.R_drewN | apply Kd.R_drew)); exact (Kd.R_mono (Kd.R_far (p := ⟨gb309, 5, none⟩) (Kd.R_types HO316.out BK309.out (by decide)) (fun _ hk => hk.2) (.slice Ao19 t317.length co19)) (fun _ h_ => h_.1))) hb); replace HO319 := Aside0.mk (Kd.R_below (by (with_reducible repeat (first | apply Kd.R_alloc | apply Kd.R_drewN | apply Kd.R_drew)); exact (Kd.R_mono (Kd.R_far (p := ⟨gb309, 5, none⟩) (Kd.R_types HO319.out BK309.out (by decide)) (fun _ hk => hk.2) (.slice Ao19 t317.length co19)) (fun _ h_ => h_.1))) hb); have HO322 := Aside0.mk (Kd.S_lower ho0 (below_size (bw_q HB))); replace BK307 := Aside0.mk (blk_below (g := gb307) (o := .cells #[.int .i64 a0_0, .int .i64 a0_1, .int .i64 a0_2, .slice A0_3 l0_3.length c0_3, .slice A0_4 l0_4.length c0_4, .slice A0_5 l0_5.length c0_5, .slice A0_6 l0_6.length c0_6] 38 (0, 0)) (by refine bz_ ?_; refine blk_far ?_ NB307_309.out _; refine bz_ ?_; exact BK307.out) hb); replace BK308 := Aside0.mk (blk_below (g := gb308) (o := .cells #[.int .i64 0, .int .i64 0, .int .i64 0, .slice none 0 0, .slice none 0 0, .slice none 0 0, .slice none 0 0] 43 (0, 0)) (by refine bz_ ?_; refine blk_far ?_ NB308_309.out _; refine bz_ ?_; exact BK308.out) hb); replace BK309 := Aside0.mk (blk_below (g := gb309) (o := .cells #[.int .i64 a0_0, .int .i64 a0_1, .int .i64 t310, .slice Ao15 t311.length co15, .slice Ao16 t314.length co16, .slice Ao19 t317.length co19, .slice none 0 0] 43 (0, 0)) (by refine bz_ ?_; refine blk_put (cs := #[.int .i64 a0_0, .int .i64 a0_1, .int .i64 t310, .slice Ao15 t311.length co15, .slice Ao16 t314.length co16, .slice none 0 0, .slice none 0 0]) ?_ 5 _ rfl; refine bz_ ?_; exact BK309.out) hb); replace HB := Aside0.mk (below_step (bw_q HB) hb); (try clear hb); (try clear hb2); (try clear hk); (try clear hi); (try clear ho0); obtain ⟨Ao23, co23, eo23⟩ := Kd.S_slice HO322.out; subst eo23; have hcz24_0 : w22.cell? ⟨gb309, 0, none⟩ = some (.int .i64 a0_0) := (blk_cell BK309.out 0).trans rfl; have hcz24_1 : w22.cell? ⟨gb309, 1, none⟩ = some (.int .i64 a0_1) := (blk_cell BK309.out 1).trans rfl; have hcz24_2 : w22.cell? ⟨gb309, 2, none⟩ = some (.int .i64 t310) := (blk_cell BK309.out 2).trans rfl; have hcz24_3 : w22.cell? ⟨gb309, 3, none⟩ = some (.slice Ao15 t311.length co15) := (blk_cell BK309.out 3).trans rfl; have hcz24_4 : w22.cell? ⟨gb309, 4, none⟩ = some (.slice Ao16 t314.length co16) := (blk_cell BK309.out 4).trans rfl; have hcz24_5 : w22.cell? ⟨gb309, 5, none⟩ = some (.slice Ao19 t317.length co19) := (blk_cell BK309.out 5).trans rfl; have hcz24_6 : w22.cell? ⟨gb309, 6, none⟩ = some (.slice none 0 0) := (blk_cell BK309.out 6).trans rfl; have hfz24_0 := blk_frozen BK309.out 0; have hfz24_1 := blk_frozen BK309.out 1; have hfz24_2 := blk_frozen BK309.out 2; have hfz24_3 := blk_frozen BK309.out 3; have hfz24_4 := blk_frozen BK309.out 4; have hfz24_5 := blk_frozen BK309.out 5; have hfz24_6 := blk_frozen BK309.out 6; have hcz25_0 : w22.cell? ⟨gb308, 0, none⟩ = some (.int .i64 0) := (blk_cell BK308.out 0).trans rfl; have hcz25_1 : w22.cell? ⟨gb308, 1, none⟩ = some (.int .i64 0) := (blk_cell BK308.out 1).trans rfl; have hcz25_2 : w22.cell? ⟨gb308, 2, none⟩ = some (.int .i64 0) := (blk_cell BK308.out 2).trans rfl; have hcz25_3 : w22.cell? ⟨gb308, 3, none⟩ = some (.slice none 0 0) := (blk_cell BK308.out 3).trans rfl; have hcz25_4 : w22.cell? ⟨gb308, 4, none⟩ = some (.slice none 0 0) := (blk_cell BK308.out 4).trans rfl; have hcz25_5 : w22.cell? ⟨gb308, 5, none⟩ = some (.slice none 0 0) := (blk_cell BK308.out 5).trans rfl; have hcz25_6 : w22.cell? ⟨gb308, 6, none⟩ = some (.slice none 0 0) := (blk_cell BK308.out 6).trans rfl; have hfz25_0 := blk_frozen BK308.out 0; have hfz25_1 := blk_frozen BK308.out 1; have hfz25_2 := blk_frozen BK308.out 2; have hfz25_3 := blk_frozen BK308.out 3; have hfz25_4 := blk_frozen BK308.out 4; have hfz25_5 := blk_frozen BK308.out 5; have hfz25_6 := blk_frozen BK308.out 6))
 refine bodyPost_ret (results_cell_row rfl _ _ gb308 43 #[.int .i64 a0_0, .int .i64 a0_1, .int .i64 t310, .slice Ao15 t311.length co15, .slice Ao16 t314.length co16, .slice Ao19 t317.length co19, .slice Ao23 t320.length co23] (0, 0) _ rfl (by refine bz_ ?_; refine blk_put (cs := #[.int .i64 a0_0, .int .i64 a0_1, .int .i64 t310, .slice Ao15 t311.length co15, .slice Ao16 t314.length co16, .slice Ao19 t317.length co19, .slice none 0 0]) ?_ 6 _ rfl; refine bz_ ?_; refine blk_put (cs := #[.int .i64 a0_0, .int .i64 a0_1, .int .i64 t310, .slice Ao15 t311.length co15, .slice Ao16 t314.length co16, .slice none 0 0, .slice none 0 0]) ?_ 5 _ rfl; refine bz_ ?_; refine blk_put (cs := #[.int .i64 a0_0, .int .i64 a0_1, .int .i64 t310, .slice Ao15 t311.length co15, .slice none 0 0, .slice none 0 0, .slice none 0 0]) ?_ 4 _ rfl; refine bz_ ?_; refine blk_put (cs := #[.int .i64 a0_0, .int .i64 a0_1, .int .i64 t310, .slice none 0 0, .slice none 0 0, .slice none 0 0, .slice none 0 0]) ?_ 3 _ rfl; refine bz_ ?_; refine blk_put (cs := #[.int .i64 a0_0, .int .i64 a0_1, .int .i64 0, .slice none 0 0, .slice none 0 0, .slice none 0 0, .slice none 0 0]) ?_ 2 _ rfl; refine bz_ ?_; refine blk_put (cs := #[.int .i64 a0_0, .int .i64 0, .int .i64 0, .slice none 0 0, .slice none 0 0, .slice none 0 0, .slice none 0 0]) ?_ 1 _ rfl; refine bz_ ?_; refine blk_put (cs := #[.int .i64 0, .int .i64 0, .int .i64 0, .slice none 0 0, .slice none 0 0, .slice none 0 0, .slice none 0 0]) ?_ 0 _ rfl; refine bz_ ?_; refine blk_far ?_ NB308_309.out _; refine bz_ ?_; exact BK308.out) Try.underlying43 rfl (by kernel_rfl)) rfl ?_
 exact ⟨_, _, _, _, er_q, by (with_reducible repeat (first | apply Kd.R_alloc | apply Kd.R_drewN | apply Kd.R_drew)); exact Kd.R_mono (Kd.R_far (p := ⟨gb308, 6, none⟩) (Kd.R_far (p := ⟨gb308, 5, none⟩) (Kd.R_far (p := ⟨gb308, 4, none⟩) (Kd.R_far (p := ⟨gb308, 3, none⟩) (Kd.R_far (p := ⟨gb308, 2, none⟩) (Kd.R_far (p := ⟨gb308, 1, none⟩) (Kd.R_far (p := ⟨gb308, 0, none⟩) (Kd.R_far (p := ⟨gb309, 6, none⟩) (Kd.R_types (Kd.R_types HO313.out BK309.out (by decide)) BK308.out (by decide)) (fun _ hk => hk.1.2) (.slice Ao23 t320.length co23)) (fun _ hk => hk.2) (.int .i64 a0_0)) (fun _ hk => hk.2) (.int .i64 a0_1)) (fun _ hk => hk.2) (.int .i64 t310)) (fun _ hk => hk.2) (.slice Ao15 t311.length co15)) (fun _ hk => hk.2) (.slice Ao16 t314.length co16)) (fun _ hk => hk.2) (.slice Ao19 t317.length co19)) (fun _ hk => hk.2) (.slice Ao23 t320.length co23)) (fun _ hk => trivial), by (with_reducible repeat (first | apply Kd.R_alloc | apply Kd.R_drewN | apply Kd.R_drew)); exact Kd.R_mono (Kd.R_far (p := ⟨gb308, 6, none⟩) (Kd.R_far (p := ⟨gb308, 5, none⟩) (Kd.R_far (p := ⟨gb308, 4, none⟩) (Kd.R_far (p := ⟨gb308, 3, none⟩) (Kd.R_far (p := ⟨gb308, 2, none⟩) (Kd.R_far (p := ⟨gb308, 1, none⟩) (Kd.R_far (p := ⟨gb308, 0, none⟩) (Kd.R_far (p := ⟨gb309, 6, none⟩) (Kd.R_types (Kd.R_types HO316.out BK309.out (by decide)) BK308.out (by decide)) (fun _ hk => hk.1.2) (.slice Ao23 t320.length co23)) (fun _ hk => hk.2) (.int .i64 a0_0)) (fun _ hk => hk.2) (.int .i64 a0_1)) (fun _ hk => hk.2) (.int .i64 t310)) (fun _ hk => hk.2) (.slice Ao15 t311.length co15)) (fun _ hk => hk.2) (.slice Ao16 t314.length co16)) (fun _ hk => hk.2) (.slice Ao19 t317.length co19)) (fun _ hk => hk.2) (.slice Ao23 t320.length co23)) (fun _ hk => trivial), by (with_reducible repeat (first | apply Kd.R_alloc | apply Kd.R_drewN | apply Kd.R_drew)); exact Kd.R_mono (Kd.R_far (p := ⟨gb308, 6, none⟩) (Kd.R_far (p := ⟨gb308, 5, none⟩) (Kd.R_far (p := ⟨gb308, 4, none⟩) (Kd.R_far (p := ⟨gb308, 3, none⟩) (Kd.R_far (p := ⟨gb308, 2, none⟩) (Kd.R_far (p := ⟨gb308, 1, none⟩) (Kd.R_far (p := ⟨gb308, 0, none⟩) (Kd.R_far (p := ⟨gb309, 6, none⟩) (Kd.R_types (Kd.R_types HO319.out BK309.out (by decide)) BK308.out (by decide)) (fun _ hk => hk.1.2) (.slice Ao23 t320.length co23)) (fun _ hk => hk.2) (.int .i64 a0_0)) (fun _ hk => hk.2) (.int .i64 a0_1)) (fun _ hk => hk.2) (.int .i64 t310)) (fun _ hk => hk.2) (.slice Ao15 t311.length co15)) (fun _ hk => hk.2) (.slice Ao16 t314.length co16)) (fun _ hk => hk.2) (.slice Ao19 t317.length co19)) (fun _ hk => hk.2) (.slice Ao23 t320.length co23)) (fun _ hk => trivial), by (with_reducible repeat (first | apply Kd.S_alloc | apply Kd.S_drewN | apply Kd.S_drew)); exact Kd.S_mono (Kd.S_far (p := ⟨gb308, 6, none⟩) (Kd.S_far (p := ⟨gb308, 5, none⟩) (Kd.S_far (p := ⟨gb308, 4, none⟩) (Kd.S_far (p := ⟨gb308, 3, none⟩) (Kd.S_far (p := ⟨gb308, 2, none⟩) (Kd.S_far (p := ⟨gb308, 1, none⟩) (Kd.S_far (p := ⟨gb308, 0, none⟩) (Kd.S_far (p := ⟨gb309, 6, none⟩) (Kd.S_types (Kd.S_types HO322.out BK309.out (by decide)) BK308.out (by decide)) (fun _ hk => hk.1.2) (.slice Ao23 t320.length co23)) (fun _ hk => hk.2) (.int .i64 a0_0)) (fun _ hk => hk.2) (.int .i64 a0_1)) (fun _ hk => hk.2) (.int .i64 t310)) (fun _ hk => hk.2) (.slice Ao15 t311.length co15)) (fun _ hk => hk.2) (.slice Ao16 t314.length co16)) (fun _ hk => hk.2) (.slice Ao19 t317.length co19)) (fun _ hk => hk.2) (.slice Ao23 t320.length co23)) (fun _ hk => trivial), bw_q HB⟩

end Go.Proofs.Ythjmdiggglkeaaa.Q

/- A Go function as a Lean function, and its contract: for every input the Go code comes to what the Lean function tells. -/

namespace Go.Proofs.Ythjmdiggglkeaaa.Q
open Go.RowKit Go.Proofs.YthjmdiggglkeaaaW.PrintWords Go.Proofs.YthjmdiggglkeaaaW.PrintLast Go.Proofs.YthjmdiggglkeaaaW.PrintMore
attribute [local go_sem] max2_int min2_int max_two min_two max_three min_three max_four min_four   -- for this text's walks alone
set_option linter.unusedVariables false
set_option linter.unusedSimpArgs false

/-! ### impl_in: function 81 -/
def impl_in.f (a0 : Int) (a1 : Int) (a2 : Int) : Option (Bool) := if a0 ≥ a1 then (some (decide (a0 ≤ a2))) else (some false)
set_option maxHeartbeats 8000000 in
set_option maxRecDepth 100000 in
theorem impl_in.calls (a0 : Int) (a1 : Int) (a2 : Int) (r : Bool) (w : World) (h : impl_in.f a0 a1 a2 = some r) :
  Calls Try.prog 81 #[.int .i64 a0, .int .i64 a1, .int .i64 a2] w fun e w' => e = .returned (.bool r) ∧ Drawn0 w w' := by
 have H : (if a0 ≥ a1 then (some (decide (a0 ≤ a2))) else (some false)) = some r := h
 clear h
 by_cases c4 : a0 ≥ a1
 ·rw [if_pos c4] at H
  have c4b0 : decide (a1 ≤ a0) = true := decide_eq_true c4
  clear c4
  obtain rfl := Option.some.inj H
  go_enter Try.func81, Try.ntmps81
  go_wp2
  go_ret
  exact ⟨by first | rfl | (simp; done) | (simp [*]; done), by repeat (first | exact Drawn0.refl _ | apply Drawn0.step)⟩
 ·rw [if_neg c4] at H
  have c4b0 : decide (a1 ≤ a0) = false := decide_eq_false c4
  clear c4
  obtain rfl := Option.some.inj H
  go_enter Try.func81, Try.ntmps81
  go_wp2
  go_ret
  exact ⟨by first | rfl | (simp; done) | (simp [*]; done), by repeat (first | exact Drawn0.refl _ | apply Drawn0.step)⟩

end Go.Proofs.Ythjmdiggglkeaaa.Q
