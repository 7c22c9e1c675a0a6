import Derived.Test.YtnecbkognpponaaXPacketTextQlawstoNearS
import Derived.Test.YtnecbkognpponaaXPacketTextQimplBefore
/- A Go function as a Lean function, and its contract: for every input the Go code comes to what the Lean function tells. -/


namespace Go.Proofs.Ytnecbkognpponaa.Q
open Go.RowKit Go.Proofs.YtnecbkognpponaaW.PrintWords Go.Proofs.YtnecbkognpponaaW.PrintLast Go.Proofs.YtnecbkognpponaaW.PrintMore
attribute [local go_sem] max2_int min2_int max_two min_two max_three min_three max_four min_four   -- for this text's walks alone
set_option linter.unusedVariables false
set_option linter.unusedSimpArgs false

/-! ### impl_VarText: function 54 -/
def impl_VarText.l0 : Nat → Int → List Int → Option (ByteArray × Bool)
 | 0, _, _ => none
 | k + 1, x0, x4 => if x0 > 127 then (if x4.length < 140737488355328 then (impl_VarText.l0 k (wrap64 (Int.tdiv x0 128)) (x4 ++ [(wrap64 ((Int.tmod x0 128) + 128)) % 256])) else (none)) else (if x4.length < 140737488355328 then (some (strOfNums (x4 ++ [(x0) % 256]), true)) else (none))
def impl_VarText.f (k : Nat) (a0 : Int) : Option (ByteArray × Bool) := (impl_in.f a0 0 1000000000).bind fun t557 => (if t557 = true then (impl_VarText.l0 k a0 ([] : List Int)) else (some ((⟨#[]⟩ : ByteArray), false)))
theorem impl_VarText.mono_l : ∀ k, (∀ y0 y1, LeO (impl_VarText.l0 k y0 y1) (impl_VarText.l0 (k + 1) y0 y1))
 | 0 => fun _ _ r h => by simp [impl_VarText.l0] at h
 | k + 1 => by
  have ih0 := impl_VarText.mono_l k
  ·intro y0 y1
   unfold impl_VarText.l0
   repeat' first
   | (with_reducible exact ih0 _ _)
   | (with_reducible exact LeO.refl _)
   | (with_reducible exact LeO.none _)
   | (with_reducible refine LeO.ite ?_ ?_)
   | (with_reducible refine LeO.bind ?_ (fun _ => ?_))
   | exact ih0 _ _
   | exact LeO.none _
   | refine LeO.ite ?_ ?_
   | refine LeO.bind ?_ (fun _ => ?_)
theorem impl_VarText.mono : ∀ a0 k, LeO (impl_VarText.f k a0) (impl_VarText.f (k + 1) a0) := by
 intro a0 k
 have ih0 := impl_VarText.mono_l k
 unfold impl_VarText.f
 repeat' first
   | (with_reducible exact ih0 _ _)
   | (with_reducible exact LeO.refl _)
   | (with_reducible exact LeO.none _)
   | (with_reducible refine LeO.ite ?_ ?_)
   | (with_reducible refine LeO.bind ?_ (fun _ => ?_))
   | exact ih0 _ _
   | exact LeO.none _
   | refine LeO.ite ?_ ?_
   | refine LeO.bind ?_ (fun _ => ?_)
set_option maxHeartbeats 8000000 in
set_option maxRecDepth 100000 in
theorem impl_VarText.calls (k : Nat) (a0 : Int) (r1 : ByteArray) (r2 : Bool) (w : World) (h : impl_VarText.f k a0 = some (r1, r2)) :
  Calls Try.prog 54 #[.int .i64 a0] w fun e w' => e = .returned (.tuple #[.string r1, .bool r2]) ∧ Below w.heap.size w w' := by
 have HB := Aside0.mk (Below.refl w.heap.size w)
 have H : ((impl_in.f a0 0 1000000000).bind fun t557 => (if t557 = true then (impl_VarText.l0 k a0 ([] : List Int)) else (some ((⟨#[]⟩ : ByteArray), false)))) = some (r1, r2) := h
 clear h; replace H := Option.bind_eq_some_iff.mp H; obtain ⟨t557, A20, H⟩ := H
 replace H : (if t557 = true then (impl_VarText.l0 k a0 ([] : List Int)) else (some ((⟨#[]⟩ : ByteArray), false))) = some (r1, r2) := H
 have A2 := Aside0.mk A20; clear A20; have HC3 := Aside0.mk H; clear H
 go_enter Try.func54, Try.ntmps54
 go_upto_if 7 with (first | ((with_reducible refine gate_callee (f := 69) rfl ?_); refine goesL_ (some 6) rfl rfl Try.func69 (by kernel_rfl) rfl #[.int .i64 a0, .int .i64 0, .int .i64 1000000000] rfl mp_q ?_; (with_reducible refine (impl_in.calls a0 0 1000000000 t557 _ A2.out).mono ?_); rintro e w' ⟨rfl, ⟨nd, rfl⟩⟩; refine ⟨_, rfl, ?_⟩))
 have H := HC3.out; clear HC3
 by_cases c4 : t557 = true
 ·subst c4
  replace H : (impl_VarText.l0 k a0 ([] : List Int)) = some (r1, r2) := by rw [if_pos rfl] at H; exact H
  have H' := Aside0.mk H; clear H
  go_wp2
  go_loopg [0, 4] k (fun kq v0 v4 w' => ∃ (x0_1 : Int) (x4_1 : List Int), v0 = .int .i64 x0_1 ∧ Aside0 (impl_VarText.l0 kq x0_1 x4_1 = some (r1, r2)) ∧ Aside0 (kq ≤ k) ∧ Aside0 (Kd.R (Kd.int .u8) 5 w' w.heap.size (fun _ => True) v4 x4_1) ∧ Aside0 (Below w.heap.size w w'))
  case atStart => exact ⟨(a0), (([] : List Int)), (by first | rfl | (simp; done) | (simp [*]; done)), H', ⟨Nat.le_refl _⟩, ⟨by first | exact Kd.R_nil _ _ _ _ _ | exact Kd.N_nil _ _ _ _ _ | exact Kd.V_nil _ _ _ _ _ | exact Kd.Q_nil _ _ _ _ _ | exact Kd.S_nil _ _ _ _ _⟩, ⟨bw_q HB⟩⟩
  case round =>
   clear H'; (try clear p2); (try clear c4); obtain ⟨x0_1, x4_1, rfl, HA, HK1, HO_4, HB⟩ := hrel
   cases gk with
   | zero => exact absurd HA.out (by simp [impl_VarText.l0])
   | succ k1 =>
    have H := HA.out; clear HA
    simp only [impl_VarText.l0] at H
    by_cases c5 : x0_1 > 127
    ·rw [if_pos c5] at H
     have c5b0 : decide (127 < x0_1) = true := decide_eq_true c5
     clear c5
     (first | rw [c5b0] | rw [c5b1] | (simp only [i64_w, i32_w]; first | rw [c5b0] | rw [c5b1]) | skip)
     by_cases c6 : x4_1.length < 140737488355328
     ·rw [if_pos c6] at H; have LMc6 := Aside0.mk c6; clear c6; obtain ⟨y558, hy558⟩ : ∃ y_ : List Int, y_ = (x4_1 ++ [(wrap64 ((Int.tmod x0_1 128) + 128)) % 256]) := ⟨_, rfl⟩
      replace H : (impl_VarText.l0 k1 (wrap64 (Int.tdiv x0_1 128)) y558) = some (r1, r2) := by first | (rw [hy558]; with_reducible exact H) | (have H2_ := (Option.bind_some _ _).symm.trans H; rw [hy558]; with_reducible exact H2_) | (have H2_ := (Option.bind_some _ _).symm.trans H; with_reducible exact H2_) | with_reducible exact H | (rw [hy558]; exact H) | exact H
      have Ny558 := Aside0.mk hy558; clear hy558; have H' := Aside0.mk H; clear H
      go_wp2_with (first | ((with_reducible refine gate_builtin (b := .append) (xs := #[.tmp 10, .tmp 15]) rfl ?_); at_builtin; refine Kd.R_append (Kd.int .u8) (w0 := w) w.heap.size rfl (.tmp 10) (.tmp 15) 46 5 (.int .u8 0) 1 rfl Try.underlying46 info5 rfl (by decide) (by omega) u4 x4_1 ((wrap64 ((Int.tmod x0_1 128) + 128)) % 256) [.int .u8 ((wrap64 ((Int.tmod x0_1 128) + 128)) % 256)] (fun _ => True) (fun _ => False) rfl rfl ?aP (fun _ hk => hk.elim) ?aF ?aO ?aB ?aS ?aL ?_; (case aP => exact rfl); (case aB => exact (bw_q HB)); (case aF => exact (fun _ _ => trivial)); (case aO => exact (kR_q HO_4)); (case aS => exact (below_size (bw_q HB))); (case aL => have := LMc6.out; omega); intro v559 w7 ho hb hg hat; rw [← Ny558.out] at ho; replace HB := Aside0.mk (hb); have HO560 := Aside0.mk (ho); clear HO_4; clear ho hb hg hat))
      go_roundg k1
      case measure => have := HK1.out; omega
      case rel => exact ⟨(wrap64 (Int.tdiv x0_1 128)), (y558), (by first | rfl | (simp; done) | (simp [*]; done)), H', ⟨by have := HK1.out; omega⟩, ⟨by (with_reducible repeat (first | apply Kd.R_alloc | apply Kd.R_drewN | apply Kd.R_drew)); exact HO560.out⟩, ⟨bw_q HB⟩⟩
     ·rw [if_neg c6] at H
      exact absurd H (by simp)
    ·rw [if_neg c5] at H
     have c5b0 : decide (127 < x0_1) = false := decide_eq_false c5
     clear c5
     (first | rw [c5b0] | rw [c5b1] | (simp only [i64_w, i32_w]; first | rw [c5b0] | rw [c5b1]) | skip)
     by_cases c8 : x4_1.length < 140737488355328
     ·rw [if_pos c8] at H; have LMc8 := Aside0.mk c8; clear c8; obtain ⟨y561, hy561⟩ : ∃ y_ : List Int, y_ = (x4_1 ++ [(x0_1) % 256]) := ⟨_, rfl⟩
      replace H : (some (strOfNums y561, true)) = some (r1, r2) := by first | (rw [hy561]; with_reducible exact H) | (have H2_ := (Option.bind_some _ _).symm.trans H; rw [hy561]; with_reducible exact H2_) | (have H2_ := (Option.bind_some _ _).symm.trans H; with_reducible exact H2_) | with_reducible exact H | (rw [hy561]; exact H) | exact H
      have Ny561 := Aside0.mk hy561; clear hy561
      simp only [Option.some.injEq, Prod.mk.injEq] at H
      obtain ⟨rfl, rfl⟩ := H
      go_wp2_with (first | ((with_reducible refine gate_builtin (b := .append) (xs := #[.tmp 19, .tmp 22]) rfl ?_); at_builtin; refine Kd.R_append (Kd.int .u8) (w0 := w) w.heap.size rfl (.tmp 19) (.tmp 22) 46 5 (.int .u8 0) 1 rfl Try.underlying46 info5 rfl (by decide) (by omega) u4 x4_1 ((x0_1) % 256) [.int .u8 ((x0_1) % 256)] (fun _ => True) (fun _ => False) rfl rfl ?aP (fun _ hk => hk.elim) ?aF ?aO ?aB ?aS ?aL ?_; (case aP => exact rfl); (case aB => exact (bw_q HB)); (case aF => exact (fun _ _ => trivial)); (case aO => exact (kR_q HO_4)); (case aS => exact (below_size (bw_q HB))); (case aL => have := LMc8.out; omega); intro v562 w9 ho hb hg hat; rw [← Ny561.out] at ho; replace HB := Aside0.mk (hb); have HO563 := Aside0.mk (ho); clear HO_4; clear ho hb hg hat; have hcv10 := own_string (P := Try.prog) Try.underlying46 Try.underlying5 Try.underlying9 (Kd.own_of_R HO563.out)))
      go_ret2
      exact ⟨er_q, bw_q HB⟩
     ·rw [if_neg c8] at H
      exact absurd H (by simp)
 ·replace c4 := Bool.eq_false_iff.mpr c4; subst c4
  replace H : (some ((⟨#[]⟩ : ByteArray), false)) = some (r1, r2) := by rw [if_neg (show ¬ (false = true) by decide)] at H; exact H
  simp only [Option.some.injEq, Prod.mk.injEq] at H
  obtain ⟨rfl, rfl⟩ := H
  go_wp2
  go_ret2
  exact ⟨er_q, bw_q HB⟩

end Go.Proofs.Ytnecbkognpponaa.Q

/- A Go function as a Lean function, and its contract: for every input the Go code comes to what the Lean function tells. -/



namespace Go.Proofs.Ytnecbkognpponaa.Q
open Go.RowKit Go.Proofs.YtnecbkognpponaaW.PrintWords Go.Proofs.YtnecbkognpponaaW.PrintLast Go.Proofs.YtnecbkognpponaaW.PrintMore
attribute [local go_sem] max2_int min2_int max_two min_two max_three min_three max_four min_four   -- for this text's walks alone
set_option linter.unusedVariables false
set_option linter.unusedSimpArgs false

/-! ### impl_RecordText: function 25 -/
def impl_RecordText.l0 : Nat → ByteArray → List (S63) → Int → Int → Int → Int → Int → Int → Int → List (S63) → Int → Bool → Option (ByteArray × Bool)
 | 0, _, _, _, _, _, _, _, _, _, _, _, _ => none
 | k + 1, x8, x51, x52, x53, x565000, x565001, x565002, x565003, x565004, x565005, x565006, x565007 => if x53 < x52 then (if 0 ≤ x53 then (if x53 < (x51.length : Int) then ((impl_VarText.f k ((rd_T63 x51 x53).f1)).bind fun bt575 => ((some (([((rd_T63 x51 x53).f0) % 256] : List Int) : List Int)).bind fun y577 => (if (strOfNums y577).size + bt575.1.size ≤ 9223372036854775807 then (if x8.size + ((strOfNums y577) ++ bt575.1).size ≤ 9223372036854775807 then (impl_RecordText.l0 k (x8 ++ ((strOfNums y577) ++ bt575.1)) x51 x52 (wrap64 (x53 + 1)) x565000 x565001 x565002 x565003 x565004 x565005 x565006 x565007) else (none)) else (none)))) else (none)) else (none)) else ((impl_VarText.f k x565006).bind fun bt580 => (if x565007 = true then (if x8.size + bt580.1.size ≤ 9223372036854775807 then (if (x8 ++ bt580.1).size + 1 ≤ 9223372036854775807 then (some ((x8 ++ bt580.1) ++ (⟨#[1]⟩ : ByteArray), true)) else (none)) else (none)) else (if x8.size + bt580.1.size ≤ 9223372036854775807 then (if (x8 ++ bt580.1).size + 1 ≤ 9223372036854775807 then (some ((x8 ++ bt580.1) ++ (⟨#[0]⟩ : ByteArray), true)) else (none)) else (none))))
def impl_RecordText.f (k : Nat) (a0_0 : Int) (a0_1 : Int) (a0_2 : Int) (a0_3 : Int) (a0_4 : Int) (l0_5 : List (S63)) (a0_6 : Int) (a0_7 : Bool) : Option (ByteArray × Bool) := (impl_RecordOk.f k a0_0 a0_1 a0_2 a0_3 a0_4 l0_5 a0_6 a0_7).bind fun t565 => (if t565 = true then ((impl_VarText.f k a0_4).bind fun bt566 => ((impl_VarText.f k (l0_5.length : Int)).bind fun bt568 => ((some (([(a0_0) % 256, (a0_1) % 256, (a0_2) % 256, (a0_3) % 256] : List Int) : List Int)).bind fun y570 => (if (strOfNums y570).size + bt566.1.size ≤ 9223372036854775807 then (if ((strOfNums y570) ++ bt566.1).size + bt568.1.size ≤ 9223372036854775807 then (impl_RecordText.l0 k (((strOfNums y570) ++ bt566.1) ++ bt568.1) l0_5 (l0_5.length : Int) 0 a0_0 a0_1 a0_2 a0_3 a0_4 l0_5 a0_6 a0_7) else (none)) else (none))))) else (some ((⟨#[]⟩ : ByteArray), false)))
theorem impl_RecordText.mono_l : ∀ k, (∀ y0 y1 y2 y3 y4 y5 y6 y7 y8 y9 y10 y11, LeO (impl_RecordText.l0 k y0 y1 y2 y3 y4 y5 y6 y7 y8 y9 y10 y11) (impl_RecordText.l0 (k + 1) y0 y1 y2 y3 y4 y5 y6 y7 y8 y9 y10 y11))
 | 0 => fun _ _ _ _ _ _ _ _ _ _ _ _ r h => by simp [impl_RecordText.l0] at h
 | k + 1 => by
  have ih0 := impl_RecordText.mono_l k
  ·intro y0 y1 y2 y3 y4 y5 y6 y7 y8 y9 y10 y11
   unfold impl_RecordText.l0
   repeat' first
   | (with_reducible exact ih0 _ _ _ _ _ _ _ _ _ _ _ _)
   | (with_reducible exact impl_RecordOk.mono _ _ _ _ _ _ _ _ _)
   | (with_reducible exact impl_VarText.mono _ _)
   | (with_reducible exact LeO.refl _)
   | (with_reducible exact LeO.none _)
   | (with_reducible refine LeO.ite ?_ ?_)
   | (with_reducible refine LeO.bind ?_ (fun _ => ?_))
   | exact ih0 _ _ _ _ _ _ _ _ _ _ _ _
   | exact impl_RecordOk.mono _ _ _ _ _ _ _ _ _
   | exact impl_VarText.mono _ _
   | exact LeO.none _
   | refine LeO.ite ?_ ?_
   | refine LeO.bind ?_ (fun _ => ?_)
theorem impl_RecordText.mono : ∀ a0 a1 a2 a3 a4 a5 a6 a7 k, LeO (impl_RecordText.f k a0 a1 a2 a3 a4 a5 a6 a7) (impl_RecordText.f (k + 1) a0 a1 a2 a3 a4 a5 a6 a7) := by
 intro a0 a1 a2 a3 a4 a5 a6 a7 k
 have ih0 := impl_RecordText.mono_l k
 unfold impl_RecordText.f
 repeat' first
   | (with_reducible exact ih0 _ _ _ _ _ _ _ _ _ _ _ _)
   | (with_reducible exact impl_RecordOk.mono _ _ _ _ _ _ _ _ _)
   | (with_reducible exact impl_VarText.mono _ _)
   | (with_reducible exact LeO.refl _)
   | (with_reducible exact LeO.none _)
   | (with_reducible refine LeO.ite ?_ ?_)
   | (with_reducible refine LeO.bind ?_ (fun _ => ?_))
   | exact ih0 _ _ _ _ _ _ _ _ _ _ _ _
   | exact impl_RecordOk.mono _ _ _ _ _ _ _ _ _
   | exact impl_VarText.mono _ _
   | exact LeO.none _
   | refine LeO.ite ?_ ?_
   | refine LeO.bind ?_ (fun _ => ?_)
set_option maxHeartbeats 8000000 in
set_option maxRecDepth 100000 in
theorem impl_RecordText.calls (k : Nat) (a0_0 : Int) (a0_1 : Int) (a0_2 : Int) (a0_3 : Int) (a0_4 : Int) (A0_5 : Option Addr) (c0_5 : Nat) (l0_5 : List (S63)) (a0_6 : Int) (a0_7 : Bool) (r1 : ByteArray) (r2 : Bool) (w : World) (hr0_5 : Kd.C k63 w A0_5 l0_5.length l0_5) (hc0_5 : l0_5.length ≤ c0_5) (h : impl_RecordText.f k a0_0 a0_1 a0_2 a0_3 a0_4 l0_5 a0_6 a0_7 = some (r1, r2)) :
  Calls Try.prog 25 #[.agg #[.int .i64 a0_0, .int .i64 a0_1, .int .i64 a0_2, .int .i64 a0_3, .int .i64 a0_4, .slice A0_5 l0_5.length c0_5, .int .i64 a0_6, .bool a0_7]] w fun e w' => e = .returned (.tuple #[.string r1, .bool r2]) ∧ Below w.heap.size w w' := by
 have hu24 := Try.underlying24; have hu63 := Try.underlying63; have HR0_5 := Aside0.mk hr0_5; have HC0_5 := Aside0.mk hc0_5; clear hr0_5 hc0_5; have HB := Aside0.mk (Below.refl w.heap.size w)
 have H : ((impl_RecordOk.f k a0_0 a0_1 a0_2 a0_3 a0_4 l0_5 a0_6 a0_7).bind fun t565 => (if t565 = true then ((impl_VarText.f k a0_4).bind fun bt566 => ((impl_VarText.f k (l0_5.length : Int)).bind fun bt568 => ((some (([(a0_0) % 256, (a0_1) % 256, (a0_2) % 256, (a0_3) % 256] : List Int) : List Int)).bind fun y570 => (if (strOfNums y570).size + bt566.1.size ≤ 9223372036854775807 then (if ((strOfNums y570) ++ bt566.1).size + bt568.1.size ≤ 9223372036854775807 then (impl_RecordText.l0 k (((strOfNums y570) ++ bt566.1) ++ bt568.1) l0_5 (l0_5.length : Int) 0 a0_0 a0_1 a0_2 a0_3 a0_4 l0_5 a0_6 a0_7) else (none)) else (none))))) else (some ((⟨#[]⟩ : ByteArray), false)))) = some (r1, r2) := h
 clear h; replace H := Option.bind_eq_some_iff.mp H; obtain ⟨t565, A20, H⟩ := H
 replace H : (if t565 = true then ((impl_VarText.f k a0_4).bind fun bt566 => ((impl_VarText.f k (l0_5.length : Int)).bind fun bt568 => ((some (([(a0_0) % 256, (a0_1) % 256, (a0_2) % 256, (a0_3) % 256] : List Int) : List Int)).bind fun y570 => (if (strOfNums y570).size + bt566.1.size ≤ 9223372036854775807 then (if ((strOfNums y570) ++ bt566.1).size + bt568.1.size ≤ 9223372036854775807 then (impl_RecordText.l0 k (((strOfNums y570) ++ bt566.1) ++ bt568.1) l0_5 (l0_5.length : Int) 0 a0_0 a0_1 a0_2 a0_3 a0_4 l0_5 a0_6 a0_7) else (none)) else (none))))) else (some ((⟨#[]⟩ : ByteArray), false))) = some (r1, r2) := H
 have A2 := Aside0.mk A20; clear A20; have HC3 := Aside0.mk H; clear H
 go_enter Try.func25, Try.ntmps25
 go_upto_if 18 with (first | ((with_reducible refine gate_dst (N := 1) rfl ?_); refine box_q 1 #[.int .i64 a0_0, .int .i64 a0_1, .int .i64 a0_2, .int .i64 a0_3, .int .i64 a0_4, .slice A0_5 l0_5.length c0_5, .int .i64 a0_6, .bool a0_7] 24 ?_; intro gb564 hg w4 hbox hb; have BK564 := Aside0.mk (hbox); have GW564 := Aside0.mk ((by rw [hg]; exact (below_size (bw_q HB)) : w.heap.size ≤ gb564)); have GE564 := Aside0.mk ((by rw [hg]; exact (below_size (bw_q HB)) : w.heap.size ≤ gb564)); replace HB := Aside0.mk (below_step (bw_q HB) hb); clear hb hbox hg; have hcz5_0 : w4.cell? ⟨gb564, 0, none⟩ = some (.int .i64 a0_0) := (blk_cell BK564.out 0).trans rfl; have hcz5_1 : w4.cell? ⟨gb564, 1, none⟩ = some (.int .i64 a0_1) := (blk_cell BK564.out 1).trans rfl; have hcz5_2 : w4.cell? ⟨gb564, 2, none⟩ = some (.int .i64 a0_2) := (blk_cell BK564.out 2).trans rfl; have hcz5_3 : w4.cell? ⟨gb564, 3, none⟩ = some (.int .i64 a0_3) := (blk_cell BK564.out 3).trans rfl; have hcz5_4 : w4.cell? ⟨gb564, 4, none⟩ = some (.int .i64 a0_4) := (blk_cell BK564.out 4).trans rfl; have hcz5_5 : w4.cell? ⟨gb564, 5, none⟩ = some (.slice A0_5 l0_5.length c0_5) := (blk_cell BK564.out 5).trans rfl; have hcz5_6 : w4.cell? ⟨gb564, 6, none⟩ = some (.int .i64 a0_6) := (blk_cell BK564.out 6).trans rfl; have hcz5_7 : w4.cell? ⟨gb564, 7, none⟩ = some (.bool a0_7) := (blk_cell BK564.out 7).trans rfl; have hfz5_0 := blk_frozen BK564.out 0; have hfz5_1 := blk_frozen BK564.out 1; have hfz5_2 := blk_frozen BK564.out 2; have hfz5_3 := blk_frozen BK564.out 3; have hfz5_4 := blk_frozen BK564.out 4; have hfz5_5 := blk_frozen BK564.out 5; have hfz5_6 := blk_frozen BK564.out 6; have hfz5_7 := blk_frozen BK564.out 7) | ((with_reducible refine gate_callee (f := 27) rfl ?_); refine goesL_ (some 17) rfl rfl Try.func27 (by kernel_rfl) rfl #[.agg #[.int .i64 a0_0, .int .i64 a0_1, .int .i64 a0_2, .int .i64 a0_3, .int .i64 a0_4, .slice A0_5 l0_5.length c0_5, .int .i64 a0_6, .bool a0_7]] rfl mp_q ?_; (with_reducible refine (impl_RecordOk.calls k a0_0 a0_1 a0_2 a0_3 a0_4 _ _ l0_5 a0_6 a0_7 t565 _ ?side1 ?side2 A2.out).mono ?_); (case side1 => exact cs_q (Kd.C_below HR0_5.out HB.out)); (case side2 => exact HC0_5.out); rintro e w6 ⟨rfl, hb⟩; refine ⟨_, rfl, ?_⟩; replace BK564 := Aside0.mk (blk_below (g := gb564) (bk_q BK564) hb); replace HB := Aside0.mk (below_step (bw_q HB) hb); (try clear hb); (try clear hb2); (try clear hk); (try clear hi)))
 have H := HC3.out; clear HC3
 by_cases c7 : t565 = true
 ·subst c7
  replace H : ((impl_VarText.f k a0_4).bind fun bt566 => ((impl_VarText.f k (l0_5.length : Int)).bind fun bt568 => ((some (([(a0_0) % 256, (a0_1) % 256, (a0_2) % 256, (a0_3) % 256] : List Int) : List Int)).bind fun y570 => (if (strOfNums y570).size + bt566.1.size ≤ 9223372036854775807 then (if ((strOfNums y570) ++ bt566.1).size + bt568.1.size ≤ 9223372036854775807 then (impl_RecordText.l0 k (((strOfNums y570) ++ bt566.1) ++ bt568.1) l0_5 (l0_5.length : Int) 0 a0_0 a0_1 a0_2 a0_3 a0_4 l0_5 a0_6 a0_7) else (none)) else (none))))) = some (r1, r2) := by rw [if_pos rfl] at H; exact H
  replace H := Option.bind_eq_some_iff.mp H; obtain ⟨⟨t566, t567⟩, A80, H⟩ := H
  replace H : ((impl_VarText.f k (l0_5.length : Int)).bind fun bt568 => ((some (([(a0_0) % 256, (a0_1) % 256, (a0_2) % 256, (a0_3) % 256] : List Int) : List Int)).bind fun y570 => (if (strOfNums y570).size + t566.size ≤ 9223372036854775807 then (if ((strOfNums y570) ++ t566).size + bt568.1.size ≤ 9223372036854775807 then (impl_RecordText.l0 k (((strOfNums y570) ++ t566) ++ bt568.1) l0_5 (l0_5.length : Int) 0 a0_0 a0_1 a0_2 a0_3 a0_4 l0_5 a0_6 a0_7) else (none)) else (none)))) = some (r1, r2) := H
  have A8 := Aside0.mk A80; clear A80; replace H := Option.bind_eq_some_iff.mp H; obtain ⟨⟨t568, t569⟩, A90, H⟩ := H
  replace H : ((some (([(a0_0) % 256, (a0_1) % 256, (a0_2) % 256, (a0_3) % 256] : List Int) : List Int)).bind fun y570 => (if (strOfNums y570).size + t566.size ≤ 9223372036854775807 then (if ((strOfNums y570) ++ t566).size + t568.size ≤ 9223372036854775807 then (impl_RecordText.l0 k (((strOfNums y570) ++ t566) ++ t568) l0_5 (l0_5.length : Int) 0 a0_0 a0_1 a0_2 a0_3 a0_4 l0_5 a0_6 a0_7) else (none)) else (none))) = some (r1, r2) := H
  have A9 := Aside0.mk A90; clear A90; obtain ⟨y570, hy570⟩ : ∃ y_ : List Int, y_ = (([(a0_0) % 256, (a0_1) % 256, (a0_2) % 256, (a0_3) % 256] : List Int)) := ⟨_, rfl⟩
  replace H : (if (strOfNums y570).size + t566.size ≤ 9223372036854775807 then (if ((strOfNums y570) ++ t566).size + t568.size ≤ 9223372036854775807 then (impl_RecordText.l0 k (((strOfNums y570) ++ t566) ++ t568) l0_5 (l0_5.length : Int) 0 a0_0 a0_1 a0_2 a0_3 a0_4 l0_5 a0_6 a0_7) else (none)) else (none)) = some (r1, r2) := by first | (rw [hy570]; with_reducible exact H) | (have H2_ := (Option.bind_some _ _).symm.trans H; rw [hy570]; with_reducible exact H2_) | (have H2_ := (Option.bind_some _ _).symm.trans H; with_reducible exact H2_) | with_reducible exact H | (rw [hy570]; exact H) | exact H
  have Ny570 := Aside0.mk hy570; clear hy570
  by_cases c10 : (strOfNums y570).size + t566.size ≤ 9223372036854775807
  ·rw [if_pos c10] at H; have c10b0 := eq_true c10
   have c10b1 : decide ((strOfNums y570).size + t566.size ≤ 9223372036854775807) = true := decide_eq_true c10
   try have c10b2 : (9223372036854775807 < (strOfNums y570).size + t566.size) = False := eq_false (Nat.not_lt.2 c10)
   try (have c10b3 := c10b2; simp only [ByteArray.size_append] at c10b3)
   by_cases c11 : ((strOfNums y570) ++ t566).size + t568.size ≤ 9223372036854775807
   ·rw [if_pos c11] at H; have c11b0 := eq_true c11
    have c11b1 : decide (((strOfNums y570) ++ t566).size + t568.size ≤ 9223372036854775807) = true := decide_eq_true c11
    try have c11b2 : (9223372036854775807 < ((strOfNums y570) ++ t566).size + t568.size) = False := eq_false (Nat.not_lt.2 c11)
    try (have c11b3 := c11b2; simp only [ByteArray.size_append] at c11b3)
    have H' := Aside0.mk H; clear H; obtain ⟨hcz12_0, hcz12_1, hcz12_2, hcz12_3, hcz12_4, hcz12_5, hcz12_6, hcz12_7⟩ := cz8_ BK564; obtain ⟨hfz12_0, hfz12_1, hfz12_2, hfz12_3, hfz12_4, hfz12_5, hfz12_6, hfz12_7⟩ := fz8_ BK564
    go_wp2_with (first | ((with_reducible refine gate_callee (f := 54) rfl ?_); refine goesL_ (some 22) rfl rfl Try.func54 (by kernel_rfl) rfl #[.int .i64 a0_4] rfl mp_q ?_; (with_reducible refine (impl_VarText.calls k a0_4 t566 t567 _ A8.out).mono ?_); rintro e w13 ⟨rfl, hb⟩; refine ⟨_, rfl, ?_⟩; replace BK564 := Aside0.mk (blk_below (g := gb564) (bk_q BK564) hb); replace HB := Aside0.mk (below_step (bw_q HB) hb); (try clear hb); (try clear hb2); (try clear hk); (try clear hi); have hcz14_0 : w13.cell? ⟨gb564, 0, none⟩ = some (.int .i64 a0_0) := (blk_cell BK564.out 0).trans rfl; have hcz14_1 : w13.cell? ⟨gb564, 1, none⟩ = some (.int .i64 a0_1) := (blk_cell BK564.out 1).trans rfl; have hcz14_2 : w13.cell? ⟨gb564, 2, none⟩ = some (.int .i64 a0_2) := (blk_cell BK564.out 2).trans rfl; have hcz14_3 : w13.cell? ⟨gb564, 3, none⟩ = some (.int .i64 a0_3) := (blk_cell BK564.out 3).trans rfl; have hcz14_4 : w13.cell? ⟨gb564, 4, none⟩ = some (.int .i64 a0_4) := (blk_cell BK564.out 4).trans rfl; have hcz14_5 : w13.cell? ⟨gb564, 5, none⟩ = some (.slice A0_5 l0_5.length c0_5) := (blk_cell BK564.out 5).trans rfl; have hcz14_6 : w13.cell? ⟨gb564, 6, none⟩ = some (.int .i64 a0_6) := (blk_cell BK564.out 6).trans rfl; have hcz14_7 : w13.cell? ⟨gb564, 7, none⟩ = some (.bool a0_7) := (blk_cell BK564.out 7).trans rfl; have hfz14_0 := blk_frozen BK564.out 0; have hfz14_1 := blk_frozen BK564.out 1; have hfz14_2 := blk_frozen BK564.out 2; have hfz14_3 := blk_frozen BK564.out 3; have hfz14_4 := blk_frozen BK564.out 4; have hfz14_5 := blk_frozen BK564.out 5; have hfz14_6 := blk_frozen BK564.out 6; have hfz14_7 := blk_frozen BK564.out 7) | ((with_reducible refine gate_callee (f := 54) rfl ?_); refine goesL_ (some 29) rfl rfl Try.func54 (by kernel_rfl) rfl #[.int .i64 (l0_5.length : Int)] rfl mp_q ?_; (with_reducible refine (impl_VarText.calls k (l0_5.length : Int) t568 t569 _ A9.out).mono ?_); rintro e w15 ⟨rfl, hb⟩; refine ⟨_, rfl, ?_⟩; replace BK564 := Aside0.mk (blk_below (g := gb564) (bk_q BK564) hb); replace HB := Aside0.mk (below_step (bw_q HB) hb); (try clear hb); (try clear hb2); (try clear hk); (try clear hi); have hcz16_0 : w15.cell? ⟨gb564, 0, none⟩ = some (.int .i64 a0_0) := (blk_cell BK564.out 0).trans rfl; have hcz16_1 : w15.cell? ⟨gb564, 1, none⟩ = some (.int .i64 a0_1) := (blk_cell BK564.out 1).trans rfl; have hcz16_2 : w15.cell? ⟨gb564, 2, none⟩ = some (.int .i64 a0_2) := (blk_cell BK564.out 2).trans rfl; have hcz16_3 : w15.cell? ⟨gb564, 3, none⟩ = some (.int .i64 a0_3) := (blk_cell BK564.out 3).trans rfl; have hcz16_4 : w15.cell? ⟨gb564, 4, none⟩ = some (.int .i64 a0_4) := (blk_cell BK564.out 4).trans rfl; have hcz16_5 : w15.cell? ⟨gb564, 5, none⟩ = some (.slice A0_5 l0_5.length c0_5) := (blk_cell BK564.out 5).trans rfl; have hcz16_6 : w15.cell? ⟨gb564, 6, none⟩ = some (.int .i64 a0_6) := (blk_cell BK564.out 6).trans rfl; have hcz16_7 : w15.cell? ⟨gb564, 7, none⟩ = some (.bool a0_7) := (blk_cell BK564.out 7).trans rfl; have hfz16_0 := blk_frozen BK564.out 0; have hfz16_1 := blk_frozen BK564.out 1; have hfz16_2 := blk_frozen BK564.out 2; have hfz16_3 := blk_frozen BK564.out 3; have hfz16_4 := blk_frozen BK564.out 4; have hfz16_5 := blk_frozen BK564.out 5; have hfz16_6 := blk_frozen BK564.out 6; have hfz16_7 := blk_frozen BK564.out 7) | ((with_reducible refine gate_dst (N := 44) rfl ?_); refine Kd.R_lit (Kd.int .u8) _ 5 ?hg (N := 44) ?hd (xs := ([(a0_0) % 256, (a0_1) % 256, (a0_2) % 256, (a0_3) % 256] : List Int)) (inner := [.int .u8 ((a0_0) % 256), .int .u8 ((a0_1) % 256), .int .u8 ((a0_2) % 256), .int .u8 ((a0_3) % 256)]) (ok := fun _ => True) (okp := fun _ => True) ?hr ?hp (fun _ hk => hk) trivial (Below.refl _ _) (Nat.le_refl _) (by simp) ?_; (case hd => rfl); (case hg => rfl); (case hr => first | (go_simp; done) | (go_simp; rfl)); (case hp => exact (Reps.one (show Kd.M (Kd.int .u8) _ _ _ ((a0_0) % 256) [.int .u8 ((a0_0) % 256)] from rfl) (Reps.one (show Kd.M (Kd.int .u8) _ _ _ ((a0_1) % 256) [.int .u8 ((a0_1) % 256)] from rfl) (Reps.one (show Kd.M (Kd.int .u8) _ _ _ ((a0_2) % 256) [.int .u8 ((a0_2) % 256)] from rfl) (Reps.one (show Kd.M (Kd.int .u8) _ _ _ ((a0_3) % 256) [.int .u8 ((a0_3) % 256)] from rfl) (Reps.none _ _)))))); intro v571 w17 ho18 hb hg_ hnew_; clear hg_ hnew_; (first | rw [← Ny570.out] at ho18 | (simp only [Int.reduceToNat] at ho18; rw [← Ny570.out] at ho18)); have HO572 := Aside0.mk (Kd.R_lower ho18 (below_size (bw_q HB))); replace BK564 := Aside0.mk (blk_below (g := gb564) (bk_q BK564) hb); replace HB := Aside0.mk (below_step (bw_q HB) hb); clear hb ho18; have hcv19 := own_string (P := Try.prog) Try.underlying46 Try.underlying5 Try.underlying9 (Kd.own_of_R HO572.out); have hcz20_0 : w17.cell? ⟨gb564, 0, none⟩ = some (.int .i64 a0_0) := (blk_cell BK564.out 0).trans rfl; have hcz20_1 : w17.cell? ⟨gb564, 1, none⟩ = some (.int .i64 a0_1) := (blk_cell BK564.out 1).trans rfl; have hcz20_2 : w17.cell? ⟨gb564, 2, none⟩ = some (.int .i64 a0_2) := (blk_cell BK564.out 2).trans rfl; have hcz20_3 : w17.cell? ⟨gb564, 3, none⟩ = some (.int .i64 a0_3) := (blk_cell BK564.out 3).trans rfl; have hcz20_4 : w17.cell? ⟨gb564, 4, none⟩ = some (.int .i64 a0_4) := (blk_cell BK564.out 4).trans rfl; have hcz20_5 : w17.cell? ⟨gb564, 5, none⟩ = some (.slice A0_5 l0_5.length c0_5) := (blk_cell BK564.out 5).trans rfl; have hcz20_6 : w17.cell? ⟨gb564, 6, none⟩ = some (.int .i64 a0_6) := (blk_cell BK564.out 6).trans rfl; have hcz20_7 : w17.cell? ⟨gb564, 7, none⟩ = some (.bool a0_7) := (blk_cell BK564.out 7).trans rfl; have hfz20_0 := blk_frozen BK564.out 0; have hfz20_1 := blk_frozen BK564.out 1; have hfz20_2 := blk_frozen BK564.out 2; have hfz20_3 := blk_frozen BK564.out 3; have hfz20_4 := blk_frozen BK564.out 4; have hfz20_5 := blk_frozen BK564.out 5; have hfz20_6 := blk_frozen BK564.out 6; have hfz20_7 := blk_frozen BK564.out 7))
    go_loopg [8, 53] k (fun kq v8 v53 w' => ∃ (x8_1 : ByteArray) (x53_1 : Int), v8 = .string x8_1 ∧ v53 = .int .i64 x53_1 ∧ Aside0 (impl_RecordText.l0 kq x8_1 l0_5 (l0_5.length : Int) x53_1 a0_0 a0_1 a0_2 a0_3 a0_4 l0_5 a0_6 a0_7 = some (r1, r2)) ∧ Aside0 (kq ≤ k) ∧ Aside0 (w'.heap[gb564]? = some (.cells #[.int .i64 a0_0, .int .i64 a0_1, .int .i64 a0_2, .int .i64 a0_3, .int .i64 a0_4, (.slice A0_5 l0_5.length c0_5), .int .i64 a0_6, .bool a0_7] 24 (0, 0))) ∧ Aside0 (Below w.heap.size w w'))
    case atStart => exact ⟨(((strOfNums y570) ++ t566) ++ t568), (0), (by first | rfl | (simp; done) | (simp [*]; done)), (by first | rfl | (simp; done) | (simp [*]; done)), H', ⟨Nat.le_refl _⟩, ⟨by refine bz_ ?_; exact BK564.out⟩, ⟨bw_q HB⟩⟩
    case round =>
     clear H'; (try clear c1); (try clear hcv1); (try clear c2); (try clear p2); (try clear c5); (try clear c7); (try clear c10); (try clear c10b0); (try clear c10b1); (try clear c10b2); (try clear c11); (try clear c11b0); (try clear c11b1); (try clear c11b2); (try clear hcv19); (try clear hcz12_0); (try clear hcz12_1); (try clear hcz12_2); (try clear hcz12_3); (try clear hcz12_4); (try clear hcz12_5); (try clear hcz12_6); (try clear hcz12_7); (try clear hcz14_0); (try clear hcz14_1); (try clear hcz14_2); (try clear hcz14_3); (try clear hcz14_4); (try clear hcz14_5); (try clear hcz14_6); (try clear hcz14_7); (try clear hcz16_0); (try clear hcz16_1); (try clear hcz16_2); (try clear hcz16_3); (try clear hcz16_4); (try clear hcz16_5); (try clear hcz16_6); (try clear hcz16_7); (try clear hcz20_0); (try clear hcz20_1); (try clear hcz20_2); (try clear hcz20_3); (try clear hcz20_4); (try clear hcz20_5); (try clear hcz20_6); (try clear hcz20_7); (try clear hcz5_0); (try clear hcz5_1); (try clear hcz5_2); (try clear hcz5_3); (try clear hcz5_4); (try clear hcz5_5); (try clear hcz5_6); (try clear hcz5_7); (try clear hfz12_0); (try clear hfz12_1); (try clear hfz12_2); (try clear hfz12_3); (try clear hfz12_4); (try clear hfz12_5); (try clear hfz12_6); (try clear hfz12_7); (try clear hfz14_0); (try clear hfz14_1); (try clear hfz14_2); (try clear hfz14_3); (try clear hfz14_4); (try clear hfz14_5); (try clear hfz14_6); (try clear hfz14_7); (try clear hfz16_0); (try clear hfz16_1); (try clear hfz16_2); (try clear hfz16_3); (try clear hfz16_4); (try clear hfz16_5); (try clear hfz16_6); (try clear hfz16_7); (try clear hfz20_0); (try clear hfz20_1); (try clear hfz20_2); (try clear hfz20_3); (try clear hfz20_4); (try clear hfz20_5); (try clear hfz20_6); (try clear hfz20_7); (try clear hfz5_0); (try clear hfz5_1); (try clear hfz5_2); (try clear hfz5_3); (try clear hfz5_4); (try clear hfz5_5); (try clear hfz5_6); (try clear hfz5_7); obtain ⟨x8_1, x53_1, rfl, rfl, HA, HK1, BK564, HB⟩ := hrel
     cases gk with
     | zero => exact absurd HA.out (by simp [impl_RecordText.l0])
     | succ k1 =>
      have H := HA.out; clear HA
      simp only [impl_RecordText.l0] at H
      by_cases c21 : x53_1 < (l0_5.length : Int)
      ·rw [if_pos c21] at H
       have c21b0 : decide (x53_1 < (l0_5.length : Int)) = true := decide_eq_true c21
       clear c21
       (first | rw [c21b0] | rw [c21b1] | (simp only [i64_w, i32_w]; first | rw [c21b0] | rw [c21b1]) | skip)
       by_cases c22 : 0 ≤ x53_1
       ·rw [if_pos c22] at H
        have c22b0 : decide (0 ≤ x53_1) = true := decide_eq_true c22
        clear c22
        by_cases c23 : x53_1 < (l0_5.length : Int)
        ·rw [if_pos c23] at H
         have c23b0 : decide (x53_1 < (l0_5.length : Int)) = true := decide_eq_true c23
         clear c23; replace H := Option.bind_eq_some_iff.mp H; obtain ⟨⟨t575, t576⟩, A240, H⟩ := H
         replace H : ((some (([((rd_T63 l0_5 x53_1).f0) % 256] : List Int) : List Int)).bind fun y577 => (if (strOfNums y577).size + t575.size ≤ 9223372036854775807 then (if x8_1.size + ((strOfNums y577) ++ t575).size ≤ 9223372036854775807 then (impl_RecordText.l0 k1 (x8_1 ++ ((strOfNums y577) ++ t575)) l0_5 (l0_5.length : Int) (wrap64 (x53_1 + 1)) a0_0 a0_1 a0_2 a0_3 a0_4 l0_5 a0_6 a0_7) else (none)) else (none))) = some (r1, r2) := H
         have A24 := Aside0.mk A240; clear A240; obtain ⟨y577, hy577⟩ : ∃ y_ : List Int, y_ = (([((rd_T63 l0_5 x53_1).f0) % 256] : List Int)) := ⟨_, rfl⟩
         replace H : (if (strOfNums y577).size + t575.size ≤ 9223372036854775807 then (if x8_1.size + ((strOfNums y577) ++ t575).size ≤ 9223372036854775807 then (impl_RecordText.l0 k1 (x8_1 ++ ((strOfNums y577) ++ t575)) l0_5 (l0_5.length : Int) (wrap64 (x53_1 + 1)) a0_0 a0_1 a0_2 a0_3 a0_4 l0_5 a0_6 a0_7) else (none)) else (none)) = some (r1, r2) := by first | (rw [hy577]; with_reducible exact H) | (have H2_ := (Option.bind_some _ _).symm.trans H; rw [hy577]; with_reducible exact H2_) | (have H2_ := (Option.bind_some _ _).symm.trans H; with_reducible exact H2_) | with_reducible exact H | (rw [hy577]; exact H) | exact H
         have Ny577 := Aside0.mk hy577; clear hy577
         by_cases c25 : (strOfNums y577).size + t575.size ≤ 9223372036854775807
         ·rw [if_pos c25] at H; have c25b0 := eq_true c25
          have c25b1 : decide ((strOfNums y577).size + t575.size ≤ 9223372036854775807) = true := decide_eq_true c25
          try have c25b2 : (9223372036854775807 < (strOfNums y577).size + t575.size) = False := eq_false (Nat.not_lt.2 c25)
          try (have c25b3 := c25b2; simp only [ByteArray.size_append] at c25b3)
          by_cases c26 : x8_1.size + ((strOfNums y577) ++ t575).size ≤ 9223372036854775807
          ·rw [if_pos c26] at H; have c26b0 := eq_true c26
           have c26b1 : decide (x8_1.size + ((strOfNums y577) ++ t575).size ≤ 9223372036854775807) = true := decide_eq_true c26
           try have c26b2 : (9223372036854775807 < x8_1.size + ((strOfNums y577) ++ t575).size) = False := eq_false (Nat.not_lt.2 c26)
           try (have c26b3 := c26b2; simp only [ByteArray.size_append] at c26b3)
           have H' := Aside0.mk H; clear H
           have p573 : 0 ≤ (x53_1 : Int) := of_decide_eq_true as_q
           have q573 : x53_1 < (l0_5.length : Int) := of_decide_eq_true as_q
           obtain ⟨ad573, e573, hx573_0, hx573_1⟩ := at_T63 HR0_5.out x53_1 p573 q573
           cases e573
           replace hx573_0 := (HB.out.cell (World.block_lt_of_cell? w _ hx573_0)).trans hx573_0
           replace hx573_1 := (HB.out.cell (World.block_lt_of_cell? w _ hx573_1)).trans hx573_1
           replace p573 := eq_true p573; replace q573 := eq_true q573
           go_wp2_with (first | ((with_reducible refine gate_dst (N := 10) rfl ?_); refine box_q 10 #[.int .i64 0, .int .i64 0] 63 ?_; intro gb574 hg w27 hbox hb; have BK574 := Aside0.mk (hbox); have GW574 := Aside0.mk ((by rw [hg]; exact (below_size (bw_q HB)) : w.heap.size ≤ gb574)); have GE574 := Aside0.mk ((by rw [hg]; exact (below_size (bw_q HB)) : w.heap.size ≤ gb574)); replace HB := Aside0.mk (below_step (bw_q HB) hb); have NB564_574 := Aside0.mk ((by rw [hg]; exact Nat.ne_of_lt (blk_lt (g := gb564) (o := .cells #[.int .i64 a0_0, .int .i64 a0_1, .int .i64 a0_2, .int .i64 a0_3, .int .i64 a0_4, .slice (some ad573) l0_5.length c0_5, .int .i64 a0_6, .bool a0_7] 24 (0, 0)) (bk_q BK564)) : gb564 ≠ gb574)); have NB574_564 := Aside0.mk ((by rw [hg]; exact Nat.ne_of_gt (blk_lt (g := gb564) (o := .cells #[.int .i64 a0_0, .int .i64 a0_1, .int .i64 a0_2, .int .i64 a0_3, .int .i64 a0_4, .slice (some ad573) l0_5.length c0_5, .int .i64 a0_6, .bool a0_7] 24 (0, 0)) (bk_q BK564)) : gb574 ≠ gb564)); replace BK564 := Aside0.mk (blk_below (g := gb564) (bk_q BK564) hb); clear hb hbox hg; have hnb28 := NB574_564.out; have hnc28 := NB564_574.out; have hcz29_0 : w27.cell? ⟨gb574, 0, none⟩ = some (.int .i64 0) := (blk_cell BK574.out 0).trans rfl; have hcz29_1 : w27.cell? ⟨gb574, 1, none⟩ = some (.int .i64 0) := (blk_cell BK574.out 1).trans rfl; have hfz29_0 := blk_frozen BK574.out 0; have hfz29_1 := blk_frozen BK574.out 1) | ((with_reducible refine gate_callee (f := 54) rfl ?_); refine goesL_ (some 60) rfl rfl Try.func54 (by kernel_rfl) rfl #[.int .i64 ((rd_T63 l0_5 x53_1).f1)] rfl mp_q ?_; (with_reducible refine (impl_VarText.calls k1 ((rd_T63 l0_5 x53_1).f1) t575 t576 _ A24.out).mono ?_); rintro e w30 ⟨rfl, hb⟩; refine ⟨_, rfl, ?_⟩; replace BK564 := Aside0.mk (blk_below (g := gb564) (o := .cells #[.int .i64 a0_0, .int .i64 a0_1, .int .i64 a0_2, .int .i64 a0_3, .int .i64 a0_4, .slice (some ad573) l0_5.length c0_5, .int .i64 a0_6, .bool a0_7] 24 (0, 0)) (by refine bz_ ?_; refine blk_far ?_ NB564_574.out _; refine bz_ ?_; refine blk_far ?_ NB564_574.out _; refine bz_ ?_; exact BK564.out) hb); replace BK574 := Aside0.mk (blk_below (g := gb574) (o := .cells #[.int .i64 ((rd_T63 l0_5 x53_1).f0), .int .i64 ((rd_T63 l0_5 x53_1).f1)] 63 (0, 0)) (by refine bz_ ?_; refine blk_put (cs := #[.int .i64 ((rd_T63 l0_5 x53_1).f0), .int .i64 0]) ?_ 1 _ rfl; refine bz_ ?_; refine blk_put (cs := #[.int .i64 0, .int .i64 0]) ?_ 0 _ rfl; refine bz_ ?_; exact BK574.out) hb); replace HB := Aside0.mk (below_step (bw_q HB) hb); (try clear hb); (try clear hb2); (try clear hk); (try clear hi); have hcz31_0 : w30.cell? ⟨gb574, 0, none⟩ = some (.int .i64 ((rd_T63 l0_5 x53_1).f0)) := (blk_cell BK574.out 0).trans rfl; have hcz31_1 : w30.cell? ⟨gb574, 1, none⟩ = some (.int .i64 ((rd_T63 l0_5 x53_1).f1)) := (blk_cell BK574.out 1).trans rfl; have hfz31_0 := blk_frozen BK574.out 0; have hfz31_1 := blk_frozen BK574.out 1) | ((with_reducible refine gate_dst (N := 67) rfl ?_); refine Kd.R_lit (Kd.int .u8) _ 5 ?hg (N := 67) ?hd (xs := ([((rd_T63 l0_5 x53_1).f0) % 256] : List Int)) (inner := [.int .u8 (((rd_T63 l0_5 x53_1).f0) % 256)]) (ok := fun _ => True) (okp := fun _ => True) ?hr ?hp (fun _ hk => hk) trivial (Below.refl _ _) (Nat.le_refl _) (by simp) ?_; (case hd => rfl); (case hg => rfl); (case hr => first | (go_simp; done) | (go_simp; rfl)); (case hp => exact (Reps.one (show Kd.M (Kd.int .u8) _ _ _ (((rd_T63 l0_5 x53_1).f0) % 256) [.int .u8 (((rd_T63 l0_5 x53_1).f0) % 256)] from rfl) (Reps.none _ _))); intro v578 w32 ho33 hb hg_ hnew_; clear hg_ hnew_; (first | rw [← Ny577.out] at ho33 | (simp only [Int.reduceToNat] at ho33; rw [← Ny577.out] at ho33)); have HO579 := Aside0.mk (Kd.R_lower ho33 (below_size (bw_q HB))); replace BK564 := Aside0.mk (blk_below (g := gb564) (bk_q BK564) hb); replace BK574 := Aside0.mk (blk_below (g := gb574) (bk_q BK574) hb); replace HB := Aside0.mk (below_step (bw_q HB) hb); clear hb ho33; have hcv34 := own_string (P := Try.prog) Try.underlying46 Try.underlying5 Try.underlying9 (Kd.own_of_R HO579.out)))
           go_roundg k1
           case measure => have := HK1.out; omega
           case rel => exact ⟨(x8_1 ++ ((strOfNums y577) ++ t575)), (wrap64 (x53_1 + 1)), (by first | rfl | (simp; done) | (simp [*]; done)), (by first | rfl | (simp; done) | (simp [*]; done)), H', ⟨by have := HK1.out; omega⟩, ⟨by refine bz_ ?_; exact BK564.out⟩, ⟨bw_q HB⟩⟩
          ·rw [if_neg c26] at H
           exact absurd H (by simp)
         ·rw [if_neg c25] at H
          exact absurd H (by simp)
        ·rw [if_neg c23] at H
         exact absurd H (by simp)
       ·rw [if_neg c22] at H
        exact absurd H (by simp)
      ·rw [if_neg c21] at H
       have c21b0 : decide (x53_1 < (l0_5.length : Int)) = false := decide_eq_false c21
       clear c21
       (first | rw [c21b0] | rw [c21b1] | (simp only [i64_w, i32_w]; first | rw [c21b0] | rw [c21b1]) | skip)
       replace H := Option.bind_eq_some_iff.mp H; obtain ⟨⟨t580, t581⟩, A350, H⟩ := H
       replace H : (if a0_7 = true then (if x8_1.size + t580.size ≤ 9223372036854775807 then (if (x8_1 ++ t580).size + 1 ≤ 9223372036854775807 then (some ((x8_1 ++ t580) ++ (⟨#[1]⟩ : ByteArray), true)) else (none)) else (none)) else (if x8_1.size + t580.size ≤ 9223372036854775807 then (if (x8_1 ++ t580).size + 1 ≤ 9223372036854775807 then (some ((x8_1 ++ t580) ++ (⟨#[0]⟩ : ByteArray), true)) else (none)) else (none))) = some (r1, r2) := H
       have A35 := Aside0.mk A350; clear A350; have HC36 := Aside0.mk H; clear H; obtain ⟨hcz37_0, hcz37_1, hcz37_2, hcz37_3, hcz37_4, hcz37_5, hcz37_6, hcz37_7⟩ := cz8_ BK564; obtain ⟨hfz37_0, hfz37_1, hfz37_2, hfz37_3, hfz37_4, hfz37_5, hfz37_6, hfz37_7⟩ := fz8_ BK564
       go_upto_if 80 with (first | ((with_reducible refine gate_callee (f := 54) rfl ?_); refine goesL_ (some 76) rfl rfl Try.func54 (by kernel_rfl) rfl #[.int .i64 a0_6] rfl mp_q ?_; (with_reducible refine (impl_VarText.calls k1 a0_6 t580 t581 _ A35.out).mono ?_); rintro e w38 ⟨rfl, hb⟩; refine ⟨_, rfl, ?_⟩; replace BK564 := Aside0.mk (blk_below (g := gb564) (bk_q BK564) hb); replace HB := Aside0.mk (below_step (bw_q HB) hb); (try clear hb); (try clear hb2); (try clear hk); (try clear hi); have hcz39_0 : w38.cell? ⟨gb564, 0, none⟩ = some (.int .i64 a0_0) := (blk_cell BK564.out 0).trans rfl; have hcz39_1 : w38.cell? ⟨gb564, 1, none⟩ = some (.int .i64 a0_1) := (blk_cell BK564.out 1).trans rfl; have hcz39_2 : w38.cell? ⟨gb564, 2, none⟩ = some (.int .i64 a0_2) := (blk_cell BK564.out 2).trans rfl; have hcz39_3 : w38.cell? ⟨gb564, 3, none⟩ = some (.int .i64 a0_3) := (blk_cell BK564.out 3).trans rfl; have hcz39_4 : w38.cell? ⟨gb564, 4, none⟩ = some (.int .i64 a0_4) := (blk_cell BK564.out 4).trans rfl; have hcz39_5 : w38.cell? ⟨gb564, 5, none⟩ = some (.slice A0_5 l0_5.length c0_5) := (blk_cell BK564.out 5).trans rfl; have hcz39_6 : w38.cell? ⟨gb564, 6, none⟩ = some (.int .i64 a0_6) := (blk_cell BK564.out 6).trans rfl; have hcz39_7 : w38.cell? ⟨gb564, 7, none⟩ = some (.bool a0_7) := (blk_cell BK564.out 7).trans rfl; have hfz39_0 := blk_frozen BK564.out 0; have hfz39_1 := blk_frozen BK564.out 1; have hfz39_2 := blk_frozen BK564.out 2; have hfz39_3 := blk_frozen BK564.out 3; have hfz39_4 := blk_frozen BK564.out 4; have hfz39_5 := blk_frozen BK564.out 5; have hfz39_6 := blk_frozen BK564.out 6; have hfz39_7 := blk_frozen BK564.out 7))
       have H := HC36.out; clear HC36
       by_cases c40 : a0_7 = true
       ·subst c40
        replace H : (if x8_1.size + t580.size ≤ 9223372036854775807 then (if (x8_1 ++ t580).size + 1 ≤ 9223372036854775807 then (some ((x8_1 ++ t580) ++ (⟨#[1]⟩ : ByteArray), true)) else (none)) else (none)) = some (r1, r2) := by rw [if_pos rfl] at H; exact H
        by_cases c41 : x8_1.size + t580.size ≤ 9223372036854775807
        ·rw [if_pos c41] at H; have c41b0 := eq_true c41
         have c41b1 : decide (x8_1.size + t580.size ≤ 9223372036854775807) = true := decide_eq_true c41
         try have c41b2 : (9223372036854775807 < x8_1.size + t580.size) = False := eq_false (Nat.not_lt.2 c41)
         try (have c41b3 := c41b2; simp only [ByteArray.size_append] at c41b3)
         by_cases c42 : (x8_1 ++ t580).size + 1 ≤ 9223372036854775807
         ·rw [if_pos c42] at H; have c42b0 := eq_true c42
          have c42b1 : decide ((x8_1 ++ t580).size + 1 ≤ 9223372036854775807) = true := decide_eq_true c42
          try have c42b2 : (9223372036854775807 < (x8_1 ++ t580).size + 1) = False := eq_false (Nat.not_lt.2 c42)
          try (have c42b3 := c42b2; simp only [ByteArray.size_append] at c42b3)
          simp only [Option.some.injEq, Prod.mk.injEq] at H
          obtain ⟨rfl, rfl⟩ := H
          go_wp2
          go_ret2
          exact ⟨er_q, bw_q HB⟩
         ·rw [if_neg c42] at H
          exact absurd H (by simp)
        ·rw [if_neg c41] at H
         exact absurd H (by simp)
       ·replace c40 := Bool.eq_false_iff.mpr c40; subst c40
        replace H : (if x8_1.size + t580.size ≤ 9223372036854775807 then (if (x8_1 ++ t580).size + 1 ≤ 9223372036854775807 then (some ((x8_1 ++ t580) ++ (⟨#[0]⟩ : ByteArray), true)) else (none)) else (none)) = some (r1, r2) := by rw [if_neg (show ¬ (false = true) by decide)] at H; exact H
        by_cases c43 : x8_1.size + t580.size ≤ 9223372036854775807
        ·rw [if_pos c43] at H; have c43b0 := eq_true c43
         have c43b1 : decide (x8_1.size + t580.size ≤ 9223372036854775807) = true := decide_eq_true c43
         try have c43b2 : (9223372036854775807 < x8_1.size + t580.size) = False := eq_false (Nat.not_lt.2 c43)
         try (have c43b3 := c43b2; simp only [ByteArray.size_append] at c43b3)
         by_cases c44 : (x8_1 ++ t580).size + 1 ≤ 9223372036854775807
         ·rw [if_pos c44] at H; have c44b0 := eq_true c44
          have c44b1 : decide ((x8_1 ++ t580).size + 1 ≤ 9223372036854775807) = true := decide_eq_true c44
          try have c44b2 : (9223372036854775807 < (x8_1 ++ t580).size + 1) = False := eq_false (Nat.not_lt.2 c44)
          try (have c44b3 := c44b2; simp only [ByteArray.size_append] at c44b3)
          simp only [Option.some.injEq, Prod.mk.injEq] at H
          obtain ⟨rfl, rfl⟩ := H
          go_wp2
          go_ret2
          exact ⟨er_q, bw_q HB⟩
         ·rw [if_neg c44] at H
          exact absurd H (by simp)
        ·rw [if_neg c43] at H
         exact absurd H (by simp)
   ·rw [if_neg c11] at H
    exact absurd H (by simp)
  ·rw [if_neg c10] at H
   exact absurd H (by simp)
 ·replace c7 := Bool.eq_false_iff.mpr c7; subst c7
  replace H : (some ((⟨#[]⟩ : ByteArray), false)) = some (r1, r2) := by rw [if_neg (show ¬ (false = true) by decide)] at H; exact H
  simp only [Option.some.injEq, Prod.mk.injEq] at H
  obtain ⟨rfl, rfl⟩ := H
  go_wp2
  go_ret2
  exact ⟨er_q, bw_q HB⟩

end Go.Proofs.Ytnecbkognpponaa.Q

/- A Go function as a Lean function, and its contract: for every input the Go code comes to what the Lean function tells. -/

namespace Go.Proofs.Ytnecbkognpponaa.Q
open Go.RowKit Go.Proofs.YtnecbkognpponaaW.PrintWords Go.Proofs.YtnecbkognpponaaW.PrintLast Go.Proofs.YtnecbkognpponaaW.PrintMore
attribute [local go_sem] max2_int min2_int max_two min_two max_three min_three max_four min_four   -- for this text's walks alone
set_option linter.unusedVariables false
set_option linter.unusedSimpArgs false

/-! ### impl_SumMore: function 36 -/
mutual
def impl_SumMore.l0 : Nat → Int → ByteArray → Int → Int → Option (Int)
 | 0, _, _, _, _ => none
 | k + 1, x0, x1, x8, x9 => if x9 < x8 then (if 0 ≤ x9 then (if x9 < (x1.size : Int) then (impl_SumMore.l1 k (Go.bits .xor .u32 x0 ((bt x1 x9) % 4294967296)) x1 x8 x9 0) else (none)) else (none)) else (some x0)
def impl_SumMore.l1 : Nat → Int → ByteArray → Int → Int → Int → Option (Int)
 | 0, _, _, _, _, _ => none
 | k + 1, x0, x1, x8, x9, x18 => if x18 < 8 then (if (Go.bits .and .u32 x0 1) = 1 then (impl_SumMore.l1 k (Go.bits .xor .u32 (x0 / 2) 3558460437) x1 x8 x9 (wrap64 (x18 + 1))) else (impl_SumMore.l1 k (x0 / 2) x1 x8 x9 (wrap64 (x18 + 1)))) else (impl_SumMore.l0 k x0 x1 x8 (wrap64 (x9 + 1)))
end
def impl_SumMore.f (k : Nat) (a0 : Int) (a1 : ByteArray) : Option (Int) := impl_SumMore.l0 k a0 a1 (a1.size : Int) 0
theorem impl_SumMore.mono_l : ∀ k, (∀ y0 y1 y2 y3, LeO (impl_SumMore.l0 k y0 y1 y2 y3) (impl_SumMore.l0 (k + 1) y0 y1 y2 y3)) ∧ (∀ y0 y1 y2 y3 y4, LeO (impl_SumMore.l1 k y0 y1 y2 y3 y4) (impl_SumMore.l1 (k + 1) y0 y1 y2 y3 y4))
 | 0 => ⟨fun _ _ _ _ r h => by simp [impl_SumMore.l0] at h, fun _ _ _ _ _ r h => by simp [impl_SumMore.l1] at h⟩
 | k + 1 => by
  obtain ⟨ih0, ih1⟩ := impl_SumMore.mono_l k
  refine ⟨?_, ?_⟩
  ·intro y0 y1 y2 y3
   unfold impl_SumMore.l0
   repeat' first
   | (with_reducible exact ih0 _ _ _ _)
   | (with_reducible exact ih1 _ _ _ _ _)
   | (with_reducible exact LeO.refl _)
   | (with_reducible exact LeO.none _)
   | (with_reducible refine LeO.ite ?_ ?_)
   | (with_reducible refine LeO.bind ?_ (fun _ => ?_))
   | exact ih0 _ _ _ _
   | exact ih1 _ _ _ _ _
   | exact LeO.none _
   | refine LeO.ite ?_ ?_
   | refine LeO.bind ?_ (fun _ => ?_)
  ·intro y0 y1 y2 y3 y4
   unfold impl_SumMore.l1
   repeat' first
   | (with_reducible exact ih0 _ _ _ _)
   | (with_reducible exact ih1 _ _ _ _ _)
   | (with_reducible exact LeO.refl _)
   | (with_reducible exact LeO.none _)
   | (with_reducible refine LeO.ite ?_ ?_)
   | (with_reducible refine LeO.bind ?_ (fun _ => ?_))
   | exact ih0 _ _ _ _
   | exact ih1 _ _ _ _ _
   | exact LeO.none _
   | refine LeO.ite ?_ ?_
   | refine LeO.bind ?_ (fun _ => ?_)
theorem impl_SumMore.mono : ∀ a0 a1 k, LeO (impl_SumMore.f k a0 a1) (impl_SumMore.f (k + 1) a0 a1) := by
 intro a0 a1 k
 obtain ⟨ih0, ih1⟩ := impl_SumMore.mono_l k
 unfold impl_SumMore.f
 repeat' first
   | (with_reducible exact ih0 _ _ _ _)
   | (with_reducible exact ih1 _ _ _ _ _)
   | (with_reducible exact LeO.refl _)
   | (with_reducible exact LeO.none _)
   | (with_reducible refine LeO.ite ?_ ?_)
   | (with_reducible refine LeO.bind ?_ (fun _ => ?_))
   | exact ih0 _ _ _ _
   | exact ih1 _ _ _ _ _
   | exact LeO.none _
   | refine LeO.ite ?_ ?_
   | refine LeO.bind ?_ (fun _ => ?_)
set_option maxHeartbeats 8000000 in
set_option maxRecDepth 100000 in
theorem impl_SumMore.calls (k : Nat) (a0 : Int) (a1 : ByteArray) (r : Int) (w : World) (h : impl_SumMore.f k a0 a1 = some r) :
  Calls Try.prog 36 #[.int .u32 a0, .string a1] w fun e w' => e = .returned (.int .u32 r) ∧ Drawn0 w w' := by
 have H : (impl_SumMore.l0 k a0 a1 (a1.size : Int) 0) = some r := h
 clear h; have H' := Aside0.mk H; clear H
 go_enter Try.func36, Try.ntmps36
 go_wp2
 go_loopg [0, 9] k (fun kq v0 v9 w' => ∃ (x0_1 : Int) (x9_1 : Int), v0 = .int .u32 x0_1 ∧ v9 = .int .i64 x9_1 ∧ Aside0 (impl_SumMore.l0 kq x0_1 a1 (a1.size : Int) x9_1 = some r) ∧ Aside0 (kq ≤ k) ∧ Drawn0 w w')
 case atStart => exact ⟨(a0), (0), (by first | rfl | (simp; done) | (simp [*]; done)), (by first | rfl | (simp; done) | (simp [*]; done)), H', ⟨Nat.le_refl _⟩, by repeat (first | exact Drawn0.refl _ | apply Drawn0.step)⟩
 case round =>
  clear H'; (try clear p2); obtain ⟨x0_1, x9_1, rfl, rfl, HA, HK1, ⟨m1, rfl⟩⟩ := hrel
  cases gk with
  | zero => exact absurd HA.out (by simp [impl_SumMore.l0])
  | succ k1 =>
   have H := HA.out; clear HA
   simp only [impl_SumMore.l0] at H
   by_cases c3 : x9_1 < (a1.size : Int)
   ·rw [if_pos c3] at H
    have c3b0 : decide (x9_1 < (a1.size : Int)) = true := decide_eq_true c3
    clear c3
    by_cases c4 : 0 ≤ x9_1
    ·rw [if_pos c4] at H
     have c4b0 : decide (0 ≤ x9_1) = true := decide_eq_true c4
     clear c4
     by_cases c5 : x9_1 < (a1.size : Int)
     ·rw [if_pos c5] at H
      have c5b0 : decide (x9_1 < (a1.size : Int)) = true := decide_eq_true c5
      clear c5; have H' := Aside0.mk H; clear H
      have p6 : 0 ≤ (x9_1 : Int) := of_decide_eq_true as_q
      have q6 : x9_1 < (a1.size : Int) := of_decide_eq_true as_q
      have hx6 := bt_at a1 x9_1; replace p6 := eq_true p6; replace q6 := eq_true q6
      go_wp2
      go_loopg [0, 18] k1 (fun kq v0 v18 w' => ∃ (x0_2 : Int) (x18_2 : Int), v0 = .int .u32 x0_2 ∧ v18 = .int .i64 x18_2 ∧ Aside0 (impl_SumMore.l1 kq x0_2 a1 (a1.size : Int) x9_1 x18_2 = some r) ∧ Aside0 (kq ≤ k1) ∧ Drawn0 w w')
      case atStart => exact ⟨(Go.bits .xor .u32 x0_1 ((bt a1 x9_1) % 4294967296)), (0), (by first | rfl | (simp; done) | (simp [*]; done)), (by first | rfl | (simp; done) | (simp [*]; done)), H', ⟨Nat.le_refl _⟩, by repeat (first | exact Drawn0.refl _ | apply Drawn0.step)⟩
      case round =>
       clear H'; (try clear p2); (try clear c3); (try clear c3b0); (try clear c4); (try clear c4b0); (try clear c5); (try clear c5b0); (try clear p6); (try clear q6); (try clear hx6); (try clear p2); (try clear p6); (try clear q6); obtain ⟨x0_2, x18_2, rfl, rfl, HA, HK2, ⟨m2, rfl⟩⟩ := hrel
       cases gk with
       | zero => exact absurd HA.out (by simp [impl_SumMore.l1])
       | succ k2 =>
        have H := HA.out; clear HA
        simp only [impl_SumMore.l1] at H
        by_cases c7 : x18_2 < 8
        ·rw [if_pos c7] at H
         have c7b0 : decide (x18_2 < 8) = true := decide_eq_true c7
         clear c7
         by_cases c8 : (Go.bits .and .u32 x0_2 1) = 1
         ·rw [if_pos c8] at H
          have c8b0 : ((Go.bits .and .u32 x0_2 1) == 1) = true := beq_iff_eq.mpr c8
          have c8b1 : ((Go.bits .and .u32 x0_2 1) != 1) = false := bne_eq_false_iff_eq.mpr c8
          clear c8; have H' := Aside0.mk H; clear H
          go_wp2
          go_roundg k2
          case measure => have := HK1.out; have := HK2.out; omega
          case rel => exact ⟨(Go.bits .xor .u32 (x0_2 / 2) 3558460437), (wrap64 (x18_2 + 1)), (by first | rfl | (simp; done) | (simp [*]; done)), (by first | rfl | (simp; done) | (simp [*]; done)), H', ⟨by have := HK1.out; have := HK2.out; omega⟩, by repeat (first | exact Drawn0.refl _ | apply Drawn0.step)⟩
         ·rw [if_neg c8] at H
          have c8b0 : ((Go.bits .and .u32 x0_2 1) == 1) = false := beq_eq_false_iff_ne.mpr c8
          have c8b1 : ((Go.bits .and .u32 x0_2 1) != 1) = true := bne_iff_ne.mpr c8
          have H' := Aside0.mk H; clear H
          go_wp2
          go_roundg k2
          case measure => have := HK1.out; have := HK2.out; omega
          case rel => exact ⟨(x0_2 / 2), (wrap64 (x18_2 + 1)), (by first | rfl | (simp; done) | (simp [*]; done)), (by first | rfl | (simp; done) | (simp [*]; done)), H', ⟨by have := HK1.out; have := HK2.out; omega⟩, by repeat (first | exact Drawn0.refl _ | apply Drawn0.step)⟩
        ·rw [if_neg c7] at H
         have c7b0 : decide (x18_2 < 8) = false := decide_eq_false c7
         clear c7; have H' := Aside0.mk H; clear H
         go_wp2
         go_roundg k2
         case measure => have := HK1.out; have := HK2.out; omega
         case rel => exact ⟨(x0_2), (wrap64 (x9_1 + 1)), (by first | rfl | (simp; done) | (simp [*]; done)), (by first | rfl | (simp; done) | (simp [*]; done)), H', ⟨by have := HK1.out; have := HK2.out; omega⟩, by repeat (first | exact Drawn0.refl _ | apply Drawn0.step)⟩
     ·rw [if_neg c5] at H
      exact absurd H (by simp)
    ·rw [if_neg c4] at H
     exact absurd H (by simp)
   ·rw [if_neg c3] at H
    have c3b0 : decide (x9_1 < (a1.size : Int)) = false := decide_eq_false c3
    clear c3; obtain rfl := Option.some.inj H
    go_wp2
    go_ret
    exact ⟨by first | rfl | (simp; done) | (simp [*]; done), by repeat (first | exact Drawn0.refl _ | apply Drawn0.step)⟩

end Go.Proofs.Ytnecbkognpponaa.Q

/- A Go function as a Lean function, and its contract: for every input the Go code comes to what the Lean function tells. -/


namespace Go.Proofs.Ytnecbkognpponaa.Q
open Go.RowKit Go.Proofs.YtnecbkognpponaaW.PrintWords Go.Proofs.YtnecbkognpponaaW.PrintLast Go.Proofs.YtnecbkognpponaaW.PrintMore
attribute [local go_sem] max2_int min2_int max_two min_two max_three min_three max_four min_four   -- for this text's walks alone
set_option linter.unusedVariables false
set_option linter.unusedSimpArgs false

/-! ### impl_SumOf: function 37 -/
def impl_SumOf.f (k : Nat) (a0 : ByteArray) : Option (Int) := (impl_SumMore.f k 4294967295 a0).bind fun t582 => (some t582)
theorem impl_SumOf.mono : ∀ a0 k, LeO (impl_SumOf.f k a0) (impl_SumOf.f (k + 1) a0) := by
 intro a0 k
 unfold impl_SumOf.f
 repeat' first
   | (with_reducible exact impl_SumMore.mono _ _ _)
   | (with_reducible exact LeO.refl _)
   | (with_reducible exact LeO.none _)
   | (with_reducible refine LeO.ite ?_ ?_)
   | (with_reducible refine LeO.bind ?_ (fun _ => ?_))
   | exact impl_SumMore.mono _ _ _
   | exact LeO.none _
   | refine LeO.ite ?_ ?_
   | refine LeO.bind ?_ (fun _ => ?_)
set_option maxHeartbeats 8000000 in
set_option maxRecDepth 100000 in
theorem impl_SumOf.calls (k : Nat) (a0 : ByteArray) (r : Int) (w : World) (h : impl_SumOf.f k a0 = some r) :
  Calls Try.prog 37 #[.string a0] w fun e w' => e = .returned (.int .u32 r) ∧ Drawn0 w w' := by
 have H : ((impl_SumMore.f k 4294967295 a0).bind fun t582 => (some t582)) = some r := h
 clear h; replace H := Option.bind_eq_some_iff.mp H; obtain ⟨t582, A20, H⟩ := H
 replace H : (some t582) = some r := H
 have A2 := Aside0.mk A20; clear A20; obtain rfl := Option.some.inj H
 go_enter Try.func37, Try.ntmps37
 go_wp2_with (first | ((with_reducible refine gate_callee (f := 36) rfl ?_); refine goesL_ (some 4) rfl rfl Try.func36 (by kernel_rfl) rfl #[.int .u32 4294967295, .string a0] rfl mp_q ?_; (with_reducible refine (impl_SumMore.calls k 4294967295 a0 t582 _ A2.out).mono ?_); rintro e w' ⟨rfl, ⟨nd, rfl⟩⟩; refine ⟨_, rfl, ?_⟩))
 go_ret
 exact ⟨by first | rfl | (simp; done) | (simp [*]; done), by repeat (first | exact Drawn0.refl _ | apply Drawn0.step)⟩

end Go.Proofs.Ytnecbkognpponaa.Q

/- A Go function as a Lean function, and its contract: for every input the Go code comes to what the Lean function tells. -/


namespace Go.Proofs.Ytnecbkognpponaa.Q
open Go.RowKit Go.Proofs.YtnecbkognpponaaW.PrintWords Go.Proofs.YtnecbkognpponaaW.PrintLast Go.Proofs.YtnecbkognpponaaW.PrintMore
attribute [local go_sem] max2_int min2_int max_two min_two max_three min_three max_four min_four   -- for this text's walks alone
set_option linter.unusedVariables false
set_option linter.unusedSimpArgs false

/-! ### impl_Sealed: function 34 -/
def impl_Sealed.f (k : Nat) (a0 : ByteArray) : Option (ByteArray × Bool) := if (a0.size : Int) > 20000 then (some ((⟨#[]⟩ : ByteArray), false)) else ((impl_SumOf.f k a0).bind fun t583 => ((some (([(t583 / 16777216) % 256, (t583 / 65536) % 256, (t583 / 256) % 256, (t583) % 256] : List Int) : List Int)).bind fun y584 => (if a0.size + (strOfNums y584).size ≤ 9223372036854775807 then (some (a0 ++ (strOfNums y584), true)) else (none))))
theorem impl_Sealed.mono : ∀ a0 k, LeO (impl_Sealed.f k a0) (impl_Sealed.f (k + 1) a0) := by
 intro a0 k
 unfold impl_Sealed.f
 repeat' first
   | (with_reducible exact impl_SumOf.mono _ _)
   | (with_reducible exact LeO.refl _)
   | (with_reducible exact LeO.none _)
   | (with_reducible refine LeO.ite ?_ ?_)
   | (with_reducible refine LeO.bind ?_ (fun _ => ?_))
   | exact impl_SumOf.mono _ _
   | exact LeO.none _
   | refine LeO.ite ?_ ?_
   | refine LeO.bind ?_ (fun _ => ?_)
set_option maxHeartbeats 8000000 in
set_option maxRecDepth 100000 in
theorem impl_Sealed.calls (k : Nat) (a0 : ByteArray) (r1 : ByteArray) (r2 : Bool) (w : World) (h : impl_Sealed.f k a0 = some (r1, r2)) :
  Calls Try.prog 34 #[.string a0] w fun e w' => e = .returned (.tuple #[.string r1, .bool r2]) ∧ Below w.heap.size w w' := by
 have HB := Aside0.mk (Below.refl w.heap.size w)
 have H : (if (a0.size : Int) > 20000 then (some ((⟨#[]⟩ : ByteArray), false)) else ((impl_SumOf.f k a0).bind fun t583 => ((some (([(t583 / 16777216) % 256, (t583 / 65536) % 256, (t583 / 256) % 256, (t583) % 256] : List Int) : List Int)).bind fun y584 => (if a0.size + (strOfNums y584).size ≤ 9223372036854775807 then (some (a0 ++ (strOfNums y584), true)) else (none))))) = some (r1, r2) := h
 clear h
 by_cases c2 : (a0.size : Int) > 20000
 ·rw [if_pos c2] at H
  have c2b0 : decide (20000 < (a0.size : Int)) = true := decide_eq_true c2
  have c2b1 : decide (20000 < a0.size) = true := decide_eq_true (by omega)
  clear c2
  simp only [Option.some.injEq, Prod.mk.injEq] at H
  obtain ⟨rfl, rfl⟩ := H
  go_enter Try.func34, Try.ntmps34
  go_wp2
  go_ret2
  exact ⟨er_q, bw_q HB⟩
 ·rw [if_neg c2] at H
  have c2b0 : decide (20000 < (a0.size : Int)) = false := decide_eq_false c2
  have c2b1 : decide (20000 < a0.size) = false := decide_eq_false (by omega)
  clear c2; replace H := Option.bind_eq_some_iff.mp H; obtain ⟨t583, A30, H⟩ := H
  replace H : ((some (([(t583 / 16777216) % 256, (t583 / 65536) % 256, (t583 / 256) % 256, (t583) % 256] : List Int) : List Int)).bind fun y584 => (if a0.size + (strOfNums y584).size ≤ 9223372036854775807 then (some (a0 ++ (strOfNums y584), true)) else (none))) = some (r1, r2) := H
  have A3 := Aside0.mk A30; clear A30; obtain ⟨y584, hy584⟩ : ∃ y_ : List Int, y_ = (([(t583 / 16777216) % 256, (t583 / 65536) % 256, (t583 / 256) % 256, (t583) % 256] : List Int)) := ⟨_, rfl⟩
  replace H : (if a0.size + (strOfNums y584).size ≤ 9223372036854775807 then (some (a0 ++ (strOfNums y584), true)) else (none)) = some (r1, r2) := by first | (rw [hy584]; with_reducible exact H) | (have H2_ := (Option.bind_some _ _).symm.trans H; rw [hy584]; with_reducible exact H2_) | (have H2_ := (Option.bind_some _ _).symm.trans H; with_reducible exact H2_) | with_reducible exact H | (rw [hy584]; exact H) | exact H
  have Ny584 := Aside0.mk hy584; clear hy584
  by_cases c4 : a0.size + (strOfNums y584).size ≤ 9223372036854775807
  ·rw [if_pos c4] at H; have c4b0 := eq_true c4
   have c4b1 : decide (a0.size + (strOfNums y584).size ≤ 9223372036854775807) = true := decide_eq_true c4
   try have c4b2 : (9223372036854775807 < a0.size + (strOfNums y584).size) = False := eq_false (Nat.not_lt.2 c4)
   try (have c4b3 := c4b2; simp only [ByteArray.size_append] at c4b3)
   simp only [Option.some.injEq, Prod.mk.injEq] at H
   obtain ⟨rfl, rfl⟩ := H
   go_enter Try.func34, Try.ntmps34
   go_wp2_with (first | ((with_reducible refine gate_callee (f := 37) rfl ?_); refine goesL_ (some 9) rfl rfl Try.func37 (by kernel_rfl) rfl #[.string a0] rfl mp_q ?_; (with_reducible refine (impl_SumOf.calls k a0 t583 _ A3.out).mono ?_); rintro e w' ⟨rfl, ⟨nd, rfl⟩⟩; refine ⟨_, rfl, ?_⟩) | ((with_reducible refine gate_dst (N := 22) rfl ?_); refine Kd.R_lit (Kd.int .u8) _ 5 ?hg (N := 22) ?hd (xs := ([(t583 / 16777216) % 256, (t583 / 65536) % 256, (t583 / 256) % 256, (t583) % 256] : List Int)) (inner := [.int .u8 ((t583 / 16777216) % 256), .int .u8 ((t583 / 65536) % 256), .int .u8 ((t583 / 256) % 256), .int .u8 ((t583) % 256)]) (ok := fun _ => True) (okp := fun _ => True) ?hr ?hp (fun _ hk => hk) trivial (Below.refl _ _) (Nat.le_refl _) (by simp) ?_; (case hd => rfl); (case hg => rfl); (case hr => first | (go_simp; done) | (go_simp; rfl)); (case hp => exact (Reps.one (show Kd.M (Kd.int .u8) _ _ _ ((t583 / 16777216) % 256) [.int .u8 ((t583 / 16777216) % 256)] from rfl) (Reps.one (show Kd.M (Kd.int .u8) _ _ _ ((t583 / 65536) % 256) [.int .u8 ((t583 / 65536) % 256)] from rfl) (Reps.one (show Kd.M (Kd.int .u8) _ _ _ ((t583 / 256) % 256) [.int .u8 ((t583 / 256) % 256)] from rfl) (Reps.one (show Kd.M (Kd.int .u8) _ _ _ ((t583) % 256) [.int .u8 ((t583) % 256)] from rfl) (Reps.none _ _)))))); intro v585 w5 ho6 hb hg_ hnew_; clear hg_ hnew_; (first | rw [← Ny584.out] at ho6 | (simp only [Int.reduceToNat] at ho6; rw [← Ny584.out] at ho6)); have HO586 := Aside0.mk (Kd.R_lower ho6 (below_size (bw_q HB))); replace HB := Aside0.mk (below_step (bw_q HB) hb); clear hb ho6; have hcv7 := own_string (P := Try.prog) Try.underlying46 Try.underlying5 Try.underlying9 (Kd.own_of_R HO586.out)))
   go_ret2
   exact ⟨er_q, bw_q HB⟩
  ·rw [if_neg c4] at H
   exact absurd H (by simp)

end Go.Proofs.Ytnecbkognpponaa.Q

/- A Go function as a Lean function, and its contract: for every input the Go code comes to what the Lean function tells. -/


namespace Go.Proofs.Ytnecbkognpponaa.Q
open Go.RowKit Go.Proofs.YtnecbkognpponaaW.PrintWords Go.Proofs.YtnecbkognpponaaW.PrintLast Go.Proofs.YtnecbkognpponaaW.PrintMore
attribute [local go_sem] max2_int min2_int max_two min_two max_three min_three max_four min_four   -- for this text's walks alone
set_option linter.unusedVariables false
set_option linter.unusedSimpArgs false

/-! ### impl_ShortText: function 55 -/
def impl_ShortText.f (k : Nat) (a0 : ByteArray) : Option (ByteArray × Bool) := if (a0.size : Int) > 20000 then (some ((⟨#[]⟩ : ByteArray), false)) else ((impl_VarText.f k (a0.size : Int)).bind fun bt587 => (if bt587.1.size + a0.size ≤ 9223372036854775807 then (some (bt587.1 ++ a0, true)) else (none)))
theorem impl_ShortText.mono : ∀ a0 k, LeO (impl_ShortText.f k a0) (impl_ShortText.f (k + 1) a0) := by
 intro a0 k
 unfold impl_ShortText.f
 repeat' first
   | (with_reducible exact impl_VarText.mono _ _)
   | (with_reducible exact LeO.refl _)
   | (with_reducible exact LeO.none _)
   | (with_reducible refine LeO.ite ?_ ?_)
   | (with_reducible refine LeO.bind ?_ (fun _ => ?_))
   | exact impl_VarText.mono _ _
   | exact LeO.none _
   | refine LeO.ite ?_ ?_
   | refine LeO.bind ?_ (fun _ => ?_)
set_option maxHeartbeats 8000000 in
set_option maxRecDepth 100000 in
theorem impl_ShortText.calls (k : Nat) (a0 : ByteArray) (r1 : ByteArray) (r2 : Bool) (w : World) (h : impl_ShortText.f k a0 = some (r1, r2)) :
  Calls Try.prog 55 #[.string a0] w fun e w' => e = .returned (.tuple #[.string r1, .bool r2]) ∧ Below w.heap.size w w' := by
 have HB := Aside0.mk (Below.refl w.heap.size w)
 have H : (if (a0.size : Int) > 20000 then (some ((⟨#[]⟩ : ByteArray), false)) else ((impl_VarText.f k (a0.size : Int)).bind fun bt587 => (if bt587.1.size + a0.size ≤ 9223372036854775807 then (some (bt587.1 ++ a0, true)) else (none)))) = some (r1, r2) := h
 clear h
 by_cases c2 : (a0.size : Int) > 20000
 ·rw [if_pos c2] at H
  have c2b0 : decide (20000 < (a0.size : Int)) = true := decide_eq_true c2
  have c2b1 : decide (20000 < a0.size) = true := decide_eq_true (by omega)
  clear c2
  simp only [Option.some.injEq, Prod.mk.injEq] at H
  obtain ⟨rfl, rfl⟩ := H
  go_enter Try.func55, Try.ntmps55
  go_wp2
  go_ret2
  exact ⟨er_q, bw_q HB⟩
 ·rw [if_neg c2] at H
  have c2b0 : decide (20000 < (a0.size : Int)) = false := decide_eq_false c2
  have c2b1 : decide (20000 < a0.size) = false := decide_eq_false (by omega)
  clear c2; replace H := Option.bind_eq_some_iff.mp H; obtain ⟨⟨t587, t588⟩, A30, H⟩ := H
  replace H : (if t587.size + a0.size ≤ 9223372036854775807 then (some (t587 ++ a0, true)) else (none)) = some (r1, r2) := H
  have A3 := Aside0.mk A30; clear A30
  by_cases c4 : t587.size + a0.size ≤ 9223372036854775807
  ·rw [if_pos c4] at H; have c4b0 := eq_true c4
   have c4b1 : decide (t587.size + a0.size ≤ 9223372036854775807) = true := decide_eq_true c4
   try have c4b2 : (9223372036854775807 < t587.size + a0.size) = False := eq_false (Nat.not_lt.2 c4)
   try (have c4b3 := c4b2; simp only [ByteArray.size_append] at c4b3)
   simp only [Option.some.injEq, Prod.mk.injEq] at H
   obtain ⟨rfl, rfl⟩ := H
   go_enter Try.func55, Try.ntmps55
   go_wp2_with (first | ((with_reducible refine gate_callee (f := 54) rfl ?_); refine goesL_ (some 12) rfl rfl Try.func54 (by kernel_rfl) rfl #[.int .i64 (a0.size : Int)] rfl mp_q ?_; (with_reducible refine (impl_VarText.calls k (a0.size : Int) t587 t588 _ A3.out).mono ?_); rintro e w5 ⟨rfl, hb⟩; refine ⟨_, rfl, ?_⟩; replace HB := Aside0.mk (below_step (bw_q HB) hb); (try clear hb); (try clear hb2); (try clear hk); (try clear hi)))
   go_ret2
   exact ⟨er_q, bw_q HB⟩
  ·rw [if_neg c4] at H
   exact absurd H (by simp)

end Go.Proofs.Ytnecbkognpponaa.Q
