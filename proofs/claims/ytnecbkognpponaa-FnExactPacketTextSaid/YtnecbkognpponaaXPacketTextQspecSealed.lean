import Derived.Test.YtnecbkognpponaaXPacketTextQlawstoNearS
import Derived.Test.YtnecbkognpponaaXPacketTextQspecSameKey
/- A Go function as a Lean function, and its contract: for every input the Go code comes to what the Lean function tells. -/

namespace Go.Proofs.Ytnecbkognpponaa.Q
open Go.RowKit Go.Proofs.YtnecbkognpponaaW.PrintWords Go.Proofs.YtnecbkognpponaaW.PrintLast Go.Proofs.YtnecbkognpponaaW.PrintMore
attribute [local go_sem] max2_int min2_int max_two min_two max_three min_three max_four min_four   -- for this text's walks alone
set_option linter.unusedVariables false
set_option linter.unusedSimpArgs false

/-! ### spec_l01Var: function 49 -/
def spec_l01Var.l0 : Nat → Int → List Int → Option (ByteArray)
 | 0, _, _ => none
 | k + 1, x0, x3 => if x0 > 127 then (if x3.length < 140737488355328 then (spec_l01Var.l0 k (wrap64 (Int.tdiv x0 128)) (x3 ++ [(wrap64 ((Int.tmod x0 128) + 128)) % 256])) else (none)) else (if x3.length < 140737488355328 then (some (strOfNums (x3 ++ [(x0) % 256]))) else (none))
def spec_l01Var.f (k : Nat) (a0 : Int) : Option (ByteArray) := spec_l01Var.l0 k a0 (([] : List Int))
theorem spec_l01Var.mono_l : ∀ k, (∀ y0 y1, LeO (spec_l01Var.l0 k y0 y1) (spec_l01Var.l0 (k + 1) y0 y1))
 | 0 => fun _ _ r h => by simp [spec_l01Var.l0] at h
 | k + 1 => by
  have ih0 := spec_l01Var.mono_l k
  ·intro y0 y1
   unfold spec_l01Var.l0
   repeat' first
   | (with_reducible exact ih0 _ _)
   | (with_reducible exact LeO.refl _)
   | (with_reducible exact LeO.none _)
   | (with_reducible refine LeO.ite ?_ ?_)
   | (with_reducible refine LeO.bind ?_ (fun _ => ?_))
   | exact ih0 _ _
   | exact LeO.none _
   | refine LeO.ite ?_ ?_
   | refine LeO.bind ?_ (fun _ => ?_)
theorem spec_l01Var.mono : ∀ a0 k, LeO (spec_l01Var.f k a0) (spec_l01Var.f (k + 1) a0) := by
 intro a0 k
 have ih0 := spec_l01Var.mono_l k
 unfold spec_l01Var.f
 repeat' first
   | (with_reducible exact ih0 _ _)
   | (with_reducible exact LeO.refl _)
   | (with_reducible exact LeO.none _)
   | (with_reducible refine LeO.ite ?_ ?_)
   | (with_reducible refine LeO.bind ?_ (fun _ => ?_))
   | exact ih0 _ _
   | exact LeO.none _
   | refine LeO.ite ?_ ?_
   | refine LeO.bind ?_ (fun _ => ?_)
set_option maxHeartbeats 8000000 in
set_option maxRecDepth 100000 in
theorem spec_l01Var.calls (k : Nat) (a0 : Int) (r : ByteArray) (w : World) (h : spec_l01Var.f k a0 = some r) :
  Calls Try.prog 49 #[.int .i64 a0] w fun e w' => e = .returned (.string r) ∧ Below w.heap.size w w' := by
 have HB := Aside0.mk (Below.refl w.heap.size w)
 have H : (spec_l01Var.l0 k a0 (([] : List Int))) = some r := h
 clear h; obtain ⟨y366, hy366⟩ : ∃ y_ : List Int, y_ = (([] : List Int)) := ⟨_, rfl⟩
 replace H : (spec_l01Var.l0 k a0 y366) = some r := by first | (rw [hy366]; with_reducible exact H) | (have H2_ := (Option.bind_some _ _).symm.trans H; rw [hy366]; with_reducible exact H2_) | (have H2_ := (Option.bind_some _ _).symm.trans H; with_reducible exact H2_) | with_reducible exact H | (rw [hy366]; exact H) | exact H
 have Ny366 := Aside0.mk hy366; clear hy366; have H' := Aside0.mk H; clear H
 go_enter Try.func49, Try.ntmps49
 go_wp2_with (first | ((with_reducible refine gate_dst (N := 4) rfl ?_); refine Kd.R_lit (Kd.int .u8) _ 5 ?hg (N := 4) ?hd (xs := ([] : List Int)) (inner := []) (ok := fun _ => True) (okp := fun _ => True) ?hr ?hp (fun _ hk => hk) trivial (Below.refl _ _) (Nat.le_refl _) (by simp) ?_; (case hd => rfl); (case hg => rfl); (case hr => first | (go_simp; done) | (go_simp; rfl)); (case hp => exact (Reps.none _ _)); intro v367 w2 ho3 hb hg_ hnew_; clear hg_ hnew_; (first | rw [← Ny366.out] at ho3 | (simp only [Int.reduceToNat] at ho3; rw [← Ny366.out] at ho3)); have HO368 := Aside0.mk (Kd.R_lower ho3 (below_size (bw_q HB))); replace HB := Aside0.mk (below_step (bw_q HB) hb); clear hb ho3))
 go_loopg [0, 3] k (fun kq v0 v3 w' => ∃ (x0_1 : Int) (x3_1 : List Int), v0 = .int .i64 x0_1 ∧ Aside0 (spec_l01Var.l0 kq x0_1 x3_1 = some r) ∧ Aside0 (kq ≤ k) ∧ Aside0 (Kd.R (Kd.int .u8) 5 w' w.heap.size (fun _ => True) v3 x3_1) ∧ Aside0 (Below w.heap.size w w'))
 case atStart => exact ⟨(a0), (y366), (by first | rfl | (simp; done) | (simp [*]; done)), H', ⟨Nat.le_refl _⟩, ⟨by (with_reducible repeat (first | apply Kd.R_alloc | apply Kd.R_drewN | apply Kd.R_drew)); exact HO368.out⟩, ⟨bw_q HB⟩⟩
 case round =>
  clear H'; (try clear p2); obtain ⟨x0_1, x3_1, rfl, HA, HK1, HO_3, HB⟩ := hrel
  cases gk with
  | zero => exact absurd HA.out (by simp [spec_l01Var.l0])
  | succ k1 =>
   have H := HA.out; clear HA
   simp only [spec_l01Var.l0] at H
   by_cases c4 : x0_1 > 127
   ·rw [if_pos c4] at H
    have c4b0 : decide (127 < x0_1) = true := decide_eq_true c4
    clear c4
    by_cases c5 : x3_1.length < 140737488355328
    ·rw [if_pos c5] at H; have LMc5 := Aside0.mk c5; clear c5; obtain ⟨y369, hy369⟩ : ∃ y_ : List Int, y_ = (x3_1 ++ [(wrap64 ((Int.tmod x0_1 128) + 128)) % 256]) := ⟨_, rfl⟩
     replace H : (spec_l01Var.l0 k1 (wrap64 (Int.tdiv x0_1 128)) y369) = some r := by first | (rw [hy369]; with_reducible exact H) | (have H2_ := (Option.bind_some _ _).symm.trans H; rw [hy369]; with_reducible exact H2_) | (have H2_ := (Option.bind_some _ _).symm.trans H; with_reducible exact H2_) | with_reducible exact H | (rw [hy369]; exact H) | exact H
     have Ny369 := Aside0.mk hy369; clear hy369; have H' := Aside0.mk H; clear H
     go_wp2_with (first | ((with_reducible refine gate_builtin (b := .append) (xs := #[.tmp 7, .tmp 12]) rfl ?_); at_builtin; refine Kd.R_append (Kd.int .u8) (w0 := w) w.heap.size rfl (.tmp 7) (.tmp 12) 46 5 (.int .u8 0) 1 rfl Try.underlying46 info5 rfl (by decide) (by omega) u3 x3_1 ((wrap64 ((Int.tmod x0_1 128) + 128)) % 256) [.int .u8 ((wrap64 ((Int.tmod x0_1 128) + 128)) % 256)] (fun _ => True) (fun _ => False) rfl rfl ?aP (fun _ hk => hk.elim) ?aF ?aO ?aB ?aS ?aL ?_; (case aP => exact rfl); (case aB => exact (bw_q HB)); (case aF => exact (fun _ _ => trivial)); (case aO => exact (kR_q HO_3)); (case aS => exact (below_size (bw_q HB))); (case aL => have := LMc5.out; omega); intro v370 w6 ho hb hg hat; rw [← Ny369.out] at ho; replace HB := Aside0.mk (hb); have HO371 := Aside0.mk (ho); clear HO_3; clear ho hb hg hat))
     go_roundg k1
     case measure => have := HK1.out; omega
     case rel => exact ⟨(wrap64 (Int.tdiv x0_1 128)), (y369), (by first | rfl | (simp; done) | (simp [*]; done)), H', ⟨by have := HK1.out; omega⟩, ⟨by (with_reducible repeat (first | apply Kd.R_alloc | apply Kd.R_drewN | apply Kd.R_drew)); exact HO371.out⟩, ⟨bw_q HB⟩⟩
    ·rw [if_neg c5] at H
     exact absurd H (by simp)
   ·rw [if_neg c4] at H
    have c4b0 : decide (127 < x0_1) = false := decide_eq_false c4
    clear c4
    by_cases c7 : x3_1.length < 140737488355328
    ·rw [if_pos c7] at H; have LMc7 := Aside0.mk c7; clear c7; obtain ⟨y372, hy372⟩ : ∃ y_ : List Int, y_ = (x3_1 ++ [(x0_1) % 256]) := ⟨_, rfl⟩
     replace H : (some (strOfNums y372)) = some r := by first | (rw [hy372]; with_reducible exact H) | (have H2_ := (Option.bind_some _ _).symm.trans H; rw [hy372]; with_reducible exact H2_) | (have H2_ := (Option.bind_some _ _).symm.trans H; with_reducible exact H2_) | with_reducible exact H | (rw [hy372]; exact H) | exact H
     have Ny372 := Aside0.mk hy372; clear hy372; obtain rfl := Option.some.inj H
     go_wp2_with (first | ((with_reducible refine gate_builtin (b := .append) (xs := #[.tmp 16, .tmp 19]) rfl ?_); at_builtin; refine Kd.R_append (Kd.int .u8) (w0 := w) w.heap.size rfl (.tmp 16) (.tmp 19) 46 5 (.int .u8 0) 1 rfl Try.underlying46 info5 rfl (by decide) (by omega) u3 x3_1 ((x0_1) % 256) [.int .u8 ((x0_1) % 256)] (fun _ => True) (fun _ => False) rfl rfl ?aP (fun _ hk => hk.elim) ?aF ?aO ?aB ?aS ?aL ?_; (case aP => exact rfl); (case aB => exact (bw_q HB)); (case aF => exact (fun _ _ => trivial)); (case aO => exact (kR_q HO_3)); (case aS => exact (below_size (bw_q HB))); (case aL => have := LMc7.out; omega); intro v373 w8 ho hb hg hat; rw [← Ny372.out] at ho; replace HB := Aside0.mk (hb); have HO374 := Aside0.mk (ho); clear HO_3; clear ho hb hg hat; have hcv9 := own_string (P := Try.prog) Try.underlying46 Try.underlying5 Try.underlying9 (Kd.own_of_R HO374.out)))
     go_ret
     exact ⟨er_q, bw_q HB⟩
    ·rw [if_neg c7] at H
     exact absurd H (by simp)

end Go.Proofs.Ytnecbkognpponaa.Q

/- A Go function as a Lean function, and its contract: for every input the Go code comes to what the Lean function tells. -/

namespace Go.Proofs.Ytnecbkognpponaa.Q
open Go.RowKit Go.Proofs.YtnecbkognpponaaW.PrintWords Go.Proofs.YtnecbkognpponaaW.PrintLast Go.Proofs.YtnecbkognpponaaW.PrintMore
attribute [local go_sem] max2_int min2_int max_two min_two max_three min_three max_four min_four   -- for this text's walks alone
set_option linter.unusedVariables false
set_option linter.unusedSimpArgs false

/-! ### spec_l04Byte: function 48 -/
def spec_l04Byte.f (a0 : Int) : Option (ByteArray) := some (strOfNums (([(a0) % 256] : List Int)))
set_option maxHeartbeats 8000000 in
set_option maxRecDepth 100000 in
theorem spec_l04Byte.calls (a0 : Int) (r : ByteArray) (w : World) (h : spec_l04Byte.f a0 = some r) :
  Calls Try.prog 48 #[.int .i64 a0] w fun e w' => e = .returned (.string r) ∧ Below w.heap.size w w' := by
 have HB := Aside0.mk (Below.refl w.heap.size w)
 have H : (some (strOfNums (([(a0) % 256] : List Int)))) = some r := h
 clear h; obtain ⟨y377, hy377⟩ : ∃ y_ : List Int, y_ = (([(a0) % 256] : List Int)) := ⟨_, rfl⟩
 replace H : (some (strOfNums y377)) = some r := by first | (rw [hy377]; with_reducible exact H) | (have H2_ := (Option.bind_some _ _).symm.trans H; rw [hy377]; with_reducible exact H2_) | (have H2_ := (Option.bind_some _ _).symm.trans H; with_reducible exact H2_) | with_reducible exact H | (rw [hy377]; exact H) | exact H
 have Ny377 := Aside0.mk hy377; clear hy377; obtain rfl := Option.some.inj H
 go_enter Try.func48, Try.ntmps48
 go_wp2_with (first | ((with_reducible refine gate_dst (N := 5) rfl ?_); refine Kd.R_lit (Kd.int .u8) _ 5 ?hg (N := 5) ?hd (xs := ([(a0) % 256] : List Int)) (inner := [.int .u8 ((a0) % 256)]) (ok := fun _ => True) (okp := fun _ => True) ?hr ?hp (fun _ hk => hk) trivial (Below.refl _ _) (Nat.le_refl _) (by simp) ?_; (case hd => rfl); (case hg => rfl); (case hr => first | (go_simp; done) | (go_simp; rfl)); (case hp => exact (Reps.one (show Kd.M (Kd.int .u8) _ _ _ ((a0) % 256) [.int .u8 ((a0) % 256)] from rfl) (Reps.none _ _))); intro v378 w2 ho3 hb hg_ hnew_; clear hg_ hnew_; (first | rw [← Ny377.out] at ho3 | (simp only [Int.reduceToNat] at ho3; rw [← Ny377.out] at ho3)); have HO379 := Aside0.mk (Kd.R_lower ho3 (below_size (bw_q HB))); replace HB := Aside0.mk (below_step (bw_q HB) hb); clear hb ho3; have hcv4 := own_string (P := Try.prog) Try.underlying46 Try.underlying5 Try.underlying9 (Kd.own_of_R HO379.out)))
 go_ret
 exact ⟨er_q, bw_q HB⟩

end Go.Proofs.Ytnecbkognpponaa.Q

/- A Go function as a Lean function, and its contract: for every input the Go code comes to what the Lean function tells. -/




namespace Go.Proofs.Ytnecbkognpponaa.Q
open Go.RowKit Go.Proofs.YtnecbkognpponaaW.PrintWords Go.Proofs.YtnecbkognpponaaW.PrintLast Go.Proofs.YtnecbkognpponaaW.PrintMore
attribute [local go_sem] max2_int min2_int max_two min_two max_three min_three max_four min_four   -- for this text's walks alone
set_option linter.unusedVariables false
set_option linter.unusedSimpArgs false

/-! ### spec_RecordText: function 40 -/
def spec_RecordText.l0 : Nat → ByteArray → Int → Int → Int → Int → Int → Int → List (S63) → Int → Bool → Option (ByteArray × Bool)
 | 0, _, _, _, _, _, _, _, _, _, _ => none
 | k + 1, x4, x5, x381000, x381001, x381002, x381003, x381004, x381005, x381006, x381007 => if x5 < (x381005.length : Int) then (if 0 ≤ x5 then ((spec_l04Byte.f ((rd_T63 x381005 x5).f0)).bind fun t389 => (if x4.size + t389.size ≤ 9223372036854775807 then ((spec_l01Var.f k ((rd_T63 x381005 x5).f1)).bind fun t390 => (if (x4 ++ t389).size + t390.size ≤ 9223372036854775807 then (spec_RecordText.l0 k ((x4 ++ t389) ++ t390) (wrap64 (x5 + 1)) x381000 x381001 x381002 x381003 x381004 x381005 x381006 x381007) else (none))) else (none))) else (none)) else ((spec_l01Var.f k x381006).bind fun t391 => (if x4.size + t391.size ≤ 9223372036854775807 then (if x381007 = true then (if (x4 ++ t391).size + 1 ≤ 9223372036854775807 then (some ((x4 ++ t391) ++ (⟨#[1]⟩ : ByteArray), true)) else (none)) else (if (x4 ++ t391).size + 1 ≤ 9223372036854775807 then (some ((x4 ++ t391) ++ (⟨#[0]⟩ : ByteArray), true)) else (none))) else (none)))
def spec_RecordText.f (k : Nat) (a0_0 : Int) (a0_1 : Int) (a0_2 : Int) (a0_3 : Int) (a0_4 : Int) (l0_5 : List (S63)) (a0_6 : Int) (a0_7 : Bool) : Option (ByteArray × Bool) := (spec_RecordOk.f k a0_0 a0_1 a0_2 a0_3 a0_4 l0_5 a0_6 a0_7).bind fun t381 => (if t381 = true then ((spec_l04Byte.f a0_0).bind fun t382 => ((spec_l04Byte.f a0_1).bind fun t383 => (if t382.size + t383.size ≤ 9223372036854775807 then ((spec_l04Byte.f a0_2).bind fun t384 => (if (t382 ++ t383).size + t384.size ≤ 9223372036854775807 then ((spec_l04Byte.f a0_3).bind fun t385 => (if ((t382 ++ t383) ++ t384).size + t385.size ≤ 9223372036854775807 then ((spec_l01Var.f k a0_4).bind fun t386 => (if (((t382 ++ t383) ++ t384) ++ t385).size + t386.size ≤ 9223372036854775807 then ((spec_l01Var.f k (l0_5.length : Int)).bind fun t387 => (if ((((t382 ++ t383) ++ t384) ++ t385) ++ t386).size + t387.size ≤ 9223372036854775807 then (spec_RecordText.l0 k (((((t382 ++ t383) ++ t384) ++ t385) ++ t386) ++ t387) 0 a0_0 a0_1 a0_2 a0_3 a0_4 l0_5 a0_6 a0_7) else (none))) else (none))) else (none))) else (none))) else (none)))) else (some ((⟨#[]⟩ : ByteArray), false)))
theorem spec_RecordText.mono_l : ∀ k, (∀ y0 y1 y2 y3 y4 y5 y6 y7 y8 y9, LeO (spec_RecordText.l0 k y0 y1 y2 y3 y4 y5 y6 y7 y8 y9) (spec_RecordText.l0 (k + 1) y0 y1 y2 y3 y4 y5 y6 y7 y8 y9))
 | 0 => fun _ _ _ _ _ _ _ _ _ _ r h => by simp [spec_RecordText.l0] at h
 | k + 1 => by
  have ih0 := spec_RecordText.mono_l k
  ·intro y0 y1 y2 y3 y4 y5 y6 y7 y8 y9
   unfold spec_RecordText.l0
   repeat' first
   | (with_reducible exact ih0 _ _ _ _ _ _ _ _ _ _)
   | (with_reducible exact spec_RecordOk.mono _ _ _ _ _ _ _ _ _)
   | (with_reducible exact spec_l01Var.mono _ _)
   | (with_reducible exact LeO.refl _)
   | (with_reducible exact LeO.none _)
   | (with_reducible refine LeO.ite ?_ ?_)
   | (with_reducible refine LeO.bind ?_ (fun _ => ?_))
   | exact ih0 _ _ _ _ _ _ _ _ _ _
   | exact spec_RecordOk.mono _ _ _ _ _ _ _ _ _
   | exact spec_l01Var.mono _ _
   | exact LeO.none _
   | refine LeO.ite ?_ ?_
   | refine LeO.bind ?_ (fun _ => ?_)
theorem spec_RecordText.mono : ∀ a0 a1 a2 a3 a4 a5 a6 a7 k, LeO (spec_RecordText.f k a0 a1 a2 a3 a4 a5 a6 a7) (spec_RecordText.f (k + 1) a0 a1 a2 a3 a4 a5 a6 a7) := by
 intro a0 a1 a2 a3 a4 a5 a6 a7 k
 have ih0 := spec_RecordText.mono_l k
 unfold spec_RecordText.f
 repeat' first
   | (with_reducible exact ih0 _ _ _ _ _ _ _ _ _ _)
   | (with_reducible exact spec_RecordOk.mono _ _ _ _ _ _ _ _ _)
   | (with_reducible exact spec_l01Var.mono _ _)
   | (with_reducible exact LeO.refl _)
   | (with_reducible exact LeO.none _)
   | (with_reducible refine LeO.ite ?_ ?_)
   | (with_reducible refine LeO.bind ?_ (fun _ => ?_))
   | exact ih0 _ _ _ _ _ _ _ _ _ _
   | exact spec_RecordOk.mono _ _ _ _ _ _ _ _ _
   | exact spec_l01Var.mono _ _
   | exact LeO.none _
   | refine LeO.ite ?_ ?_
   | refine LeO.bind ?_ (fun _ => ?_)
def spec_RecordText.T3 : Bool × List (List Nat × List Nat) := (true, [([], []), ([0], [0]), ([1], [1]), ([], []), ([3], [3]), ([4, 2], [4]), ([2, 5], [2, 5]), ([], []), ([7], [7]), ([8, 5], [8]), ([6, 9], [6, 9]), ([], []), ([11], [11]), ([12, 9], [12]), ([10, 13], [10, 13]), ([], []), ([15], [15]), ([16, 13], [16]), ([14, 17], [14, 17]), ([], []), ([19], [19]), ([20], [20]), ([21, 17], [21]), ([18, 22], [18, 22]), ([23, 22, 0, 1, 2, 3, 4, 5, 6, 7, 8, 9, 10, 11, 12, 13, 14, 15, 16, 17, 18, 19, 20, 21, 22, 23], [23])])
def spec_RecordText.B3 : List Nat := [0, 1, 3, 0, 8, 31, 63, 0, 128, 447, 1023, 0, 2048, 7103, 16383, 0, 32768, 113599, 262143, 0, 524288, 1572864, 3914687, 8388607, 16777215]
theorem spec_RecordText.tab3 : rtab .any (opsOf Try.f40 3) = spec_RecordText.T3 := by kernel_rfl
theorem spec_RecordText.bits3 : waitsOk spec_RecordText.T3.2 spec_RecordText.B3 = true := by kernel_rfl
def spec_RecordText.T7 : Bool × List (List Nat × List Nat) := (true, [([], []), ([], []), ([1], [1]), ([], []), ([2, 3], [2, 3]), ([4], [4]), ([5], [5]), ([6], [6]), ([0, 7], [0, 7]), ([], []), ([9], [9]), ([], []), ([10, 11], [10, 11]), ([12], [12]), ([13], [13]), ([14, 7], [14]), ([8, 15], [8, 15]), ([16, 15, 0, 1, 2, 3, 4, 5, 6, 7, 8, 9, 10, 11, 12, 13, 14, 15, 16], [0, 16])])
def spec_RecordText.B7 : List Nat := [0, 0, 2, 0, 14, 30, 62, 126, 255, 0, 512, 0, 3584, 7680, 15872, 32510, 65535, 131071]
theorem spec_RecordText.tab7 : rtab .any (opsOf Try.f40 7) = spec_RecordText.T7 := by kernel_rfl
theorem spec_RecordText.bits7 : waitsOk spec_RecordText.T7.2 spec_RecordText.B7 = true := by kernel_rfl
set_option maxHeartbeats 8000000 in
set_option maxRecDepth 100000 in
theorem spec_RecordText.calls (k : Nat) (a0_0 : Int) (a0_1 : Int) (a0_2 : Int) (a0_3 : Int) (a0_4 : Int) (A0_5 : Option Addr) (c0_5 : Nat) (l0_5 : List (S63)) (a0_6 : Int) (a0_7 : Bool) (r1 : ByteArray) (r2 : Bool) (w : World) (hr0_5 : Kd.C k63 w A0_5 l0_5.length l0_5) (hc0_5 : l0_5.length ≤ c0_5) (h : spec_RecordText.f k a0_0 a0_1 a0_2 a0_3 a0_4 l0_5 a0_6 a0_7 = some (r1, r2)) :
  Calls Try.prog 40 #[.agg #[.int .i64 a0_0, .int .i64 a0_1, .int .i64 a0_2, .int .i64 a0_3, .int .i64 a0_4, .slice A0_5 l0_5.length c0_5, .int .i64 a0_6, .bool a0_7]] w fun e w' => e = .returned (.tuple #[.string r1, .bool r2]) ∧ Below w.heap.size w w' := by
 have hu24 := Try.underlying24; have HR0_5 := Aside0.mk hr0_5; have HC0_5 := Aside0.mk hc0_5; clear hr0_5 hc0_5; have HB := Aside0.mk (Below.refl w.heap.size w)
 have H : ((spec_RecordOk.f k a0_0 a0_1 a0_2 a0_3 a0_4 l0_5 a0_6 a0_7).bind fun t381 => (if t381 = true then ((spec_l04Byte.f a0_0).bind fun t382 => ((spec_l04Byte.f a0_1).bind fun t383 => (if t382.size + t383.size ≤ 9223372036854775807 then ((spec_l04Byte.f a0_2).bind fun t384 => (if (t382 ++ t383).size + t384.size ≤ 9223372036854775807 then ((spec_l04Byte.f a0_3).bind fun t385 => (if ((t382 ++ t383) ++ t384).size + t385.size ≤ 9223372036854775807 then ((spec_l01Var.f k a0_4).bind fun t386 => (if (((t382 ++ t383) ++ t384) ++ t385).size + t386.size ≤ 9223372036854775807 then ((spec_l01Var.f k (l0_5.length : Int)).bind fun t387 => (if ((((t382 ++ t383) ++ t384) ++ t385) ++ t386).size + t387.size ≤ 9223372036854775807 then (spec_RecordText.l0 k (((((t382 ++ t383) ++ t384) ++ t385) ++ t386) ++ t387) 0 a0_0 a0_1 a0_2 a0_3 a0_4 l0_5 a0_6 a0_7) else (none))) else (none))) else (none))) else (none))) else (none)))) else (some ((⟨#[]⟩ : ByteArray), false)))) = some (r1, r2) := h
 clear h; replace H := Option.bind_eq_some_iff.mp H; obtain ⟨t381, A20, H⟩ := H
 replace H : (if t381 = true then ((spec_l04Byte.f a0_0).bind fun t382 => ((spec_l04Byte.f a0_1).bind fun t383 => (if t382.size + t383.size ≤ 9223372036854775807 then ((spec_l04Byte.f a0_2).bind fun t384 => (if (t382 ++ t383).size + t384.size ≤ 9223372036854775807 then ((spec_l04Byte.f a0_3).bind fun t385 => (if ((t382 ++ t383) ++ t384).size + t385.size ≤ 9223372036854775807 then ((spec_l01Var.f k a0_4).bind fun t386 => (if (((t382 ++ t383) ++ t384) ++ t385).size + t386.size ≤ 9223372036854775807 then ((spec_l01Var.f k (l0_5.length : Int)).bind fun t387 => (if ((((t382 ++ t383) ++ t384) ++ t385) ++ t386).size + t387.size ≤ 9223372036854775807 then (spec_RecordText.l0 k (((((t382 ++ t383) ++ t384) ++ t385) ++ t386) ++ t387) 0 a0_0 a0_1 a0_2 a0_3 a0_4 l0_5 a0_6 a0_7) else (none))) else (none))) else (none))) else (none))) else (none)))) else (some ((⟨#[]⟩ : ByteArray), false))) = some (r1, r2) := H
 have A2 := Aside0.mk A20; clear A20; have HC3 := Aside0.mk H; clear H
 go_enter Try.func40, Try.ntmps40
 go_upto_if 8 with (first | ((with_reducible refine gate_dst (N := 1) rfl ?_); refine box_q 1 #[.int .i64 a0_0, .int .i64 a0_1, .int .i64 a0_2, .int .i64 a0_3, .int .i64 a0_4, .slice A0_5 l0_5.length c0_5, .int .i64 a0_6, .bool a0_7] 24 ?_; intro gb380 hg w4 hbox hb; have BK380 := Aside0.mk (hbox); have GW380 := Aside0.mk ((by rw [hg]; exact (below_size (bw_q HB)) : w.heap.size ≤ gb380)); have GE380 := Aside0.mk ((by rw [hg]; exact (below_size (bw_q HB)) : w.heap.size ≤ gb380)); replace HB := Aside0.mk (below_step (bw_q HB) hb); clear hb hbox hg; have hcz5_0 : w4.cell? ⟨gb380, 0, none⟩ = some (.int .i64 a0_0) := (blk_cell BK380.out 0).trans rfl; have hcz5_1 : w4.cell? ⟨gb380, 1, none⟩ = some (.int .i64 a0_1) := (blk_cell BK380.out 1).trans rfl; have hcz5_2 : w4.cell? ⟨gb380, 2, none⟩ = some (.int .i64 a0_2) := (blk_cell BK380.out 2).trans rfl; have hcz5_3 : w4.cell? ⟨gb380, 3, none⟩ = some (.int .i64 a0_3) := (blk_cell BK380.out 3).trans rfl; have hcz5_4 : w4.cell? ⟨gb380, 4, none⟩ = some (.int .i64 a0_4) := (blk_cell BK380.out 4).trans rfl; have hcz5_5 : w4.cell? ⟨gb380, 5, none⟩ = some (.slice A0_5 l0_5.length c0_5) := (blk_cell BK380.out 5).trans rfl; have hcz5_6 : w4.cell? ⟨gb380, 6, none⟩ = some (.int .i64 a0_6) := (blk_cell BK380.out 6).trans rfl; have hcz5_7 : w4.cell? ⟨gb380, 7, none⟩ = some (.bool a0_7) := (blk_cell BK380.out 7).trans rfl; have hfz5_0 := blk_frozen BK380.out 0; have hfz5_1 := blk_frozen BK380.out 1; have hfz5_2 := blk_frozen BK380.out 2; have hfz5_3 := blk_frozen BK380.out 3; have hfz5_4 := blk_frozen BK380.out 4; have hfz5_5 := blk_frozen BK380.out 5; have hfz5_6 := blk_frozen BK380.out 6; have hfz5_7 := blk_frozen BK380.out 7) | ((with_reducible refine gate_callee (f := 26) rfl ?_); refine goesL_ (some 7) rfl rfl Try.func26 (by kernel_rfl) rfl #[.agg #[.int .i64 a0_0, .int .i64 a0_1, .int .i64 a0_2, .int .i64 a0_3, .int .i64 a0_4, .slice A0_5 l0_5.length c0_5, .int .i64 a0_6, .bool a0_7]] rfl mp_q ?_; (with_reducible refine (spec_RecordOk.calls k a0_0 a0_1 a0_2 a0_3 a0_4 _ _ l0_5 a0_6 a0_7 t381 _ ?side1 ?side2 A2.out).mono ?_); (case side1 => exact cs_q (Kd.C_below HR0_5.out HB.out)); (case side2 => exact HC0_5.out); rintro e w6 ⟨rfl, hb⟩; refine ⟨_, rfl, ?_⟩; replace BK380 := Aside0.mk (blk_below (g := gb380) (bk_q BK380) hb); replace HB := Aside0.mk (below_step (bw_q HB) hb); (try clear hb); (try clear hb2); (try clear hk); (try clear hi)))
 have H := HC3.out; clear HC3
 by_cases c7 : t381 = true
 ·subst c7
  replace H : ((spec_l04Byte.f a0_0).bind fun t382 => ((spec_l04Byte.f a0_1).bind fun t383 => (if t382.size + t383.size ≤ 9223372036854775807 then ((spec_l04Byte.f a0_2).bind fun t384 => (if (t382 ++ t383).size + t384.size ≤ 9223372036854775807 then ((spec_l04Byte.f a0_3).bind fun t385 => (if ((t382 ++ t383) ++ t384).size + t385.size ≤ 9223372036854775807 then ((spec_l01Var.f k a0_4).bind fun t386 => (if (((t382 ++ t383) ++ t384) ++ t385).size + t386.size ≤ 9223372036854775807 then ((spec_l01Var.f k (l0_5.length : Int)).bind fun t387 => (if ((((t382 ++ t383) ++ t384) ++ t385) ++ t386).size + t387.size ≤ 9223372036854775807 then (spec_RecordText.l0 k (((((t382 ++ t383) ++ t384) ++ t385) ++ t386) ++ t387) 0 a0_0 a0_1 a0_2 a0_3 a0_4 l0_5 a0_6 a0_7) else (none))) else (none))) else (none))) else (none))) else (none)))) = some (r1, r2) := by rw [if_pos rfl] at H; exact H
  replace H := Option.bind_eq_some_iff.mp H; obtain ⟨t382, A80, H⟩ := H
  replace H : ((spec_l04Byte.f a0_1).bind fun t383 => (if t382.size + t383.size ≤ 9223372036854775807 then ((spec_l04Byte.f a0_2).bind fun t384 => (if (t382 ++ t383).size + t384.size ≤ 9223372036854775807 then ((spec_l04Byte.f a0_3).bind fun t385 => (if ((t382 ++ t383) ++ t384).size + t385.size ≤ 9223372036854775807 then ((spec_l01Var.f k a0_4).bind fun t386 => (if (((t382 ++ t383) ++ t384) ++ t385).size + t386.size ≤ 9223372036854775807 then ((spec_l01Var.f k (l0_5.length : Int)).bind fun t387 => (if ((((t382 ++ t383) ++ t384) ++ t385) ++ t386).size + t387.size ≤ 9223372036854775807 then (spec_RecordText.l0 k (((((t382 ++ t383) ++ t384) ++ t385) ++ t386) ++ t387) 0 a0_0 a0_1 a0_2 a0_3 a0_4 l0_5 a0_6 a0_7) else (none))) else (none))) else (none))) else (none))) else (none))) = some (r1, r2) := H
  have A8 := Aside0.mk A80; clear A80; replace H := Option.bind_eq_some_iff.mp H; obtain ⟨t383, A90, H⟩ := H
  replace H : (if t382.size + t383.size ≤ 9223372036854775807 then ((spec_l04Byte.f a0_2).bind fun t384 => (if (t382 ++ t383).size + t384.size ≤ 9223372036854775807 then ((spec_l04Byte.f a0_3).bind fun t385 => (if ((t382 ++ t383) ++ t384).size + t385.size ≤ 9223372036854775807 then ((spec_l01Var.f k a0_4).bind fun t386 => (if (((t382 ++ t383) ++ t384) ++ t385).size + t386.size ≤ 9223372036854775807 then ((spec_l01Var.f k (l0_5.length : Int)).bind fun t387 => (if ((((t382 ++ t383) ++ t384) ++ t385) ++ t386).size + t387.size ≤ 9223372036854775807 then (spec_RecordText.l0 k (((((t382 ++ t383) ++ t384) ++ t385) ++ t386) ++ t387) 0 a0_0 a0_1 a0_2 a0_3 a0_4 l0_5 a0_6 a0_7) else (none))) else (none))) else (none))) else (none))) else (none)) = some (r1, r2) := H
  have A9 := Aside0.mk A90; clear A90
  by_cases c10 : t382.size + t383.size ≤ 9223372036854775807
  ·rw [if_pos c10] at H; have c10b0 := eq_true c10
   have c10b1 : decide (t382.size + t383.size ≤ 9223372036854775807) = true := decide_eq_true c10
   try have c10b2 : (9223372036854775807 < t382.size + t383.size) = False := eq_false (Nat.not_lt.2 c10)
   try (have c10b3 := c10b2; simp only [ByteArray.size_append] at c10b3)
   replace H := Option.bind_eq_some_iff.mp H; obtain ⟨t384, A110, H⟩ := H
   replace H : (if (t382 ++ t383).size + t384.size ≤ 9223372036854775807 then ((spec_l04Byte.f a0_3).bind fun t385 => (if ((t382 ++ t383) ++ t384).size + t385.size ≤ 9223372036854775807 then ((spec_l01Var.f k a0_4).bind fun t386 => (if (((t382 ++ t383) ++ t384) ++ t385).size + t386.size ≤ 9223372036854775807 then ((spec_l01Var.f k (l0_5.length : Int)).bind fun t387 => (if ((((t382 ++ t383) ++ t384) ++ t385) ++ t386).size + t387.size ≤ 9223372036854775807 then (spec_RecordText.l0 k (((((t382 ++ t383) ++ t384) ++ t385) ++ t386) ++ t387) 0 a0_0 a0_1 a0_2 a0_3 a0_4 l0_5 a0_6 a0_7) else (none))) else (none))) else (none))) else (none)) = some (r1, r2) := H
   have A11 := Aside0.mk A110; clear A110
   by_cases c12 : (t382 ++ t383).size + t384.size ≤ 9223372036854775807
   ·rw [if_pos c12] at H; have c12b0 := eq_true c12
    have c12b1 : decide ((t382 ++ t383).size + t384.size ≤ 9223372036854775807) = true := decide_eq_true c12
    try have c12b2 : (9223372036854775807 < (t382 ++ t383).size + t384.size) = False := eq_false (Nat.not_lt.2 c12)
    try (have c12b3 := c12b2; simp only [ByteArray.size_append] at c12b3)
    replace H := Option.bind_eq_some_iff.mp H; obtain ⟨t385, A130, H⟩ := H
    replace H : (if ((t382 ++ t383) ++ t384).size + t385.size ≤ 9223372036854775807 then ((spec_l01Var.f k a0_4).bind fun t386 => (if (((t382 ++ t383) ++ t384) ++ t385).size + t386.size ≤ 9223372036854775807 then ((spec_l01Var.f k (l0_5.length : Int)).bind fun t387 => (if ((((t382 ++ t383) ++ t384) ++ t385) ++ t386).size + t387.size ≤ 9223372036854775807 then (spec_RecordText.l0 k (((((t382 ++ t383) ++ t384) ++ t385) ++ t386) ++ t387) 0 a0_0 a0_1 a0_2 a0_3 a0_4 l0_5 a0_6 a0_7) else (none))) else (none))) else (none)) = some (r1, r2) := H
    have A13 := Aside0.mk A130; clear A130
    by_cases c14 : ((t382 ++ t383) ++ t384).size + t385.size ≤ 9223372036854775807
    ·rw [if_pos c14] at H; have c14b0 := eq_true c14
     have c14b1 : decide (((t382 ++ t383) ++ t384).size + t385.size ≤ 9223372036854775807) = true := decide_eq_true c14
     try have c14b2 : (9223372036854775807 < ((t382 ++ t383) ++ t384).size + t385.size) = False := eq_false (Nat.not_lt.2 c14)
     try (have c14b3 := c14b2; simp only [ByteArray.size_append] at c14b3)
     replace H := Option.bind_eq_some_iff.mp H; obtain ⟨t386, A150, H⟩ := H
     replace H : (if (((t382 ++ t383) ++ t384) ++ t385).size + t386.size ≤ 9223372036854775807 then ((spec_l01Var.f k (l0_5.length : Int)).bind fun t387 => (if ((((t382 ++ t383) ++ t384) ++ t385) ++ t386).size + t387.size ≤ 9223372036854775807 then (spec_RecordText.l0 k (((((t382 ++ t383) ++ t384) ++ t385) ++ t386) ++ t387) 0 a0_0 a0_1 a0_2 a0_3 a0_4 l0_5 a0_6 a0_7) else (none))) else (none)) = some (r1, r2) := H
     have A15 := Aside0.mk A150; clear A150
     by_cases c16 : (((t382 ++ t383) ++ t384) ++ t385).size + t386.size ≤ 9223372036854775807
     ·rw [if_pos c16] at H; have c16b0 := eq_true c16
      have c16b1 : decide ((((t382 ++ t383) ++ t384) ++ t385).size + t386.size ≤ 9223372036854775807) = true := decide_eq_true c16
      try have c16b2 : (9223372036854775807 < (((t382 ++ t383) ++ t384) ++ t385).size + t386.size) = False := eq_false (Nat.not_lt.2 c16)
      try (have c16b3 := c16b2; simp only [ByteArray.size_append] at c16b3)
      replace H := Option.bind_eq_some_iff.mp H; obtain ⟨t387, A170, H⟩ := H
      replace H : (if ((((t382 ++ t383) ++ t384) ++ t385) ++ t386).size + t387.size ≤ 9223372036854775807 then (spec_RecordText.l0 k (((((t382 ++ t383) ++ t384) ++ t385) ++ t386) ++ t387) 0 a0_0 a0_1 a0_2 a0_3 a0_4 l0_5 a0_6 a0_7) else (none)) = some (r1, r2) := H
      have A17 := Aside0.mk A170; clear A170
      by_cases c18 : ((((t382 ++ t383) ++ t384) ++ t385) ++ t386).size + t387.size ≤ 9223372036854775807
      ·rw [if_pos c18] at H; have c18b0 := eq_true c18
       have c18b1 : decide (((((t382 ++ t383) ++ t384) ++ t385) ++ t386).size + t387.size ≤ 9223372036854775807) = true := decide_eq_true c18
       try have c18b2 : (9223372036854775807 < ((((t382 ++ t383) ++ t384) ++ t385) ++ t386).size + t387.size) = False := eq_false (Nat.not_lt.2 c18)
       try (have c18b3 := c18b2; simp only [ByteArray.size_append] at c18b3)
       have H' := Aside0.mk H; clear H
       try go_wp2
       replace BK380 := Aside0.mk (blk_drew BK380.out); replace HB := Aside0.mk (below_drew1 HB.out)
       refine start_ (n := 25) (S := fun w' => w'.cell? ⟨gb380, 0, none⟩ = some (.int .i64 a0_0) ∧ w'.cell? ⟨gb380, 1, none⟩ = some (.int .i64 a0_1) ∧ w'.cell? ⟨gb380, 2, none⟩ = some (.int .i64 a0_2) ∧ w'.cell? ⟨gb380, 3, none⟩ = some (.int .i64 a0_3) ∧ w'.cell? ⟨gb380, 4, none⟩ = some (.int .i64 a0_4) ∧ w'.cell? ⟨gb380, 5, none⟩ = some (.slice A0_5 l0_5.length c0_5) ∧ w'.cell? ⟨gb380, 6, none⟩ = some (.int .i64 a0_6) ∧ w'.cell? ⟨gb380, 7, none⟩ = some (.bool a0_7)) (ds := []) (bL 25 0) (by kernel_rfl) rfl rfl ⟨(blk_cell BK380.out 0).trans rfl, (blk_cell BK380.out 1).trans rfl, (blk_cell BK380.out 2).trans rfl, (blk_cell BK380.out 3).trans rfl, (blk_cell BK380.out 4).trans rfl, (blk_cell BK380.out 5).trans rfl, (blk_cell BK380.out 6).trans rfl, (blk_cell BK380.out 7).trans rfl⟩ (fun hHeld => ?_); refine with_tabW spec_RecordText.tab3 spec_RecordText.bits3 (fun HT_ HW_ => ?_)
       generalize w6.drew = w19 at BK380 HB hHeld ⊢
       refine pq_ 0 9 (bL 25 1) HT_.out rfl rfl ?_
       refine pq_ 3 12 (bL 25 9) HT_.out rfl rfl ?_
       refine pq_ 7 16 (bL 25 137) HT_.out rfl rfl ?_
       refine pq_ 11 20 (bL 25 2185) HT_.out rfl rfl ?_
       refine pq_ 15 24 (bL 25 34953) HT_.out rfl rfl ?_
       refine pq_ 19 28 (bL 25 559241) HT_.out rfl rfl ?_
       refine take_ (i := 1) (N := some 10) (v := ?_) (a' := ?_) (bL 25 559243) rfl rfl (take_ofW HT_.out HW_.out (by kernel_rfl)) (fun _ _ _ h => h) (Or.inl ⟨by rfl, ?_⟩) hHeld ?_ ?_; rotate_left; (rintro w' ⟨s0, s1, s2, s3, s4, s5, s6, s7⟩; go_simp; with_reducible rfl); rotate_left; (exact put_q)
       refine take_ (i := 4) (N := some 13) (v := ?_) (a' := ?_) (bL 25 559259) rfl rfl (take_ofW HT_.out HW_.out (by kernel_rfl)) (fun _ _ _ h => h) (Or.inl ⟨by rfl, ?_⟩) hHeld ?_ ?_; rotate_left; (rintro w' ⟨s0, s1, s2, s3, s4, s5, s6, s7⟩; go_simp; with_reducible rfl); rotate_left; (exact put_q)
       refine take_ (i := 8) (N := some 17) (v := ?_) (a' := ?_) (bL 25 559515) rfl rfl (take_ofW HT_.out HW_.out (by kernel_rfl)) (fun _ _ _ h => h) (Or.inl ⟨by rfl, ?_⟩) hHeld ?_ ?_; rotate_left; (rintro w' ⟨s0, s1, s2, s3, s4, s5, s6, s7⟩; go_simp; with_reducible rfl); rotate_left; (exact put_q)
       refine take_ (i := 12) (N := some 21) (v := ?_) (a' := ?_) (bL 25 563611) rfl rfl (take_ofW HT_.out HW_.out (by kernel_rfl)) (fun _ _ _ h => h) (Or.inl ⟨by rfl, ?_⟩) hHeld ?_ ?_; rotate_left; (rintro w' ⟨s0, s1, s2, s3, s4, s5, s6, s7⟩; go_simp; with_reducible rfl); rotate_left; (exact put_q)
       refine take_ (i := 16) (N := some 25) (v := ?_) (a' := ?_) (bL 25 629147) rfl rfl (take_ofW HT_.out HW_.out (by kernel_rfl)) (fun _ _ _ h => h) (Or.inl ⟨by rfl, ?_⟩) hHeld ?_ ?_; rotate_left; (rintro w' ⟨s0, s1, s2, s3, s4, s5, s6, s7⟩; go_simp; with_reducible rfl); rotate_left; (exact put_q)
       refine take_ (i := 20) (N := some 29) (v := ?_) (a' := ?_) (bL 25 1677723) rfl rfl (take_ofW HT_.out HW_.out (by kernel_rfl)) (fun _ _ _ h => h) (Or.inl ⟨by rfl, ?_⟩) hHeld ?_ ?_; rotate_left; (rintro w' ⟨s0, s1, s2, s3, s4, s5, s6, s7⟩; go_simp; with_reducible rfl); rotate_left; (exact put_q)
       refine pq_ 21 30 (bL 25 3774875) HT_.out rfl rfl ?_
       refine one_ (i := 2) (N := some 11) (bL 25 3774879) rfl rfl (one_of HT_.out (by kernel_rfl)) (by decide) (fun K hK => ?_)
       refine goes_ Try.func48 (by kernel_rfl) rfl #[.int .i64 a0_0] (by rfl) rfl rfl mp_q ?_
       with_reducible refine (spec_l04Byte.calls a0_0 t382 _ A8.out).mono ?_
       rintro e w20 ⟨rfl, hb⟩
       refine ⟨_, rfl, ?_⟩
       replace BK380 := Aside0.mk (blk_below (g := gb380) (bk_q BK380) hb); replace HB := Aside0.mk (below_step (bw_q HB) hb); (try clear hb); (try clear hb2); (try clear hk); (try clear hi)
       refine hK.out _ _ ⟨(blk_cell BK380.out 0).trans rfl, (blk_cell BK380.out 1).trans rfl, (blk_cell BK380.out 2).trans rfl, (blk_cell BK380.out 3).trans rfl, (blk_cell BK380.out 4).trans rfl, (blk_cell BK380.out 5).trans rfl, (blk_cell BK380.out 6).trans rfl, (blk_cell BK380.out 7).trans rfl⟩ (fun hHeld => ?_)
       clear hK K
       refine norm_ (a' := ?_) ?_ ?_; rotate_left; (show Act.put _ (some 11) _ = _; simp only [Act.put, List.setIfInBounds_toArray, List.set_cons_zero, List.set_cons_succ, i64_w, i32_w]; rfl)
       refine one_ (i := 5) (N := some 14) (bL 25 3774911) rfl rfl (one_of HT_.out (by kernel_rfl)) (by decide) (fun K hK => ?_)
       refine goes_ Try.func48 (by kernel_rfl) rfl #[.int .i64 a0_1] (by rfl) rfl rfl mp_q ?_
       with_reducible refine (spec_l04Byte.calls a0_1 t383 _ A9.out).mono ?_
       rintro e w21 ⟨rfl, hb⟩
       refine ⟨_, rfl, ?_⟩
       replace BK380 := Aside0.mk (blk_below (g := gb380) (bk_q BK380) hb); replace HB := Aside0.mk (below_step (bw_q HB) hb); (try clear hb); (try clear hb2); (try clear hk); (try clear hi)
       refine hK.out _ _ ⟨(blk_cell BK380.out 0).trans rfl, (blk_cell BK380.out 1).trans rfl, (blk_cell BK380.out 2).trans rfl, (blk_cell BK380.out 3).trans rfl, (blk_cell BK380.out 4).trans rfl, (blk_cell BK380.out 5).trans rfl, (blk_cell BK380.out 6).trans rfl, (blk_cell BK380.out 7).trans rfl⟩ (fun hHeld => ?_)
       clear hK K
       refine norm_ (a' := ?_) ?_ ?_; rotate_left; (show Act.put _ (some 14) _ = _; simp only [Act.put, List.setIfInBounds_toArray, List.set_cons_zero, List.set_cons_succ, i64_w, i32_w]; rfl)
       refine pq_ 6 15 (bL 25 3774975) HT_.out rfl rfl ?_
       refine one_ (i := 9) (N := some 18) (bL 25 3775487) rfl rfl (one_of HT_.out (by kernel_rfl)) (by decide) (fun K hK => ?_)
       refine goes_ Try.func48 (by kernel_rfl) rfl #[.int .i64 a0_2] (by rfl) rfl rfl mp_q ?_
       with_reducible refine (spec_l04Byte.calls a0_2 t384 _ A11.out).mono ?_
       rintro e w22 ⟨rfl, hb⟩
       refine ⟨_, rfl, ?_⟩
       replace BK380 := Aside0.mk (blk_below (g := gb380) (bk_q BK380) hb); replace HB := Aside0.mk (below_step (bw_q HB) hb); (try clear hb); (try clear hb2); (try clear hk); (try clear hi)
       refine hK.out _ _ ⟨(blk_cell BK380.out 0).trans rfl, (blk_cell BK380.out 1).trans rfl, (blk_cell BK380.out 2).trans rfl, (blk_cell BK380.out 3).trans rfl, (blk_cell BK380.out 4).trans rfl, (blk_cell BK380.out 5).trans rfl, (blk_cell BK380.out 6).trans rfl, (blk_cell BK380.out 7).trans rfl⟩ (fun hHeld => ?_)
       clear hK K
       refine norm_ (a' := ?_) ?_ ?_; rotate_left; (show Act.put _ (some 18) _ = _; simp only [Act.put, List.setIfInBounds_toArray, List.set_cons_zero, List.set_cons_succ, i64_w, i32_w]; rfl)
       refine pq_ 10 19 (bL 25 3776511) HT_.out rfl rfl ?_
       refine one_ (i := 13) (N := some 22) (bL 25 3784703) rfl rfl (one_of HT_.out (by kernel_rfl)) (by decide) (fun K hK => ?_)
       refine goes_ Try.func48 (by kernel_rfl) rfl #[.int .i64 a0_3] (by rfl) rfl rfl mp_q ?_
       with_reducible refine (spec_l04Byte.calls a0_3 t385 _ A13.out).mono ?_
       rintro e w23 ⟨rfl, hb⟩
       refine ⟨_, rfl, ?_⟩
       replace BK380 := Aside0.mk (blk_below (g := gb380) (bk_q BK380) hb); replace HB := Aside0.mk (below_step (bw_q HB) hb); (try clear hb); (try clear hb2); (try clear hk); (try clear hi)
       refine hK.out _ _ ⟨(blk_cell BK380.out 0).trans rfl, (blk_cell BK380.out 1).trans rfl, (blk_cell BK380.out 2).trans rfl, (blk_cell BK380.out 3).trans rfl, (blk_cell BK380.out 4).trans rfl, (blk_cell BK380.out 5).trans rfl, (blk_cell BK380.out 6).trans rfl, (blk_cell BK380.out 7).trans rfl⟩ (fun hHeld => ?_)
       clear hK K
       refine norm_ (a' := ?_) ?_ ?_; rotate_left; (show Act.put _ (some 22) _ = _; simp only [Act.put, List.setIfInBounds_toArray, List.set_cons_zero, List.set_cons_succ, i64_w, i32_w]; rfl)
       refine pq_ 14 23 (bL 25 3801087) HT_.out rfl rfl ?_
       refine one_ (i := 17) (N := some 26) (bL 25 3932159) rfl rfl (one_of HT_.out (by kernel_rfl)) (by decide) (fun K hK => ?_)
       refine goes_ Try.func49 (by kernel_rfl) rfl #[.int .i64 a0_4] (by rfl) rfl rfl mp_q ?_
       with_reducible refine (spec_l01Var.calls k a0_4 t386 _ A15.out).mono ?_
       rintro e w24 ⟨rfl, hb⟩
       refine ⟨_, rfl, ?_⟩
       replace BK380 := Aside0.mk (blk_below (g := gb380) (bk_q BK380) hb); replace HB := Aside0.mk (below_step (bw_q HB) hb); (try clear hb); (try clear hb2); (try clear hk); (try clear hi)
       refine hK.out _ _ ⟨(blk_cell BK380.out 0).trans rfl, (blk_cell BK380.out 1).trans rfl, (blk_cell BK380.out 2).trans rfl, (blk_cell BK380.out 3).trans rfl, (blk_cell BK380.out 4).trans rfl, (blk_cell BK380.out 5).trans rfl, (blk_cell BK380.out 6).trans rfl, (blk_cell BK380.out 7).trans rfl⟩ (fun hHeld => ?_)
       clear hK K
       refine norm_ (a' := ?_) ?_ ?_; rotate_left; (show Act.put _ (some 26) _ = _; simp only [Act.put, List.setIfInBounds_toArray, List.set_cons_zero, List.set_cons_succ, i64_w, i32_w]; rfl)
       refine pq_ 18 27 (bL 25 4194303) HT_.out rfl rfl ?_
       refine one_ (i := 22) (N := some 31) (bL 25 8388607) rfl rfl (one_of HT_.out (by kernel_rfl)) (by decide) (fun K hK => ?_)
       refine goes_ Try.func49 (by kernel_rfl) rfl #[.int .i64 (l0_5.length : Int)] (by rfl) rfl rfl mp_q ?_
       with_reducible refine (spec_l01Var.calls k (l0_5.length : Int) t387 _ A17.out).mono ?_
       rintro e w25 ⟨rfl, hb⟩
       refine ⟨_, rfl, ?_⟩
       replace BK380 := Aside0.mk (blk_below (g := gb380) (bk_q BK380) hb); replace HB := Aside0.mk (below_step (bw_q HB) hb); (try clear hb); (try clear hb2); (try clear hk); (try clear hi)
       refine hK.out _ _ ⟨(blk_cell BK380.out 0).trans rfl, (blk_cell BK380.out 1).trans rfl, (blk_cell BK380.out 2).trans rfl, (blk_cell BK380.out 3).trans rfl, (blk_cell BK380.out 4).trans rfl, (blk_cell BK380.out 5).trans rfl, (blk_cell BK380.out 6).trans rfl, (blk_cell BK380.out 7).trans rfl⟩ (fun hHeld => ?_)
       clear hK K
       refine norm_ (a' := ?_) ?_ ?_; rotate_left; (show Act.put _ (some 31) _ = _; simp only [Act.put, List.setIfInBounds_toArray, List.set_cons_zero, List.set_cons_succ, i64_w, i32_w]; rfl)
       refine pq_ 23 32 (bL 25 16777215) HT_.out rfl rfl ?_
       refine pq_ 24 4 (bL 25 33554431) HT_.out rfl rfl ?_
       refine done_ (done_of HT_.out (by kernel_rfl)) ?_
       try go_wp2
       go_loopg [4, 5] k (fun kq v4 v5 w' => ∃ (x4_1 : ByteArray) (x5_1 : Int), v4 = .string x4_1 ∧ v5 = .int .i64 x5_1 ∧ Aside0 (spec_RecordText.l0 kq x4_1 x5_1 a0_0 a0_1 a0_2 a0_3 a0_4 l0_5 a0_6 a0_7 = some (r1, r2)) ∧ Aside0 (kq ≤ k) ∧ Aside0 (w'.heap[gb380]? = some (.cells #[.int .i64 a0_0, .int .i64 a0_1, .int .i64 a0_2, .int .i64 a0_3, .int .i64 a0_4, (.slice A0_5 l0_5.length c0_5), .int .i64 a0_6, .bool a0_7] 24 (0, 0))) ∧ Aside0 (Below w.heap.size w w'))
       case atStart => exact ⟨(((((t382 ++ t383) ++ t384) ++ t385) ++ t386) ++ t387), (0), (by first | rfl | (simp; done) | (simp [*]; done)), (by first | rfl | (simp; done) | (simp [*]; done)), H', ⟨Nat.le_refl _⟩, ⟨by refine bz_ ?_; exact BK380.out⟩, ⟨bw_q HB⟩⟩
       case round =>
        clear H'; (try clear c1); (try clear c2); (try clear p2); (try clear c4); (try clear c7); (try clear c10); (try clear c10b0); (try clear c10b1); (try clear c10b2); (try clear c12); (try clear c12b0); (try clear c12b1); (try clear c12b2); (try clear c14); (try clear c14b0); (try clear c14b1); (try clear c14b2); (try clear c16); (try clear c16b0); (try clear c16b1); (try clear c16b2); (try clear c18); (try clear c18b0); (try clear c18b1); (try clear c18b2); (try clear hcz5_0); (try clear hcz5_1); (try clear hcz5_2); (try clear hcz5_3); (try clear hcz5_4); (try clear hcz5_5); (try clear hcz5_6); (try clear hcz5_7); (try clear hfz5_0); (try clear hfz5_1); (try clear hfz5_2); (try clear hfz5_3); (try clear hfz5_4); (try clear hfz5_5); (try clear hfz5_6); (try clear hfz5_7); obtain ⟨x4_1, x5_1, rfl, rfl, HA, HK1, BK380, HB⟩ := hrel
        cases gk with
        | zero => exact absurd HA.out (by simp [spec_RecordText.l0])
        | succ k1 =>
         have H := HA.out; clear HA
         simp only [spec_RecordText.l0] at H
         by_cases c26 : x5_1 < (l0_5.length : Int)
         ·rw [if_pos c26] at H
          have c26b0 : decide (x5_1 < (l0_5.length : Int)) = true := decide_eq_true c26
          clear c26
          (first | rw [c26b0] | rw [c26b1] | (simp only [i64_w, i32_w]; first | rw [c26b0] | rw [c26b1]) | skip)
          by_cases c27 : 0 ≤ x5_1
          ·rw [if_pos c27] at H
           have c27b0 : decide (0 ≤ x5_1) = true := decide_eq_true c27
           clear c27; replace H := Option.bind_eq_some_iff.mp H; obtain ⟨t389, A280, H⟩ := H
           replace H : (if x4_1.size + t389.size ≤ 9223372036854775807 then ((spec_l01Var.f k1 ((rd_T63 l0_5 x5_1).f1)).bind fun t390 => (if (x4_1 ++ t389).size + t390.size ≤ 9223372036854775807 then (spec_RecordText.l0 k1 ((x4_1 ++ t389) ++ t390) (wrap64 (x5_1 + 1)) a0_0 a0_1 a0_2 a0_3 a0_4 l0_5 a0_6 a0_7) else (none))) else (none)) = some (r1, r2) := H
           have A28 := Aside0.mk A280; clear A280
           by_cases c29 : x4_1.size + t389.size ≤ 9223372036854775807
           ·rw [if_pos c29] at H; have c29b0 := eq_true c29
            have c29b1 : decide (x4_1.size + t389.size ≤ 9223372036854775807) = true := decide_eq_true c29
            try have c29b2 : (9223372036854775807 < x4_1.size + t389.size) = False := eq_false (Nat.not_lt.2 c29)
            try (have c29b3 := c29b2; simp only [ByteArray.size_append] at c29b3)
            replace H := Option.bind_eq_some_iff.mp H; obtain ⟨t390, A300, H⟩ := H
            replace H : (if (x4_1 ++ t389).size + t390.size ≤ 9223372036854775807 then (spec_RecordText.l0 k1 ((x4_1 ++ t389) ++ t390) (wrap64 (x5_1 + 1)) a0_0 a0_1 a0_2 a0_3 a0_4 l0_5 a0_6 a0_7) else (none)) = some (r1, r2) := H
            have A30 := Aside0.mk A300; clear A300
            by_cases c31 : (x4_1 ++ t389).size + t390.size ≤ 9223372036854775807
            ·rw [if_pos c31] at H; have c31b0 := eq_true c31
             have c31b1 : decide ((x4_1 ++ t389).size + t390.size ≤ 9223372036854775807) = true := decide_eq_true c31
             try have c31b2 : (9223372036854775807 < (x4_1 ++ t389).size + t390.size) = False := eq_false (Nat.not_lt.2 c31)
             try (have c31b3 := c31b2; simp only [ByteArray.size_append] at c31b3)
             have H' := Aside0.mk H; clear H; obtain ⟨hcz32_0, hcz32_1, hcz32_2, hcz32_3, hcz32_4, hcz32_5, hcz32_6, hcz32_7⟩ := cz8_ BK380; obtain ⟨hfz32_0, hfz32_1, hfz32_2, hfz32_3, hfz32_4, hfz32_5, hfz32_6, hfz32_7⟩ := fz8_ BK380
             try go_wp2
             replace BK380 := Aside0.mk (blk_drew BK380.out); replace HB := Aside0.mk (below_drew1 HB.out)
             have p388 : 0 ≤ (x5_1 : Int) := of_decide_eq_true as_q
             have q388 : x5_1 < (l0_5.length : Int) := of_decide_eq_true as_q
             obtain ⟨ad388, e388, hx388_0, hx388_1⟩ := at_T63 HR0_5.out x5_1 p388 q388; have hw388_1 := hx388_1; have hw388_0 := hx388_0
             cases e388
             replace hx388_0 := (HB.out.cell (World.block_lt_of_cell? w _ hx388_0)).trans hx388_0
             replace hx388_1 := (HB.out.cell (World.block_lt_of_cell? w _ hx388_1)).trans hx388_1
             replace p388 := eq_true p388; replace q388 := eq_true q388
             refine start_ (n := 18) (S := fun w' => w'.cell? ⟨gb380, 0, none⟩ = some (.int .i64 a0_0) ∧ w'.cell? ⟨gb380, 1, none⟩ = some (.int .i64 a0_1) ∧ w'.cell? ⟨gb380, 2, none⟩ = some (.int .i64 a0_2) ∧ w'.cell? ⟨gb380, 3, none⟩ = some (.int .i64 a0_3) ∧ w'.cell? ⟨gb380, 4, none⟩ = some (.int .i64 a0_4) ∧ w'.cell? ⟨gb380, 5, none⟩ = some (.slice (some ad388) l0_5.length c0_5) ∧ w'.cell? ⟨gb380, 6, none⟩ = some (.int .i64 a0_6) ∧ w'.cell? ⟨gb380, 7, none⟩ = some (.bool a0_7) ∧ w'.cell? (ad388.add ((x5_1).toNat * 2)) = some (.int .i64 ((rd_T63 l0_5 x5_1).f0)) ∧ w'.cell? ⟨(ad388.add ((x5_1).toNat * 2)).block, (ad388.add ((x5_1).toNat * 2)).off + 1, none⟩ = some (.int .i64 ((rd_T63 l0_5 x5_1).f1))) (ds := []) (bL 18 0) (by kernel_rfl) rfl rfl ⟨(blk_cell BK380.out 0).trans rfl, (blk_cell BK380.out 1).trans rfl, (blk_cell BK380.out 2).trans rfl, (blk_cell BK380.out 3).trans rfl, (blk_cell BK380.out 4).trans rfl, (blk_cell BK380.out 5).trans rfl, (blk_cell BK380.out 6).trans rfl, (blk_cell BK380.out 7).trans rfl, ((HB.out.cell (World.block_lt_of_cell? w _ hw388_0)).trans hw388_0), ((HB.out.cell (World.block_lt_of_cell? w _ hw388_1)).trans hw388_1)⟩ (fun hHeld => ?_); refine with_tabW spec_RecordText.tab7 spec_RecordText.bits7 (fun HT_ HW_ => ?_)
             generalize wr.drew = w33 at BK380 HB hx388_0 hx388_1 hHeld ⊢
             refine pq_ 0 40 (bL 18 1) HT_.out rfl rfl ?_
             refine pq_ 1 41 (bL 18 3) HT_.out rfl rfl ?_
             refine pq_ 3 43 (bL 18 11) HT_.out rfl rfl ?_
             refine pq_ 9 49 (bL 18 523) HT_.out rfl rfl ?_
             refine pq_ 11 51 (bL 18 2571) HT_.out rfl rfl ?_
             refine take_ (i := 2) (N := some 42) (v := ?_) (a' := ?_) (bL 18 2575) rfl rfl (take_ofW HT_.out HW_.out (by kernel_rfl)) (fun _ _ _ h => h) (Or.inl ⟨by rfl, ?_⟩) hHeld ?_ ?_; rotate_left; (rintro w' ⟨s0, s1, s2, s3, s4, s5, s6, s7, s8, s9⟩; go_simp; with_reducible rfl); rotate_left; (exact put_q)
             refine pq_ 4 44 (bL 18 2591) HT_.out rfl rfl ?_
             refine pq_ 5 45 (bL 18 2623) HT_.out rfl rfl ?_
             refine take_ (i := 6) (N := some 46) (v := ?_) (a' := ?_) (bL 18 2687) rfl rfl (take_ofW HT_.out HW_.out (by kernel_rfl)) (fun _ _ _ h => h) (Or.inl ⟨by rfl, ?_⟩) hHeld ?_ ?_; rotate_left; (rintro w' ⟨s0, s1, s2, s3, s4, s5, s6, s7, s8, s9⟩; go_simp; with_reducible rfl); rotate_left; (exact put_q)
             refine take_ (i := 10) (N := some 50) (v := ?_) (a' := ?_) (bL 18 3711) rfl rfl (take_ofW HT_.out HW_.out (by kernel_rfl)) (fun _ _ _ h => h) (Or.inl ⟨by rfl, ?_⟩) hHeld ?_ ?_; rotate_left; (rintro w' ⟨s0, s1, s2, s3, s4, s5, s6, s7, s8, s9⟩; go_simp; with_reducible rfl); rotate_left; (exact put_q)
             refine pq_ 12 52 (bL 18 7807) HT_.out rfl rfl ?_
             refine pq_ 13 53 (bL 18 15999) HT_.out rfl rfl ?_
             refine take_ (i := 14) (N := some 54) (v := ?_) (a' := ?_) (bL 18 32383) rfl rfl (take_ofW HT_.out HW_.out (by kernel_rfl)) (fun _ _ _ h => h) (Or.inl ⟨by rfl, ?_⟩) hHeld ?_ ?_; rotate_left; (rintro w' ⟨s0, s1, s2, s3, s4, s5, s6, s7, s8, s9⟩; go_simp; with_reducible rfl); rotate_left; (exact put_q)
             refine one_ (i := 7) (N := some 47) (bL 18 32511) rfl rfl (one_of HT_.out (by kernel_rfl)) (by decide) (fun K hK => ?_)
             refine goes_ Try.func48 (by kernel_rfl) rfl #[.int .i64 ((rd_T63 l0_5 x5_1).f0)] (by rfl) rfl rfl mp_q ?_
             with_reducible refine (spec_l04Byte.calls ((rd_T63 l0_5 x5_1).f0) t389 _ A28.out).mono ?_
             rintro e w34 ⟨rfl, hb⟩
             refine ⟨_, rfl, ?_⟩
             replace BK380 := Aside0.mk (blk_below (g := gb380) (bk_q BK380) hb); replace HB := Aside0.mk (below_step (bw_q HB) hb); (try clear hb); (try clear hb2); (try clear hk); (try clear hi)
             refine hK.out _ _ ⟨(blk_cell BK380.out 0).trans rfl, (blk_cell BK380.out 1).trans rfl, (blk_cell BK380.out 2).trans rfl, (blk_cell BK380.out 3).trans rfl, (blk_cell BK380.out 4).trans rfl, (blk_cell BK380.out 5).trans rfl, (blk_cell BK380.out 6).trans rfl, (blk_cell BK380.out 7).trans rfl, ((HB.out.cell (World.block_lt_of_cell? w _ hw388_0)).trans hw388_0), ((HB.out.cell (World.block_lt_of_cell? w _ hw388_1)).trans hw388_1)⟩ (fun hHeld => ?_)
             clear hK K
             refine norm_ (a' := ?_) ?_ ?_; rotate_left; (show Act.put _ (some 47) _ = _; simp only [Act.put, List.setIfInBounds_toArray, List.set_cons_zero, List.set_cons_succ, i64_w, i32_w]; rfl)
             refine pq_ 8 48 (bL 18 32767) HT_.out rfl rfl ?_
             refine one_ (i := 15) (N := some 55) (bL 18 65535) rfl rfl (one_of HT_.out (by kernel_rfl)) (by decide) (fun K hK => ?_)
             refine goes_ Try.func49 (by kernel_rfl) rfl #[.int .i64 ((rd_T63 l0_5 x5_1).f1)] (by rfl) rfl rfl mp_q ?_
             with_reducible refine (spec_l01Var.calls k1 ((rd_T63 l0_5 x5_1).f1) t390 _ A30.out).mono ?_
             rintro e w35 ⟨rfl, hb⟩
             refine ⟨_, rfl, ?_⟩
             replace BK380 := Aside0.mk (blk_below (g := gb380) (bk_q BK380) hb); replace HB := Aside0.mk (below_step (bw_q HB) hb); (try clear hb); (try clear hb2); (try clear hk); (try clear hi)
             refine hK.out _ _ ⟨(blk_cell BK380.out 0).trans rfl, (blk_cell BK380.out 1).trans rfl, (blk_cell BK380.out 2).trans rfl, (blk_cell BK380.out 3).trans rfl, (blk_cell BK380.out 4).trans rfl, (blk_cell BK380.out 5).trans rfl, (blk_cell BK380.out 6).trans rfl, (blk_cell BK380.out 7).trans rfl, ((HB.out.cell (World.block_lt_of_cell? w _ hw388_0)).trans hw388_0), ((HB.out.cell (World.block_lt_of_cell? w _ hw388_1)).trans hw388_1)⟩ (fun hHeld => ?_)
             clear hK K
             refine norm_ (a' := ?_) ?_ ?_; rotate_left; (show Act.put _ (some 55) _ = _; simp only [Act.put, List.setIfInBounds_toArray, List.set_cons_zero, List.set_cons_succ, i64_w, i32_w]; rfl)
             refine pq_ 16 56 (bL 18 131071) HT_.out rfl rfl ?_
             refine pq_ 17 4 (bL 18 262143) HT_.out rfl rfl ?_
             refine done_ (done_of HT_.out (by kernel_rfl)) ?_
             try go_wp2
             go_roundg k1
             case measure => have := HK1.out; omega
             case rel => exact ⟨((x4_1 ++ t389) ++ t390), (wrap64 (x5_1 + 1)), (by first | rfl | (simp; done) | (simp [*]; done)), (by first | rfl | (simp; done) | (simp [*]; done)), H', ⟨by have := HK1.out; omega⟩, ⟨by refine bz_ ?_; exact BK380.out⟩, ⟨bw_q HB⟩⟩
            ·rw [if_neg c31] at H
             exact absurd H (by simp)
           ·rw [if_neg c29] at H
            exact absurd H (by simp)
          ·rw [if_neg c27] at H
           exact absurd H (by simp)
         ·rw [if_neg c26] at H
          have c26b0 : decide (x5_1 < (l0_5.length : Int)) = false := decide_eq_false c26
          clear c26
          (first | rw [c26b0] | rw [c26b1] | (simp only [i64_w, i32_w]; first | rw [c26b0] | rw [c26b1]) | skip)
          replace H := Option.bind_eq_some_iff.mp H; obtain ⟨t391, A360, H⟩ := H
          replace H : (if x4_1.size + t391.size ≤ 9223372036854775807 then (if a0_7 = true then (if (x4_1 ++ t391).size + 1 ≤ 9223372036854775807 then (some ((x4_1 ++ t391) ++ (⟨#[1]⟩ : ByteArray), true)) else (none)) else (if (x4_1 ++ t391).size + 1 ≤ 9223372036854775807 then (some ((x4_1 ++ t391) ++ (⟨#[0]⟩ : ByteArray), true)) else (none))) else (none)) = some (r1, r2) := H
          have A36 := Aside0.mk A360; clear A360
          by_cases c37 : x4_1.size + t391.size ≤ 9223372036854775807
          ·rw [if_pos c37] at H; have c37b0 := eq_true c37
           have c37b1 : decide (x4_1.size + t391.size ≤ 9223372036854775807) = true := decide_eq_true c37
           try have c37b2 : (9223372036854775807 < x4_1.size + t391.size) = False := eq_false (Nat.not_lt.2 c37)
           try (have c37b3 := c37b2; simp only [ByteArray.size_append] at c37b3)
           have HC38 := Aside0.mk H; clear H; obtain ⟨hcz39_0, hcz39_1, hcz39_2, hcz39_3, hcz39_4, hcz39_5, hcz39_6, hcz39_7⟩ := cz8_ BK380; obtain ⟨hfz39_0, hfz39_1, hfz39_2, hfz39_3, hfz39_4, hfz39_5, hfz39_6, hfz39_7⟩ := fz8_ BK380
           go_upto_if 63 with (first | ((with_reducible refine gate_callee (f := 49) rfl ?_); refine goesL_ (some 60) rfl rfl Try.func49 (by kernel_rfl) rfl #[.int .i64 a0_6] rfl mp_q ?_; (with_reducible refine (spec_l01Var.calls k1 a0_6 t391 _ A36.out).mono ?_); rintro e w40 ⟨rfl, hb⟩; refine ⟨_, rfl, ?_⟩; replace BK380 := Aside0.mk (blk_below (g := gb380) (bk_q BK380) hb); replace HB := Aside0.mk (below_step (bw_q HB) hb); (try clear hb); (try clear hb2); (try clear hk); (try clear hi); have hcz41_0 : w40.cell? ⟨gb380, 0, none⟩ = some (.int .i64 a0_0) := (blk_cell BK380.out 0).trans rfl; have hcz41_1 : w40.cell? ⟨gb380, 1, none⟩ = some (.int .i64 a0_1) := (blk_cell BK380.out 1).trans rfl; have hcz41_2 : w40.cell? ⟨gb380, 2, none⟩ = some (.int .i64 a0_2) := (blk_cell BK380.out 2).trans rfl; have hcz41_3 : w40.cell? ⟨gb380, 3, none⟩ = some (.int .i64 a0_3) := (blk_cell BK380.out 3).trans rfl; have hcz41_4 : w40.cell? ⟨gb380, 4, none⟩ = some (.int .i64 a0_4) := (blk_cell BK380.out 4).trans rfl; have hcz41_5 : w40.cell? ⟨gb380, 5, none⟩ = some (.slice A0_5 l0_5.length c0_5) := (blk_cell BK380.out 5).trans rfl; have hcz41_6 : w40.cell? ⟨gb380, 6, none⟩ = some (.int .i64 a0_6) := (blk_cell BK380.out 6).trans rfl; have hcz41_7 : w40.cell? ⟨gb380, 7, none⟩ = some (.bool a0_7) := (blk_cell BK380.out 7).trans rfl; have hfz41_0 := blk_frozen BK380.out 0; have hfz41_1 := blk_frozen BK380.out 1; have hfz41_2 := blk_frozen BK380.out 2; have hfz41_3 := blk_frozen BK380.out 3; have hfz41_4 := blk_frozen BK380.out 4; have hfz41_5 := blk_frozen BK380.out 5; have hfz41_6 := blk_frozen BK380.out 6; have hfz41_7 := blk_frozen BK380.out 7))
           have H := HC38.out; clear HC38
           by_cases c42 : a0_7 = true
           ·subst c42
            replace H : (if (x4_1 ++ t391).size + 1 ≤ 9223372036854775807 then (some ((x4_1 ++ t391) ++ (⟨#[1]⟩ : ByteArray), true)) else (none)) = some (r1, r2) := by rw [if_pos rfl] at H; exact H
            by_cases c43 : (x4_1 ++ t391).size + 1 ≤ 9223372036854775807
            ·rw [if_pos c43] at H; have c43b0 := eq_true c43
             have c43b1 : decide ((x4_1 ++ t391).size + 1 ≤ 9223372036854775807) = true := decide_eq_true c43
             try have c43b2 : (9223372036854775807 < (x4_1 ++ t391).size + 1) = False := eq_false (Nat.not_lt.2 c43)
             try (have c43b3 := c43b2; simp only [ByteArray.size_append] at c43b3)
             simp only [Option.some.injEq, Prod.mk.injEq] at H
             obtain ⟨rfl, rfl⟩ := H
             go_wp2
             go_ret2
             exact ⟨er_q, bw_q HB⟩
            ·rw [if_neg c43] at H
             exact absurd H (by simp)
           ·replace c42 := Bool.eq_false_iff.mpr c42; subst c42
            replace H : (if (x4_1 ++ t391).size + 1 ≤ 9223372036854775807 then (some ((x4_1 ++ t391) ++ (⟨#[0]⟩ : ByteArray), true)) else (none)) = some (r1, r2) := by rw [if_neg (show ¬ (false = true) by decide)] at H; exact H
            by_cases c44 : (x4_1 ++ t391).size + 1 ≤ 9223372036854775807
            ·rw [if_pos c44] at H; have c44b0 := eq_true c44
             have c44b1 : decide ((x4_1 ++ t391).size + 1 ≤ 9223372036854775807) = true := decide_eq_true c44
             try have c44b2 : (9223372036854775807 < (x4_1 ++ t391).size + 1) = False := eq_false (Nat.not_lt.2 c44)
             try (have c44b3 := c44b2; simp only [ByteArray.size_append] at c44b3)
             simp only [Option.some.injEq, Prod.mk.injEq] at H
             obtain ⟨rfl, rfl⟩ := H
             go_wp2
             go_ret2
             exact ⟨er_q, bw_q HB⟩
            ·rw [if_neg c44] at H
             exact absurd H (by simp)
          ·rw [if_neg c37] at H
           exact absurd H (by simp)
      ·rw [if_neg c18] at H
       exact absurd H (by simp)
     ·rw [if_neg c16] at H
      exact absurd H (by simp)
    ·rw [if_neg c14] at H
     exact absurd H (by simp)
   ·rw [if_neg c12] at H
    exact absurd H (by simp)
  ·rw [if_neg c10] at H
   exact absurd H (by simp)
 ·replace c7 := Bool.eq_false_iff.mpr c7; subst c7
  replace H : (some ((⟨#[]⟩ : ByteArray), false)) = some (r1, r2) := by rw [if_neg (show ¬ (false = true) by decide)] at H; exact H
  simp only [Option.some.injEq, Prod.mk.injEq] at H
  obtain ⟨rfl, rfl⟩ := H
  go_wp2
  go_ret2
  exact ⟨er_q, bw_q HB⟩

end Go.Proofs.Ytnecbkognpponaa.Q

/- A Go function as a Lean function, and its contract: for every input the Go code comes to what the Lean function tells. -/


namespace Go.Proofs.Ytnecbkognpponaa.Q
open Go.RowKit Go.Proofs.YtnecbkognpponaaW.PrintWords Go.Proofs.YtnecbkognpponaaW.PrintLast Go.Proofs.YtnecbkognpponaaW.PrintMore
attribute [local go_sem] max2_int min2_int max_two min_two max_three min_three max_four min_four   -- for this text's walks alone
set_option linter.unusedVariables false
set_option linter.unusedSimpArgs false

/-! ### spec_l04Short: function 50 -/
def spec_l04Short.f (k : Nat) (a0 : ByteArray) : Option (ByteArray) := (spec_l01Var.f k (a0.size : Int)).bind fun t543 => (if t543.size + a0.size ≤ 9223372036854775807 then (some (t543 ++ a0)) else (none))
theorem spec_l04Short.mono : ∀ a0 k, LeO (spec_l04Short.f k a0) (spec_l04Short.f (k + 1) a0) := by
 intro a0 k
 unfold spec_l04Short.f
 repeat' first
   | (with_reducible exact spec_l01Var.mono _ _)
   | (with_reducible exact LeO.refl _)
   | (with_reducible exact LeO.none _)
   | (with_reducible refine LeO.ite ?_ ?_)
   | (with_reducible refine LeO.bind ?_ (fun _ => ?_))
   | exact spec_l01Var.mono _ _
   | exact LeO.none _
   | refine LeO.ite ?_ ?_
   | refine LeO.bind ?_ (fun _ => ?_)
set_option maxHeartbeats 8000000 in
set_option maxRecDepth 100000 in
theorem spec_l04Short.calls (k : Nat) (a0 : ByteArray) (r : ByteArray) (w : World) (h : spec_l04Short.f k a0 = some r) :
  Calls Try.prog 50 #[.string a0] w fun e w' => e = .returned (.string r) ∧ Below w.heap.size w w' := by
 have HB := Aside0.mk (Below.refl w.heap.size w)
 have H : ((spec_l01Var.f k (a0.size : Int)).bind fun t543 => (if t543.size + a0.size ≤ 9223372036854775807 then (some (t543 ++ a0)) else (none))) = some r := h
 clear h; replace H := Option.bind_eq_some_iff.mp H; obtain ⟨t543, A20, H⟩ := H
 replace H : (if t543.size + a0.size ≤ 9223372036854775807 then (some (t543 ++ a0)) else (none)) = some r := H
 have A2 := Aside0.mk A20; clear A20
 by_cases c3 : t543.size + a0.size ≤ 9223372036854775807
 ·rw [if_pos c3] at H; have c3b0 := eq_true c3
  have c3b1 : decide (t543.size + a0.size ≤ 9223372036854775807) = true := decide_eq_true c3
  try have c3b2 : (9223372036854775807 < t543.size + a0.size) = False := eq_false (Nat.not_lt.2 c3)
  try (have c3b3 := c3b2; simp only [ByteArray.size_append] at c3b3)
  obtain rfl := Option.some.inj H
  go_enter Try.func50, Try.ntmps50
  go_wp2_with (first | ((with_reducible refine gate_callee (f := 49) rfl ?_); refine goesL_ (some 5) rfl rfl Try.func49 (by kernel_rfl) rfl #[.int .i64 (a0.size : Int)] rfl mp_q ?_; (with_reducible refine (spec_l01Var.calls k (a0.size : Int) t543 _ A2.out).mono ?_); rintro e w4 ⟨rfl, hb⟩; refine ⟨_, rfl, ?_⟩; replace HB := Aside0.mk (below_step (bw_q HB) hb); (try clear hb); (try clear hb2); (try clear hk); (try clear hi)))
  go_ret
  exact ⟨er_q, bw_q HB⟩
 ·rw [if_neg c3] at H
  exact absurd H (by simp)

end Go.Proofs.Ytnecbkognpponaa.Q

/- A Go function as a Lean function, and its contract: for every input the Go code comes to what the Lean function tells. -/

namespace Go.Proofs.Ytnecbkognpponaa.Q
open Go.RowKit Go.Proofs.YtnecbkognpponaaW.PrintWords Go.Proofs.YtnecbkognpponaaW.PrintLast Go.Proofs.YtnecbkognpponaaW.PrintMore
attribute [local go_sem] max2_int min2_int max_two min_two max_three min_three max_four min_four   -- for this text's walks alone
set_option linter.unusedVariables false
set_option linter.unusedSimpArgs false

/-! ### spec_l02Four: function 86 -/
def spec_l02Four.f (a0 : Int) : Option (ByteArray) := some (strOfNums (([(a0 / 16777216) % 256, (a0 / 65536) % 256, (a0 / 256) % 256, (a0) % 256] : List Int)))
set_option maxHeartbeats 8000000 in
set_option maxRecDepth 100000 in
theorem spec_l02Four.calls (a0 : Int) (r : ByteArray) (w : World) (h : spec_l02Four.f a0 = some r) :
  Calls Try.prog 86 #[.int .u32 a0] w fun e w' => e = .returned (.string r) ∧ Below w.heap.size w w' := by
 have HB := Aside0.mk (Below.refl w.heap.size w)
 have H : (some (strOfNums (([(a0 / 16777216) % 256, (a0 / 65536) % 256, (a0 / 256) % 256, (a0) % 256] : List Int)))) = some r := h
 clear h; obtain ⟨y544, hy544⟩ : ∃ y_ : List Int, y_ = (([(a0 / 16777216) % 256, (a0 / 65536) % 256, (a0 / 256) % 256, (a0) % 256] : List Int)) := ⟨_, rfl⟩
 replace H : (some (strOfNums y544)) = some r := by first | (rw [hy544]; with_reducible exact H) | (have H2_ := (Option.bind_some _ _).symm.trans H; rw [hy544]; with_reducible exact H2_) | (have H2_ := (Option.bind_some _ _).symm.trans H; with_reducible exact H2_) | with_reducible exact H | (rw [hy544]; exact H) | exact H
 have Ny544 := Aside0.mk hy544; clear hy544; obtain rfl := Option.some.inj H
 go_enter Try.func86, Try.ntmps86
 go_wp2_with (first | ((with_reducible refine gate_dst (N := 14) rfl ?_); refine Kd.R_lit (Kd.int .u8) _ 5 ?hg (N := 14) ?hd (xs := ([(a0 / 16777216) % 256, (a0 / 65536) % 256, (a0 / 256) % 256, (a0) % 256] : List Int)) (inner := [.int .u8 ((a0 / 16777216) % 256), .int .u8 ((a0 / 65536) % 256), .int .u8 ((a0 / 256) % 256), .int .u8 ((a0) % 256)]) (ok := fun _ => True) (okp := fun _ => True) ?hr ?hp (fun _ hk => hk) trivial (Below.refl _ _) (Nat.le_refl _) (by simp) ?_; (case hd => rfl); (case hg => rfl); (case hr => first | (go_simp; done) | (go_simp; rfl)); (case hp => exact (Reps.one (show Kd.M (Kd.int .u8) _ _ _ ((a0 / 16777216) % 256) [.int .u8 ((a0 / 16777216) % 256)] from rfl) (Reps.one (show Kd.M (Kd.int .u8) _ _ _ ((a0 / 65536) % 256) [.int .u8 ((a0 / 65536) % 256)] from rfl) (Reps.one (show Kd.M (Kd.int .u8) _ _ _ ((a0 / 256) % 256) [.int .u8 ((a0 / 256) % 256)] from rfl) (Reps.one (show Kd.M (Kd.int .u8) _ _ _ ((a0) % 256) [.int .u8 ((a0) % 256)] from rfl) (Reps.none _ _)))))); intro v545 w2 ho3 hb hg_ hnew_; clear hg_ hnew_; (first | rw [← Ny544.out] at ho3 | (simp only [Int.reduceToNat] at ho3; rw [← Ny544.out] at ho3)); have HO546 := Aside0.mk (Kd.R_lower ho3 (below_size (bw_q HB))); replace HB := Aside0.mk (below_step (bw_q HB) hb); clear hb ho3; have hcv4 := own_string (P := Try.prog) Try.underlying46 Try.underlying5 Try.underlying9 (Kd.own_of_R HO546.out)))
 go_ret
 exact ⟨er_q, bw_q HB⟩

end Go.Proofs.Ytnecbkognpponaa.Q

/- A Go function as a Lean function, and its contract: for every input the Go code comes to what the Lean function tells. -/

namespace Go.Proofs.Ytnecbkognpponaa.Q
open Go.RowKit Go.Proofs.YtnecbkognpponaaW.PrintWords Go.Proofs.YtnecbkognpponaaW.PrintLast Go.Proofs.YtnecbkognpponaaW.PrintMore
attribute [local go_sem] max2_int min2_int max_two min_two max_three min_three max_four min_four   -- for this text's walks alone
set_option linter.unusedVariables false
set_option linter.unusedSimpArgs false

/-! ### spec_SumMore: function 98 -/
mutual
def spec_SumMore.l0 : Nat → Int → ByteArray → Int → Option (Int)
 | 0, _, _, _ => none
 | k + 1, x0, x1, x5 => if x5 < (x1.size : Int) then (if 0 ≤ x5 then (spec_SumMore.l1 k (Go.bits .xor .u32 x0 ((bt x1 x5) % 4294967296)) x1 x5 0) else (none)) else (some x0)
def spec_SumMore.l1 : Nat → Int → ByteArray → Int → Int → Option (Int)
 | 0, _, _, _, _ => none
 | k + 1, x0, x1, x5, x6 => if x6 < 8 then (if (Int.tmod x0 2) = 1 then (spec_SumMore.l1 k (Go.bits .xor .u32 ((Int.tdiv x0 2) % 4294967296) 3558460437) x1 x5 (wrap64 (x6 + 1))) else (spec_SumMore.l1 k ((Int.tdiv x0 2) % 4294967296) x1 x5 (wrap64 (x6 + 1)))) else (spec_SumMore.l0 k x0 x1 (wrap64 (x5 + 1)))
end
def spec_SumMore.f (k : Nat) (a0 : Int) (a1 : ByteArray) : Option (Int) := spec_SumMore.l0 k a0 a1 0
theorem spec_SumMore.mono_l : ∀ k, (∀ y0 y1 y2, LeO (spec_SumMore.l0 k y0 y1 y2) (spec_SumMore.l0 (k + 1) y0 y1 y2)) ∧ (∀ y0 y1 y2 y3, LeO (spec_SumMore.l1 k y0 y1 y2 y3) (spec_SumMore.l1 (k + 1) y0 y1 y2 y3))
 | 0 => ⟨fun _ _ _ r h => by simp [spec_SumMore.l0] at h, fun _ _ _ _ r h => by simp [spec_SumMore.l1] at h⟩
 | k + 1 => by
  obtain ⟨ih0, ih1⟩ := spec_SumMore.mono_l k
  refine ⟨?_, ?_⟩
  ·intro y0 y1 y2
   unfold spec_SumMore.l0
   repeat' first
   | (with_reducible exact ih0 _ _ _)
   | (with_reducible exact ih1 _ _ _ _)
   | (with_reducible exact LeO.refl _)
   | (with_reducible exact LeO.none _)
   | (with_reducible refine LeO.ite ?_ ?_)
   | (with_reducible refine LeO.bind ?_ (fun _ => ?_))
   | exact ih0 _ _ _
   | exact ih1 _ _ _ _
   | exact LeO.none _
   | refine LeO.ite ?_ ?_
   | refine LeO.bind ?_ (fun _ => ?_)
  ·intro y0 y1 y2 y3
   unfold spec_SumMore.l1
   repeat' first
   | (with_reducible exact ih0 _ _ _)
   | (with_reducible exact ih1 _ _ _ _)
   | (with_reducible exact LeO.refl _)
   | (with_reducible exact LeO.none _)
   | (with_reducible refine LeO.ite ?_ ?_)
   | (with_reducible refine LeO.bind ?_ (fun _ => ?_))
   | exact ih0 _ _ _
   | exact ih1 _ _ _ _
   | exact LeO.none _
   | refine LeO.ite ?_ ?_
   | refine LeO.bind ?_ (fun _ => ?_)
theorem spec_SumMore.mono : ∀ a0 a1 k, LeO (spec_SumMore.f k a0 a1) (spec_SumMore.f (k + 1) a0 a1) := by
 intro a0 a1 k
 obtain ⟨ih0, ih1⟩ := spec_SumMore.mono_l k
 unfold spec_SumMore.f
 repeat' first
   | (with_reducible exact ih0 _ _ _)
   | (with_reducible exact ih1 _ _ _ _)
   | (with_reducible exact LeO.refl _)
   | (with_reducible exact LeO.none _)
   | (with_reducible refine LeO.ite ?_ ?_)
   | (with_reducible refine LeO.bind ?_ (fun _ => ?_))
   | exact ih0 _ _ _
   | exact ih1 _ _ _ _
   | exact LeO.none _
   | refine LeO.ite ?_ ?_
   | refine LeO.bind ?_ (fun _ => ?_)
set_option maxHeartbeats 8000000 in
set_option maxRecDepth 100000 in
theorem spec_SumMore.calls (k : Nat) (a0 : Int) (a1 : ByteArray) (r : Int) (w : World) (h : spec_SumMore.f k a0 a1 = some r) :
  Calls Try.prog 98 #[.int .u32 a0, .string a1] w fun e w' => e = .returned (.int .u32 r) ∧ Drawn0 w w' := by
 have H : (spec_SumMore.l0 k a0 a1 0) = some r := h
 clear h; have H' := Aside0.mk H; clear H
 go_enter Try.func98, Try.ntmps98
 go_wp2
 go_loopg [0, 5] k (fun kq v0 v5 w' => ∃ (x0_1 : Int) (x5_1 : Int), v0 = .int .u32 x0_1 ∧ v5 = .int .i64 x5_1 ∧ Aside0 (spec_SumMore.l0 kq x0_1 a1 x5_1 = some r) ∧ Aside0 (kq ≤ k) ∧ Drawn0 w w')
 case atStart => exact ⟨(a0), (0), (by first | rfl | (simp; done) | (simp [*]; done)), (by first | rfl | (simp; done) | (simp [*]; done)), H', ⟨Nat.le_refl _⟩, by repeat (first | exact Drawn0.refl _ | apply Drawn0.step)⟩
 case round =>
  clear H'; (try clear p2); obtain ⟨x0_1, x5_1, rfl, rfl, HA, HK1, ⟨m1, rfl⟩⟩ := hrel
  cases gk with
  | zero => exact absurd HA.out (by simp [spec_SumMore.l0])
  | succ k1 =>
   have H := HA.out; clear HA
   simp only [spec_SumMore.l0] at H
   by_cases c3 : x5_1 < (a1.size : Int)
   ·rw [if_pos c3] at H
    have c3b0 : decide (x5_1 < (a1.size : Int)) = true := decide_eq_true c3
    clear c3
    by_cases c4 : 0 ≤ x5_1
    ·rw [if_pos c4] at H
     have c4b0 : decide (0 ≤ x5_1) = true := decide_eq_true c4
     clear c4; have H' := Aside0.mk H; clear H
     have p5 : 0 ≤ (x5_1 : Int) := of_decide_eq_true as_q
     have q5 : x5_1 < (a1.size : Int) := of_decide_eq_true as_q
     have hx5 := bt_at a1 x5_1; replace p5 := eq_true p5; replace q5 := eq_true q5
     go_wp2
     go_loopg [0, 6] k1 (fun kq v0 v6 w' => ∃ (x0_2 : Int) (x6_2 : Int), v0 = .int .u32 x0_2 ∧ v6 = .int .i64 x6_2 ∧ Aside0 (spec_SumMore.l1 kq x0_2 a1 x5_1 x6_2 = some r) ∧ Aside0 (kq ≤ k1) ∧ Drawn0 w w')
     case atStart => exact ⟨(Go.bits .xor .u32 x0_1 ((bt a1 x5_1) % 4294967296)), (0), (by first | rfl | (simp; done) | (simp [*]; done)), (by first | rfl | (simp; done) | (simp [*]; done)), H', ⟨Nat.le_refl _⟩, by repeat (first | exact Drawn0.refl _ | apply Drawn0.step)⟩
     case round =>
      clear H'; (try clear p2); (try clear c3); (try clear c3b0); (try clear c4); (try clear c4b0); (try clear p5); (try clear q5); (try clear hx5); (try clear p2); (try clear p5); (try clear q5); obtain ⟨x0_2, x6_2, rfl, rfl, HA, HK2, ⟨m2, rfl⟩⟩ := hrel
      cases gk with
      | zero => exact absurd HA.out (by simp [spec_SumMore.l1])
      | succ k2 =>
       have H := HA.out; clear HA
       simp only [spec_SumMore.l1] at H
       by_cases c6 : x6_2 < 8
       ·rw [if_pos c6] at H
        have c6b0 : decide (x6_2 < 8) = true := decide_eq_true c6
        clear c6
        by_cases c7 : (Int.tmod x0_2 2) = 1
        ·rw [if_pos c7] at H
         have c7b0 : ((Int.tmod x0_2 2) == 1) = true := beq_iff_eq.mpr c7
         have c7b1 : ((Int.tmod x0_2 2) != 1) = false := bne_eq_false_iff_eq.mpr c7
         clear c7; have H' := Aside0.mk H; clear H
         go_wp2
         go_roundg k2
         case measure => have := HK1.out; have := HK2.out; omega
         case rel => exact ⟨(Go.bits .xor .u32 ((Int.tdiv x0_2 2) % 4294967296) 3558460437), (wrap64 (x6_2 + 1)), (by first | rfl | (simp; done) | (simp [*]; done)), (by first | rfl | (simp; done) | (simp [*]; done)), H', ⟨by have := HK1.out; have := HK2.out; omega⟩, by repeat (first | exact Drawn0.refl _ | apply Drawn0.step)⟩
        ·rw [if_neg c7] at H
         have c7b0 : ((Int.tmod x0_2 2) == 1) = false := beq_eq_false_iff_ne.mpr c7
         have c7b1 : ((Int.tmod x0_2 2) != 1) = true := bne_iff_ne.mpr c7
         have H' := Aside0.mk H; clear H
         go_wp2
         go_roundg k2
         case measure => have := HK1.out; have := HK2.out; omega
         case rel => exact ⟨((Int.tdiv x0_2 2) % 4294967296), (wrap64 (x6_2 + 1)), (by first | rfl | (simp; done) | (simp [*]; done)), (by first | rfl | (simp; done) | (simp [*]; done)), H', ⟨by have := HK1.out; have := HK2.out; omega⟩, by repeat (first | exact Drawn0.refl _ | apply Drawn0.step)⟩
       ·rw [if_neg c6] at H
        have c6b0 : decide (x6_2 < 8) = false := decide_eq_false c6
        clear c6; have H' := Aside0.mk H; clear H
        go_wp2
        go_roundg k2
        case measure => have := HK1.out; have := HK2.out; omega
        case rel => exact ⟨(x0_2), (wrap64 (x5_1 + 1)), (by first | rfl | (simp; done) | (simp [*]; done)), (by first | rfl | (simp; done) | (simp [*]; done)), H', ⟨by have := HK1.out; have := HK2.out; omega⟩, by repeat (first | exact Drawn0.refl _ | apply Drawn0.step)⟩
    ·rw [if_neg c4] at H
     exact absurd H (by simp)
   ·rw [if_neg c3] at H
    have c3b0 : decide (x5_1 < (a1.size : Int)) = false := decide_eq_false c3
    clear c3; obtain rfl := Option.some.inj H
    go_wp2
    go_ret
    exact ⟨by first | rfl | (simp; done) | (simp [*]; done), by repeat (first | exact Drawn0.refl _ | apply Drawn0.step)⟩

end Go.Proofs.Ytnecbkognpponaa.Q

/- A Go function as a Lean function, and its contract: for every input the Go code comes to what the Lean function tells. -/


namespace Go.Proofs.Ytnecbkognpponaa.Q
open Go.RowKit Go.Proofs.YtnecbkognpponaaW.PrintWords Go.Proofs.YtnecbkognpponaaW.PrintLast Go.Proofs.YtnecbkognpponaaW.PrintMore
attribute [local go_sem] max2_int min2_int max_two min_two max_three min_three max_four min_four   -- for this text's walks alone
set_option linter.unusedVariables false
set_option linter.unusedSimpArgs false

/-! ### spec_SumOf: function 87 -/
def spec_SumOf.f (k : Nat) (a0 : ByteArray) : Option (Int) := (spec_SumMore.f k 4294967295 a0).bind fun t547 => (some t547)
theorem spec_SumOf.mono : ∀ a0 k, LeO (spec_SumOf.f k a0) (spec_SumOf.f (k + 1) a0) := by
 intro a0 k
 unfold spec_SumOf.f
 repeat' first
   | (with_reducible exact spec_SumMore.mono _ _ _)
   | (with_reducible exact LeO.refl _)
   | (with_reducible exact LeO.none _)
   | (with_reducible refine LeO.ite ?_ ?_)
   | (with_reducible refine LeO.bind ?_ (fun _ => ?_))
   | exact spec_SumMore.mono _ _ _
   | exact LeO.none _
   | refine LeO.ite ?_ ?_
   | refine LeO.bind ?_ (fun _ => ?_)
set_option maxHeartbeats 8000000 in
set_option maxRecDepth 100000 in
theorem spec_SumOf.calls (k : Nat) (a0 : ByteArray) (r : Int) (w : World) (h : spec_SumOf.f k a0 = some r) :
  Calls Try.prog 87 #[.string a0] w fun e w' => e = .returned (.int .u32 r) ∧ Drawn0 w w' := by
 have H : ((spec_SumMore.f k 4294967295 a0).bind fun t547 => (some t547)) = some r := h
 clear h; replace H := Option.bind_eq_some_iff.mp H; obtain ⟨t547, A20, H⟩ := H
 replace H : (some t547) = some r := H
 have A2 := Aside0.mk A20; clear A20; obtain rfl := Option.some.inj H
 go_enter Try.func87, Try.ntmps87
 go_wp2_with (first | ((with_reducible refine gate_callee (f := 98) rfl ?_); refine goesL_ (some 4) rfl rfl Try.func98 (by kernel_rfl) rfl #[.int .u32 4294967295, .string a0] rfl mp_q ?_; (with_reducible refine (spec_SumMore.calls k 4294967295 a0 t547 _ A2.out).mono ?_); rintro e w' ⟨rfl, ⟨nd, rfl⟩⟩; refine ⟨_, rfl, ?_⟩))
 go_ret
 exact ⟨by first | rfl | (simp; done) | (simp [*]; done), by repeat (first | exact Drawn0.refl _ | apply Drawn0.step)⟩

end Go.Proofs.Ytnecbkognpponaa.Q

/- A Go function as a Lean function, and its contract: for every input the Go code comes to what the Lean function tells. -/



namespace Go.Proofs.Ytnecbkognpponaa.Q
open Go.RowKit Go.Proofs.YtnecbkognpponaaW.PrintWords Go.Proofs.YtnecbkognpponaaW.PrintLast Go.Proofs.YtnecbkognpponaaW.PrintMore
attribute [local go_sem] max2_int min2_int max_two min_two max_three min_three max_four min_four   -- for this text's walks alone
set_option linter.unusedVariables false
set_option linter.unusedSimpArgs false

/-! ### spec_Sealed: function 51 -/
def spec_Sealed.f (k : Nat) (a0 : ByteArray) : Option (ByteArray × Bool) := if (a0.size : Int) > 20000 then (some ((⟨#[]⟩ : ByteArray), false)) else ((spec_SumOf.f k a0).bind fun t548 => ((spec_l02Four.f t548).bind fun t549 => (if a0.size + t549.size ≤ 9223372036854775807 then (some (a0 ++ t549, true)) else (none))))
theorem spec_Sealed.mono : ∀ a0 k, LeO (spec_Sealed.f k a0) (spec_Sealed.f (k + 1) a0) := by
 intro a0 k
 unfold spec_Sealed.f
 repeat' first
   | (with_reducible exact spec_SumOf.mono _ _)
   | (with_reducible exact LeO.refl _)
   | (with_reducible exact LeO.none _)
   | (with_reducible refine LeO.ite ?_ ?_)
   | (with_reducible refine LeO.bind ?_ (fun _ => ?_))
   | exact spec_SumOf.mono _ _
   | exact LeO.none _
   | refine LeO.ite ?_ ?_
   | refine LeO.bind ?_ (fun _ => ?_)
set_option maxHeartbeats 8000000 in
set_option maxRecDepth 100000 in
theorem spec_Sealed.calls (k : Nat) (a0 : ByteArray) (r1 : ByteArray) (r2 : Bool) (w : World) (h : spec_Sealed.f k a0 = some (r1, r2)) :
  Calls Try.prog 51 #[.string a0] w fun e w' => e = .returned (.tuple #[.string r1, .bool r2]) ∧ Below w.heap.size w w' := by
 have HB := Aside0.mk (Below.refl w.heap.size w)
 have H : (if (a0.size : Int) > 20000 then (some ((⟨#[]⟩ : ByteArray), false)) else ((spec_SumOf.f k a0).bind fun t548 => ((spec_l02Four.f t548).bind fun t549 => (if a0.size + t549.size ≤ 9223372036854775807 then (some (a0 ++ t549, true)) else (none))))) = some (r1, r2) := h
 clear h
 by_cases c2 : (a0.size : Int) > 20000
 ·rw [if_pos c2] at H
  have c2b0 : decide (20000 < (a0.size : Int)) = true := decide_eq_true c2
  have c2b1 : decide (20000 < a0.size) = true := decide_eq_true (by omega)
  clear c2
  simp only [Option.some.injEq, Prod.mk.injEq] at H
  obtain ⟨rfl, rfl⟩ := H
  go_enter Try.func51, Try.ntmps51
  go_wp2
  go_ret2
  exact ⟨er_q, bw_q HB⟩
 ·rw [if_neg c2] at H
  have c2b0 : decide (20000 < (a0.size : Int)) = false := decide_eq_false c2
  have c2b1 : decide (20000 < a0.size) = false := decide_eq_false (by omega)
  clear c2; replace H := Option.bind_eq_some_iff.mp H; obtain ⟨t548, A30, H⟩ := H
  replace H : ((spec_l02Four.f t548).bind fun t549 => (if a0.size + t549.size ≤ 9223372036854775807 then (some (a0 ++ t549, true)) else (none))) = some (r1, r2) := H
  have A3 := Aside0.mk A30; clear A30; replace H := Option.bind_eq_some_iff.mp H; obtain ⟨t549, A40, H⟩ := H
  replace H : (if a0.size + t549.size ≤ 9223372036854775807 then (some (a0 ++ t549, true)) else (none)) = some (r1, r2) := H
  have A4 := Aside0.mk A40; clear A40
  by_cases c5 : a0.size + t549.size ≤ 9223372036854775807
  ·rw [if_pos c5] at H; have c5b0 := eq_true c5
   have c5b1 : decide (a0.size + t549.size ≤ 9223372036854775807) = true := decide_eq_true c5
   try have c5b2 : (9223372036854775807 < a0.size + t549.size) = False := eq_false (Nat.not_lt.2 c5)
   try (have c5b3 := c5b2; simp only [ByteArray.size_append] at c5b3)
   simp only [Option.some.injEq, Prod.mk.injEq] at H
   obtain ⟨rfl, rfl⟩ := H
   go_enter Try.func51, Try.ntmps51
   go_wp2_with (first | ((with_reducible refine gate_callee (f := 87) rfl ?_); refine goesL_ (some 9) rfl rfl Try.func87 (by kernel_rfl) rfl #[.string a0] rfl mp_q ?_; (with_reducible refine (spec_SumOf.calls k a0 t548 _ A3.out).mono ?_); rintro e w' ⟨rfl, ⟨nd, rfl⟩⟩; refine ⟨_, rfl, ?_⟩) | ((with_reducible refine gate_callee (f := 86) rfl ?_); refine goesL_ (some 10) rfl rfl Try.func86 (by kernel_rfl) rfl #[.int .u32 t548] rfl mp_q ?_; (with_reducible refine (spec_l02Four.calls t548 t549 _ A4.out).mono ?_); rintro e w6 ⟨rfl, hb⟩; refine ⟨_, rfl, ?_⟩; replace HB := Aside0.mk (below_step (bw_q HB) hb); (try clear hb); (try clear hb2); (try clear hk); (try clear hi)))
   go_ret2
   exact ⟨er_q, bw_q HB⟩
  ·rw [if_neg c5] at H
   exact absurd H (by simp)

end Go.Proofs.Ytnecbkognpponaa.Q
