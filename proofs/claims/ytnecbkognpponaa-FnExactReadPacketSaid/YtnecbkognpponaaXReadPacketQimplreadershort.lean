import Derived.Test.YtnecbkognpponaaXReadPacketQx45
import Derived.Test.YtnecbkognpponaaXReadPacketQimplreadernum
/- The contract of a Go function. -/

namespace Go.Proofs.Ytnecbkognpponaa.Q
open Go.RowKit Go.Proofs.YtnecbkognpponaaW.PrintWords Go.Proofs.YtnecbkognpponaaW.PrintLast Go.Proofs.YtnecbkognpponaaW.PrintMore
attribute [local go_sem] max2_int min2_int max_two min_two max_three min_three max_four min_four   -- for this text's walks alone
set_option linter.unusedVariables false
set_option linter.unusedSimpArgs false

/-! ### impl_SumMore: function 36 -/
mutual
def impl_SumMore.l0 : Nat → Int → ByteArray → Int → Int → Option (Int)
 | 0, _, _, _, _ => none
 | k + 1, c, b, d, a => if a < d then (if 0 ≤ a then (if a < (b.size : Int) then (impl_SumMore.l1 k (Go.bits .xor .u32 c ((bt b a) % 4294967296)) b d a 0) else (none)) else (none)) else (some c)
def impl_SumMore.l1 : Nat → Int → ByteArray → Int → Int → Int → Option (Int)
 | 0, _, _, _, _, _ => none
 | k + 1, b, c, d, e, a => if a < 8 then (if (Go.bits .and .u32 b 1) = 1 then (impl_SumMore.l1 k (Go.bits .xor .u32 (b / 2) 3558460437) c d e (wrap64 (a + 1))) else (impl_SumMore.l1 k (b / 2) c d e (wrap64 (a + 1)))) else (impl_SumMore.l0 k b c d (wrap64 (e + 1)))
end
def impl_SumMore.f (k : Nat) (a0 : Int) (a1 : ByteArray) : Option (Int) := impl_SumMore.l0 k a0 a1 (a1.size : Int) 0
theorem impl_SumMore.mono_l : ∀ k, (∀ y0 y1 y2 y3, LeO (impl_SumMore.l0 k y0 y1 y2 y3) (impl_SumMore.l0 (k + 1) y0 y1 y2 y3)) ∧ (∀ y0 y1 y2 y3 y4, LeO (impl_SumMore.l1 k y0 y1 y2 y3 y4) (impl_SumMore.l1 (k + 1) y0 y1 y2 y3 y4))
 | 0 => ⟨fun _ _ _ _ r h => by simp [impl_SumMore.l0] at h, fun _ _ _ _ _ r h => by simp [impl_SumMore.l1] at h⟩
 | k + 1 => by
  obtain ⟨ih0, ih1⟩ := impl_SumMore.mono_l k
  refine ⟨?_, ?_⟩
  ·intro y0 y1 y2 y3
   unfold impl_SumMore.l0
   with_reducible repeat' (first | apply ih0 | apply ih1 | exact LeO.refl _ | exact LeO.none _ | refine LeO.ite ?_ ?_ | refine LeO.bind ?_ (fun _ => ?_))
  ·intro y0 y1 y2 y3 y4
   unfold impl_SumMore.l1
   with_reducible repeat' (first | apply ih0 | apply ih1 | exact LeO.refl _ | exact LeO.none _ | refine LeO.ite ?_ ?_ | refine LeO.bind ?_ (fun _ => ?_))
theorem impl_SumMore.mono : ∀ a0 a1 k, LeO (impl_SumMore.f k a0 a1) (impl_SumMore.f (k + 1) a0 a1) := by
 intro a0 a1 k
 obtain ⟨ih0, ih1⟩ := impl_SumMore.mono_l k
 unfold impl_SumMore.f
 with_reducible repeat' (first | apply ih0 | apply ih1 | exact LeO.refl _ | exact LeO.none _ | refine LeO.ite ?_ ?_ | refine LeO.bind ?_ (fun _ => ?_))
set_option maxHeartbeats 8000000 in
set_option maxRecDepth 100000 in
theorem impl_SumMore.calls (k : Nat) (a0 : Int) (a1 : ByteArray) (r : Int) (w : World) (h : impl_SumMore.f k a0 a1 = some r) :
  Calls Try.prog 36 #[.int .u32 a0, .string a1] w fun e w' => e = .returned (.int .u32 r) ∧ Drawn0 w w' := by
 have H := h
 clear h; unfold impl_SumMore.f at H; have H' := ak H; clear H
 go_enter Try.func36, Try.ntmps36
 go_wp2
 go_loopg [0, 9] k (fun kq v0 v9 w' => ∃ (Af : Int) (Aa : Int), v0 = .int .u32 Af ∧ v9 = .int .i64 Aa ∧ Aside0 (impl_SumMore.l0 kq Af a1 (a1.size : Int) Aa = some r) ∧ Aside0 (kq ≤ k) ∧ Drawn0 w w')
 case atStart => exact ⟨(a0), (0), rs_q, rs_q, H', ⟨Nat.le_refl _⟩, by repeat (first | exact Drawn0.refl _ | apply Drawn0.step)⟩
 case round =>
  clear H'; (try clear p2); obtain ⟨Af, Aa, rfl, rfl, HA, Ad, ⟨m1, rfl⟩⟩ := hrel
  cases gk with
  | zero => exact absurd HA.out (by simp [impl_SumMore.l0])
  | succ k1 =>
   have H := HA.out; clear HA
   simp only [impl_SumMore.l0] at H
   by_cases c3 : Aa < (a1.size : Int)
   ·rw [if_pos c3] at H
    have Ag : decide (Aa < (a1.size : Int)) = true := decide_eq_true c3
    clear c3
    by_cases c4 : 0 ≤ Aa
    ·rw [if_pos c4] at H
     have Ah : decide (0 ≤ Aa) = true := decide_eq_true c4
     clear c4
     by_cases c5 : Aa < (a1.size : Int)
     ·rw [if_pos c5] at H
      have Ai : decide (Aa < (a1.size : Int)) = true := decide_eq_true c5
      clear c5; have H' := ak H; clear H
      have p6 : 0 ≤ (Aa : Int) := of_decide_eq_true as_q
      have q6 : Aa < (a1.size : Int) := of_decide_eq_true as_q
      have hx6 := bt_at a1 Aa; replace p6 := eq_true p6; replace q6 := eq_true q6
      go_wp2
      go_loopg [0, 18] k1 (fun kq v0 v18 w' => ∃ (Ab : Int) (Ac : Int), v0 = .int .u32 Ab ∧ v18 = .int .i64 Ac ∧ Aside0 (impl_SumMore.l1 kq Ab a1 (a1.size : Int) Aa Ac = some r) ∧ Aside0 (kq ≤ k1) ∧ Drawn0 w w')
      case atStart => exact ⟨(Go.bits .xor .u32 Af ((bt a1 Aa) % 4294967296)), (0), rs_q, rs_q, H', ⟨Nat.le_refl _⟩, by repeat (first | exact Drawn0.refl _ | apply Drawn0.step)⟩
      case round =>
       clear H'; (try clear p2); (try clear c3); (try clear Ag); (try clear c4); (try clear Ah); (try clear c5); (try clear Ai); (try clear p6); (try clear q6); (try clear hx6); (try clear p2); (try clear p6); (try clear q6); obtain ⟨Ab, Ac, rfl, rfl, HA, Ae, ⟨m2, rfl⟩⟩ := hrel
       cases gk with
       | zero => exact absurd HA.out (by simp [impl_SumMore.l1])
       | succ k2 =>
        have H := HA.out; clear HA
        simp only [impl_SumMore.l1] at H
        by_cases c7 : Ac < 8
        ·rw [if_pos c7] at H
         have Aj : decide (Ac < 8) = true := decide_eq_true c7
         clear c7
         by_cases c8 : (Go.bits .and .u32 Ab 1) = 1
         ·rw [if_pos c8] at H
          have Ak : ((Go.bits .and .u32 Ab 1) == 1) = true := bqi c8
          have Al : ((Go.bits .and .u32 Ab 1) != 1) = false := bnf c8
          clear c8; have H' := ak H; clear H
          go_wp2
          go_roundg k2
          case measure => have := Ad.out; have := Ae.out; omega
          case rel => exact ⟨(Go.bits .xor .u32 (Ab / 2) 3558460437), (wrap64 (Ac + 1)), rs_q, rs_q, H', ⟨by have := Ad.out; have := Ae.out; omega⟩, by repeat (first | exact Drawn0.refl _ | apply Drawn0.step)⟩
         ·rw [if_neg c8] at H
          have Ak : ((Go.bits .and .u32 Ab 1) == 1) = false := bqf c8
          have Al : ((Go.bits .and .u32 Ab 1) != 1) = true := bni c8
          have H' := ak H; clear H
          go_wp2
          go_roundg k2
          case measure => have := Ad.out; have := Ae.out; omega
          case rel => exact ⟨(Ab / 2), (wrap64 (Ac + 1)), rs_q, rs_q, H', ⟨by have := Ad.out; have := Ae.out; omega⟩, by repeat (first | exact Drawn0.refl _ | apply Drawn0.step)⟩
        ·rw [if_neg c7] at H
         have Aj : decide (Ac < 8) = false := decide_eq_false c7
         clear c7; have H' := ak H; clear H
         go_wp2
         go_roundg k2
         case measure => have := Ad.out; have := Ae.out; omega
         case rel => exact ⟨(Ab), (wrap64 (Aa + 1)), rs_q, rs_q, H', ⟨by have := Ad.out; have := Ae.out; omega⟩, by repeat (first | exact Drawn0.refl _ | apply Drawn0.step)⟩
     ·rw [if_neg c5] at H
      exact absurd H (by simp)
    ·rw [if_neg c4] at H
     exact absurd H (by simp)
   ·rw [if_neg c3] at H
    have Ag : decide (Aa < (a1.size : Int)) = false := decide_eq_false c3
    clear c3; obtain rfl := Option.some.inj H
    go_wp2
    go_ret
    exact ⟨rs_q, dr_q⟩

/-! ### impl_SumOf: function 37 -/
def impl_SumOf.f (k : Nat) (a0 : ByteArray) : Option (Int) := (impl_SumMore.f k 4294967295 a0).bind fun a => (some a)
theorem impl_SumOf.mono : ∀ a0 k, LeO (impl_SumOf.f k a0) (impl_SumOf.f (k + 1) a0) := by
 intro a0 k
 unfold impl_SumOf.f
 with_reducible repeat' (first | apply impl_SumMore.mono | exact LeO.refl _ | exact LeO.none _ | refine LeO.ite ?_ ?_ | refine LeO.bind ?_ (fun _ => ?_))
set_option maxHeartbeats 8000000 in
set_option maxRecDepth 100000 in
theorem impl_SumOf.calls (k : Nat) (a0 : ByteArray) (r : Int) (w : World) (h : impl_SumOf.f k a0 = some r) :
  Calls Try.prog 37 #[.string a0] w fun e w' => e = .returned (.int .u32 r) ∧ Drawn0 w w' := by
 have H := h
 clear h; unfold impl_SumOf.f at H; replace H := bsi H; obtain ⟨Aa, A20, H⟩ := H
 (try dsimp only at H)
 have A2 := ak A20; clear A20; obtain rfl := Option.some.inj H
 go_enter Try.func37, Try.ntmps37
 go_wp2_with (first | ((with_reducible refine gate_callee (f := 36) rfl ?_); refine goesL_ (some 4) rfl rfl Try.func36 (by kernel_rfl) rfl #[.int .u32 4294967295, .string a0] rfl mp_q ?_; (with_reducible refine (impl_SumMore.calls k 4294967295 a0 Aa _ A2.out).mono ?_); rintro e w' ⟨rfl, ⟨nd, rfl⟩⟩; refine ⟨_, rfl, ?_⟩))
 go_ret
 exact ⟨rs_q, dr_q⟩

/-! ### impl_Sealed: function 34 -/
def impl_Sealed.f (k : Nat) (a0 : ByteArray) : Option (ByteArray × Bool) := if (a0.size : Int) > 20000 then (some ((⟨#[]⟩ : ByteArray), false)) else ((impl_SumOf.f k a0).bind fun a => ((some (([(a / 16777216) % 256, (a / 65536) % 256, (a / 256) % 256, (a) % 256] : List Int) : List Int)).bind fun b => (if a0.size + (strOfNums b).size ≤ 9223372036854775807 then (some (a0 ++ (strOfNums b), true)) else (none))))
theorem impl_Sealed.mono : ∀ a0 k, LeO (impl_Sealed.f k a0) (impl_Sealed.f (k + 1) a0) := by
 intro a0 k
 unfold impl_Sealed.f
 with_reducible repeat' (first | apply impl_SumOf.mono | exact LeO.refl _ | exact LeO.none _ | refine LeO.ite ?_ ?_ | refine LeO.bind ?_ (fun _ => ?_))
set_option maxHeartbeats 8000000 in
set_option maxRecDepth 100000 in
theorem impl_Sealed.calls (k : Nat) (a0 : ByteArray) (r1 : ByteArray) (r2 : Bool) (w : World) (h : impl_Sealed.f k a0 = some (r1, r2)) :
  Calls Try.prog 34 #[.string a0] w fun e w' => e = .returned (.tuple #[.string r1, .bool r2]) ∧ Below w.heap.size w w' := by
 have HB := ak (Below.refl w.heap.size w); have H := h
 clear h; unfold impl_Sealed.f at H
 by_cases c2 : (a0.size : Int) > 20000
 ·rw [if_pos c2] at H
  have Af : decide (20000 < (a0.size : Int)) = true := decide_eq_true c2
  have Ag : decide (20000 < a0.size) = true := decide_eq_true (by omega)
  clear c2
  simp only [Option.some.injEq, Prod.mk.injEq] at H
  obtain ⟨rfl, rfl⟩ := H
  go_enter Try.func34, Try.ntmps34
  go_wp2
  go_ret2
  exact ⟨er_q, bw_q HB⟩
 ·rw [if_neg c2] at H
  have Af : decide (20000 < (a0.size : Int)) = false := decide_eq_false c2
  have Ag : decide (20000 < a0.size) = false := decide_eq_false (by omega)
  clear c2; replace H := bsi H; obtain ⟨Aa, A30, H⟩ := H
  (try dsimp only at H)
  have A3 := ak A30; clear A30; obtain ⟨Ac, Ab⟩ : ∃ y_ : List Int, y_ = (([(Aa / 16777216) % 256, (Aa / 65536) % 256, (Aa / 256) % 256, (Aa) % 256] : List Int)) := ⟨_, rfl⟩
  replace H : (if a0.size + (strOfNums Ac).size ≤ 9223372036854775807 then (some (a0 ++ (strOfNums Ac), true)) else (none)) = some (r1, r2) := by first | (rw [Ab]; with_reducible exact H) | (have H2_ := (Option.bind_some _ _).symm.trans H; rw [Ab]; with_reducible exact H2_) | (have H2_ := (Option.bind_some _ _).symm.trans H; with_reducible exact H2_) | with_reducible exact H | (rw [Ab]; exact H) | exact H
  have Ad := ak Ab; clear Ab
  by_cases c4 : a0.size + (strOfNums Ac).size ≤ 9223372036854775807
  ·rw [if_pos c4] at H; have Aj := eq_true c4
   have Ak : decide (a0.size + (strOfNums Ac).size ≤ 9223372036854775807) = true := decide_eq_true c4
   try have Ah : (9223372036854775807 < a0.size + (strOfNums Ac).size) = False := eq_false (Nat.not_lt.2 c4)
   try (have Ai := Ah; simp only [ByteArray.size_append] at Ai)
   simp only [Option.some.injEq, Prod.mk.injEq] at H
   obtain ⟨rfl, rfl⟩ := H
   go_enter Try.func34, Try.ntmps34
   go_wp2_with (first | ((with_reducible refine gate_callee (f := 37) rfl ?_); refine goesL_ (some 9) rfl rfl Try.func37 (by kernel_rfl) rfl #[.string a0] rfl mp_q ?_; (with_reducible refine (impl_SumOf.calls k a0 Aa _ A3.out).mono ?_); rintro e w' ⟨rfl, ⟨nd, rfl⟩⟩; refine ⟨_, rfl, ?_⟩) | ((with_reducible refine gate_dst (N := 22) rfl ?_); refine Kd.R_lit (Kd.int .u8) _ 5 ?hg (N := 22) ?hd (xs := ([(Aa / 16777216) % 256, (Aa / 65536) % 256, (Aa / 256) % 256, (Aa) % 256] : List Int)) (inner := [.int .u8 ((Aa / 16777216) % 256), .int .u8 ((Aa / 65536) % 256), .int .u8 ((Aa / 256) % 256), .int .u8 ((Aa) % 256)]) (ok := fun _ => True) (okp := fun _ => True) ?hr ?hp (fun _ hk => hk) trivial (Below.refl _ _) (Nat.le_refl _) (by simp) ?_; (case hd => rfl); (case hg => rfl); (case hr => first | (go_simp; done) | (go_simp; rfl)); (case hp => exact (Reps.one (show Kd.M (Kd.int .u8) _ _ _ ((Aa / 16777216) % 256) [.int .u8 ((Aa / 16777216) % 256)] from rfl) (Reps.one (show Kd.M (Kd.int .u8) _ _ _ ((Aa / 65536) % 256) [.int .u8 ((Aa / 65536) % 256)] from rfl) (Reps.one (show Kd.M (Kd.int .u8) _ _ _ ((Aa / 256) % 256) [.int .u8 ((Aa / 256) % 256)] from rfl) (Reps.one (show Kd.M (Kd.int .u8) _ _ _ ((Aa) % 256) [.int .u8 ((Aa) % 256)] from rfl) (Reps.none _ _)))))); intro v585 w5 ho6 hb hg_ hnew_; clear hg_ hnew_; (first | rw [← Ad.out] at ho6 | (simp only [Int.reduceToNat] at ho6; rw [← Ad.out] at ho6)); have Ae := ak (Kd.R_lower ho6 (below_size (bw_q HB))); replace HB := ak (below_step (bw_q HB) hb); clear hb ho6; have hcv7 := own_string (P := Try.prog) Try.underlying46 Try.underlying5 Try.underlying9 (Kd.own_of_R Ae.out)))
   go_ret2
   exact ⟨er_q, bw_q HB⟩
  ·rw [if_neg c4] at H
   exact absurd H (by simp)

/-! ### impl_Unsealed: function 35 -/
def impl_Unsealed.f (k : Nat) (a0 : ByteArray) : Option (ByteArray × Bool) := if (a0.size : Int) < 4 then (some ((⟨#[]⟩ : ByteArray), false)) else (if 0 ≤ (wrap64 ((a0.size : Int) - 4)) then (if (wrap64 ((a0.size : Int) - 4)) ≤ (a0.size : Int) then ((impl_Sealed.f k (a0.extract 0 ((wrap64 ((a0.size : Int) - 4)) : Int).toNat)).bind fun a => (if a.2 = true then (if a.1.toList = a0.toList then (some (a0.extract 0 ((wrap64 ((a0.size : Int) - 4)) : Int).toNat, true)) else (some ((⟨#[]⟩ : ByteArray), false))) else (some ((⟨#[]⟩ : ByteArray), false)))) else (none)) else (none))
theorem impl_Unsealed.mono : ∀ a0 k, LeO (impl_Unsealed.f k a0) (impl_Unsealed.f (k + 1) a0) := by
 intro a0 k
 unfold impl_Unsealed.f
 with_reducible repeat' (first | apply impl_Sealed.mono | exact LeO.refl _ | exact LeO.none _ | refine LeO.ite ?_ ?_ | refine LeO.bind ?_ (fun _ => ?_))
set_option maxHeartbeats 8000000 in
set_option maxRecDepth 100000 in
theorem impl_Unsealed.calls (k : Nat) (a0 : ByteArray) (r1 : ByteArray) (r2 : Bool) (w : World) (h : impl_Unsealed.f k a0 = some (r1, r2)) :
  Calls Try.prog 35 #[.string a0] w fun e w' => e = .returned (.tuple #[.string r1, .bool r2]) ∧ Below w.heap.size w w' := by
 have HB := ak (Below.refl w.heap.size w); have H := h
 clear h; unfold impl_Unsealed.f at H
 by_cases c2 : (a0.size : Int) < 4
 ·rw [if_pos c2] at H
  have Af : decide ((a0.size : Int) < 4) = true := decide_eq_true c2
  have Ag : decide (a0.size < 4) = true := decide_eq_true (by omega)
  clear c2
  simp only [Option.some.injEq, Prod.mk.injEq] at H
  obtain ⟨rfl, rfl⟩ := H
  go_enter Try.func35, Try.ntmps35
  go_wp2
  go_ret2
  exact ⟨er_q, bw_q HB⟩
 ·rw [if_neg c2] at H
  have Af : decide ((a0.size : Int) < 4) = false := decide_eq_false c2
  have Ag : decide (a0.size < 4) = false := decide_eq_false (by omega)
  clear c2; obtain ⟨ji3, hji3⟩ : ∃ j_ : Int, (wrap64 ((a0.size : Int) - 4)) = j_ := ⟨_, rfl⟩
  replace H : (if 0 ≤ (ji3) then (if (ji3) ≤ (a0.size : Int) then ((impl_Sealed.f k (a0.extract 0 ((ji3) : Int).toNat)).bind fun Ad => (if Ad.2 = true then (if Ad.1.toList = a0.toList then (some (a0.extract 0 ((ji3) : Int).toNat, true)) else (some ((⟨#[]⟩ : ByteArray), false))) else (some ((⟨#[]⟩ : ByteArray), false)))) else (none)) else (none)) = some (r1, r2) := by first | (rw [hji3] at H; exact H) | (simp only [hji3] at H ⊢; exact H)
  have hji3w : (IntKind.i64.wrap ((a0.size : Int) - 4)) = ji3 := (i64_w _).trans hji3
  by_cases c4 : 0 ≤ (ji3)
  ·rw [if_pos c4] at H; have Ai := eq_true c4
   have Aj : decide (0 ≤ (ji3)) = true := decide_eq_true c4
   clear c4
   by_cases c5 : (ji3) ≤ (a0.size : Int)
   ·rw [if_pos c5] at H; have Ak := eq_true c5
    have Al : decide ((ji3) ≤ (a0.size : Int)) = true := decide_eq_true c5
    clear c5; replace H := bsi H; obtain ⟨⟨Aa, Ah⟩, A60, H⟩ := H
    (try dsimp only at H)
    have A6 := ak A60; clear A60
    by_cases c7 : Ah = true
    ·subst c7; rw [if_pos rfl] at H; have Ae := ak H; clear H
     go_enter Try.func35, Try.ntmps35
     go_upto_if 26 with (first | ((with_reducible refine gate_callee (f := 34) rfl ?_); refine goesL_ (some 17) rfl rfl Try.func34 (by kernel_rfl) rfl #[.string (a0.extract 0 ((ji3) : Int).toNat)] rfl (by (try simp only [List.map_toArray, List.map_cons, List.map_nil]); first | done | (simp only [hji3]; rfl) | rfl | (simp only [List.length_drop, List.length_take]; rfl)) ?_; (with_reducible refine (impl_Sealed.calls k (a0.extract 0 ((ji3) : Int).toNat) Aa true _ A6.out).mono ?_); rintro e w9 ⟨rfl, hb⟩; refine ⟨_, rfl, ?_⟩; replace HB := ak (below_step (bw_q HB) hb)))
     have H := Ae.out; clear Ae
     by_cases c10 : Aa.toList = a0.toList
     ·rw [if_pos c10] at H
      have Ab : (Aa.toList == a0.toList) = true := bqi c10
      have Ac : (Aa.toList != a0.toList) = false := bnf c10
      clear c10
      (first | rw [Ab] | rw [Ac] | (simp only [i64_w, i32_w]; first | rw [Ab] | rw [Ac]) | skip)
      simp only [Option.some.injEq, Prod.mk.injEq] at H
      obtain ⟨rfl, rfl⟩ := H
      go_wp2
      go_ret2
      exact ⟨by first | rfl | (simp [errW_none, errW_some] <;> rfl) | (simp only [← hji3]; first | rfl | (simp [errW_none, errW_some] <;> rfl)) | (simp [*, errW_none, errW_some] <;> rfl), bw_q HB⟩
     ·rw [if_neg c10] at H
      have Ab : (Aa.toList == a0.toList) = false := bqf c10
      have Ac : (Aa.toList != a0.toList) = true := bni c10
      (first | rw [Ab] | rw [Ac] | (simp only [i64_w, i32_w]; first | rw [Ab] | rw [Ac]) | skip)
      simp only [Option.some.injEq, Prod.mk.injEq] at H
      obtain ⟨rfl, rfl⟩ := H
      go_wp2
      go_ret2
      exact ⟨by first | rfl | (simp [errW_none, errW_some] <;> rfl) | (simp only [← hji3]; first | rfl | (simp [errW_none, errW_some] <;> rfl)) | (simp [*, errW_none, errW_some] <;> rfl), bw_q HB⟩
    ·replace c7 := Bool.eq_false_iff.mpr c7; subst c7
     rw [if_neg (show ¬ (false = true) by decide)] at H
     simp only [Option.some.injEq, Prod.mk.injEq] at H
     obtain ⟨rfl, rfl⟩ := H
     go_enter Try.func35, Try.ntmps35
     go_wp2_with (first | ((with_reducible refine gate_callee (f := 34) rfl ?_); refine goesL_ (some 17) rfl rfl Try.func34 (by kernel_rfl) rfl #[.string (a0.extract 0 ((ji3) : Int).toNat)] rfl (by (try simp only [List.map_toArray, List.map_cons, List.map_nil]); first | done | (simp only [hji3]; rfl) | rfl | (simp only [List.length_drop, List.length_take]; rfl)) ?_; (with_reducible refine (impl_Sealed.calls k (a0.extract 0 ((ji3) : Int).toNat) Aa false _ A6.out).mono ?_); rintro e w11 ⟨rfl, hb⟩; refine ⟨_, rfl, ?_⟩; replace HB := ak (below_step (bw_q HB) hb)))
     go_ret2
     exact ⟨by first | rfl | (simp [errW_none, errW_some] <;> rfl) | (simp only [← hji3]; first | rfl | (simp [errW_none, errW_some] <;> rfl)) | (simp [*, errW_none, errW_some] <;> rfl), bw_q HB⟩
   ·rw [if_neg c5] at H
    exact absurd H (by simp)
  ·rw [if_neg c4] at H
   exact absurd H (by simp)

/-! ### impl_ReadShort: function 89 -/
def impl_ReadShort.f (k : Nat) (a0 : ByteArray) (a1 : Int) : Option (ByteArray × Int × Bool) := (impl_ReadVar.f k a0 a1).bind fun a => (if a.2.2 = true then (if a.1 > 20000 then (some ((⟨#[]⟩ : ByteArray), 0, false)) else (if a.1 > (wrap64 ((a0.size : Int) - a.2.1)) then (some ((⟨#[]⟩ : ByteArray), 0, false)) else (if 0 ≤ a.2.1 then (if a.2.1 ≤ (wrap64 (a.2.1 + a.1)) then (if (wrap64 (a.2.1 + a.1)) ≤ (a0.size : Int) then (some (a0.extract (a.2.1 : Int).toNat ((wrap64 (a.2.1 + a.1)) : Int).toNat, wrap64 (a.2.1 + a.1), true)) else (none)) else (none)) else (none)))) else (some ((⟨#[]⟩ : ByteArray), 0, false)))
theorem impl_ReadShort.mono : ∀ a0 a1 k, LeO (impl_ReadShort.f k a0 a1) (impl_ReadShort.f (k + 1) a0 a1) := by
 intro a0 a1 k
 unfold impl_ReadShort.f
 with_reducible repeat' (first | apply impl_ReadVar.mono | exact LeO.refl _ | exact LeO.none _ | refine LeO.ite ?_ ?_ | refine LeO.bind ?_ (fun _ => ?_))
set_option maxHeartbeats 8000000 in
set_option maxRecDepth 100000 in
theorem impl_ReadShort.calls (k : Nat) (a0 : ByteArray) (a1 : Int) (r1 : ByteArray) (r2 : Int) (r3 : Bool) (w : World) (h : impl_ReadShort.f k a0 a1 = some (r1, r2, r3)) :
  Calls Try.prog 89 #[.string a0, .int .i64 a1] w fun e w' => e = .returned (.tuple #[.string r1, .int .i64 r2, .bool r3]) ∧ Drawn0 w w' := by
 have H := h
 clear h; unfold impl_ReadShort.f at H; replace H := bsi H; obtain ⟨⟨Ab, Aa, Af⟩, A30, H⟩ := H
 (try dsimp only at H)
 have A3 := ak A30; clear A30
 by_cases c4 : Af = true
 ·subst c4; rw [if_pos rfl] at H
  by_cases c5 : Ab > 20000
  ·rw [if_pos c5] at H
   have Ag : decide (20000 < Ab) = true := decide_eq_true c5
   clear c5
   simp only [Option.some.injEq, Prod.mk.injEq] at H
   obtain ⟨rfl, rfl, rfl⟩ := H
   go_enter Try.func89, Try.ntmps89
   go_wp2_with (first | ((with_reducible refine gate_callee (f := 83) rfl ?_); refine goesL_ (some 13) rfl rfl Try.func83 (by kernel_rfl) rfl #[.string a0, .int .i64 a1] rfl mp_q ?_; (with_reducible refine (impl_ReadVar.calls k a0 a1 Ab Aa true _ A3.out).mono ?_); rintro e w' ⟨rfl, ⟨nd, rfl⟩⟩; refine ⟨_, rfl, ?_⟩))
   go_ret3
   exact ⟨rs_q, dr_q⟩
  ·rw [if_neg c5] at H
   have Ag : decide (20000 < Ab) = false := decide_eq_false c5
   clear c5; have Ae := ak H; clear H
   go_enter Try.func89, Try.ntmps89
   go_upto_if 30 with (first | ((with_reducible refine gate_callee (f := 83) rfl ?_); refine goesL_ (some 13) rfl rfl Try.func83 (by kernel_rfl) rfl #[.string a0, .int .i64 a1] rfl mp_q ?_; (with_reducible refine (impl_ReadVar.calls k a0 a1 Ab Aa true _ A3.out).mono ?_); rintro e w' ⟨rfl, ⟨nd, rfl⟩⟩; refine ⟨_, rfl, ?_⟩))
   have H := Ae.out; clear Ae
   by_cases c7 : Ab > (wrap64 ((a0.size : Int) - Aa))
   ·rw [if_pos c7] at H
    have Ac : decide ((wrap64 ((a0.size : Int) - Aa)) < Ab) = true := decide_eq_true c7
    clear c7
    (first | rw [Ac] | rw [Ad] | (simp only [i64_w, i32_w]; first | rw [Ac] | rw [Ad]) | skip)
    simp only [Option.some.injEq, Prod.mk.injEq] at H
    obtain ⟨rfl, rfl, rfl⟩ := H
    go_wp2
    go_ret3
    exact ⟨rs_q, dr_q⟩
   ·rw [if_neg c7] at H
    have Ac : decide ((wrap64 ((a0.size : Int) - Aa)) < Ab) = false := decide_eq_false c7
    clear c7
    (first | rw [Ac] | rw [Ad] | (simp only [i64_w, i32_w]; first | rw [Ac] | rw [Ad]) | skip)
    by_cases c8 : 0 ≤ Aa
    ·rw [if_pos c8] at H; have Aj := eq_true c8
     have Ak : decide (0 ≤ Aa) = true := decide_eq_true c8
     clear c8
     by_cases c9 : Aa ≤ (wrap64 (Aa + Ab))
     ·rw [if_pos c9] at H; have Al := eq_true c9
      have Am : decide (Aa ≤ (wrap64 (Aa + Ab))) = true := decide_eq_true c9
      by_cases c10 : (wrap64 (Aa + Ab)) ≤ (a0.size : Int)
      ·rw [if_pos c10] at H; have Ah := eq_true c10
       have Ai : decide ((wrap64 (Aa + Ab)) ≤ (a0.size : Int)) = true := decide_eq_true c10
       simp only [Option.some.injEq, Prod.mk.injEq] at H
       obtain ⟨rfl, rfl, rfl⟩ := H
       go_wp2
       go_ret3
       exact ⟨rs_q, dr_q⟩
      ·rw [if_neg c10] at H
       exact absurd H (by simp)
     ·rw [if_neg c9] at H
      exact absurd H (by simp)
    ·rw [if_neg c8] at H
     exact absurd H (by simp)
 ·replace c4 := Bool.eq_false_iff.mpr c4; subst c4
  rw [if_neg (show ¬ (false = true) by decide)] at H
  simp only [Option.some.injEq, Prod.mk.injEq] at H
  obtain ⟨rfl, rfl, rfl⟩ := H
  go_enter Try.func89, Try.ntmps89
  go_wp2_with (first | ((with_reducible refine gate_callee (f := 83) rfl ?_); refine goesL_ (some 13) rfl rfl Try.func83 (by kernel_rfl) rfl #[.string a0, .int .i64 a1] rfl mp_q ?_; (with_reducible refine (impl_ReadVar.calls k a0 a1 Ab Aa false _ A3.out).mono ?_); rintro e w' ⟨rfl, ⟨nd, rfl⟩⟩; refine ⟨_, rfl, ?_⟩))
  go_ret3
  exact ⟨rs_q, dr_q⟩

/-! ### impl_reader_short: function 60 -/
def impl_reader_short.f (k : Nat) (s0_0 : ByteArray) (s0_1 : Int) (s0_2 : Bool) : Option (ByteArray × ByteArray × Int × Bool) := (impl_ReadShort.f k s0_0 s0_1).bind fun a => (if s0_2 = true then (some ((⟨#[]⟩ : ByteArray), s0_0, s0_1, true)) else (if a.2.2 = true then (some (a.1, s0_0, a.2.1, s0_2)) else (some ((⟨#[]⟩ : ByteArray), s0_0, s0_1, true))))
theorem impl_reader_short.mono : ∀ a0 a1 a2 k, LeO (impl_reader_short.f k a0 a1 a2) (impl_reader_short.f (k + 1) a0 a1 a2) := by
 intro a0 a1 a2 k
 unfold impl_reader_short.f
 with_reducible repeat' (first | apply impl_ReadShort.mono | exact LeO.refl _ | exact LeO.none _ | refine LeO.ite ?_ ?_ | refine LeO.bind ?_ (fun _ => ?_))
set_option maxHeartbeats 8000000 in
set_option maxRecDepth 100000 in
theorem impl_reader_short.calls (k : Nat) (g : Nat) (s0_0 : ByteArray) (s0_1 : Int) (s0_2 : Bool) (r1 : ByteArray) (r2 : ByteArray) (r3 : Int) (r4 : Bool) (w0 w : World) (hI : IsS66 w0 w g s0_0 s0_1 s0_2) (hB : Below w0.heap.size w0 w) (h : impl_reader_short.f k s0_0 s0_1 s0_2 = some (r1, r2, r3, r4)) :
  Calls Try.prog 60 #[.pointer (some ⟨g, 0, none⟩)] w fun e w' => e = .returned (.string r1) ∧ IsS66 w0 w' g r2 r3 r4 ∧ Below w0.heap.size w0 w' ∧ KeepBut w w' g none := by
 have Ai := ak hI; have HK := ak (KeepBut.refl w g none); have HL := ak hB.size; clear hI; have HW0 := ak hB.size; have HB := ak hB; clear hB; have H := h
 clear h; unfold impl_reader_short.f at H; replace H := bsi H; obtain ⟨⟨Ag, Ah, Ac⟩, A20, H⟩ := H
 (try dsimp only at H)
 have A2 := ak A20; clear A20
 by_cases c3 : s0_2 = true
 ·subst c3; rw [if_pos rfl] at H; have Aj := ak H; clear H; obtain ⟨Ad, hgz5⟩ := Ai.out; have Ax := cellS66_0 Ad; have Ay := cellS66_1 Ad; have Az := cellS66_2 Ad; have Ba := blk_frozen Ad 0; have Bb := blk_frozen Ad 1; have Bc := blk_frozen Ad 2; clear Ad hgz5
  go_enter Try.func60, Try.ntmps60
  go_upto_if 26 with (first | (go_at_call 89; (with_reducible refine (impl_ReadShort.calls k s0_0 s0_1 Ag Ah Ac _ A2.out).mono ?_); rintro e w' ⟨rfl, ⟨nd, rfl⟩⟩; (try first | exact ⟨rfl, _, World.drewN_drewN _ _ _⟩ | exact ⟨rfl, _, Eq.trans (World.drewN_drewN _ _ _) (congrArg (World.drewN _) (Nat.add_assoc _ _ _))⟩)))
  repeat (go_quiet (first | (go_at_call 89; (with_reducible refine (impl_ReadShort.calls k s0_0 s0_1 Ag Ah Ac _ A2.out).mono ?_); rintro e w' ⟨rfl, ⟨nd, rfl⟩⟩; (try first | exact ⟨rfl, _, World.drewN_drewN _ _ _⟩ | exact ⟨rfl, _, Eq.trans (World.drewN_drewN _ _ _) (congrArg (World.drewN _) (Nat.add_assoc _ _ _))⟩))); go_upto_if 26 with (first | (go_at_call 89; (with_reducible refine (impl_ReadShort.calls k s0_0 s0_1 Ag Ah Ac _ A2.out).mono ?_); rintro e w' ⟨rfl, ⟨nd, rfl⟩⟩; (try first | exact ⟨rfl, _, World.drewN_drewN _ _ _⟩ | exact ⟨rfl, _, Eq.trans (World.drewN_drewN _ _ _) (congrArg (World.drewN _) (Nat.add_assoc _ _ _))⟩))))
  have H := Aj.out; clear Aj
  simp only [Option.some.injEq, Prod.mk.injEq] at H
  obtain ⟨rfl, rfl, rfl, rfl⟩ := H; obtain ⟨Ae, hgz6⟩ := Ai.out; have Bd := cellS66_0 Ae; have Be := cellS66_1 Ae; have Bf := cellS66_2 Ae; have Bg := blk_frozen Ae 0; have Bh := blk_frozen Ae 1; have Bi := blk_frozen Ae 2; clear Ae hgz6
  go_wp2
  repeat (go_quiet (fail); try go_wp2)
  go_ret
  exact ⟨er_q, (sq66 Ai), (bs66 HB), kb_q HK⟩
 ·replace c3 := Bool.eq_false_iff.mpr c3; subst c3
  rw [if_neg (show ¬ (false = true) by decide)] at H
  have Ak := ak H; clear H; obtain ⟨Af, hgz8⟩ := Ai.out; have Bj := cellS66_0 Af; have Bk := cellS66_1 Af; have Bl := cellS66_2 Af; have Bm := blk_frozen Af 0; have Bn := blk_frozen Af 1; have Bo := blk_frozen Af 2; clear Af hgz8
  go_enter Try.func60, Try.ntmps60
  go_upto_if 26 with (first | (go_at_call 89; (with_reducible refine (impl_ReadShort.calls k s0_0 s0_1 Ag Ah Ac _ A2.out).mono ?_); rintro e w' ⟨rfl, ⟨nd, rfl⟩⟩; (try first | exact ⟨rfl, _, World.drewN_drewN _ _ _⟩ | exact ⟨rfl, _, Eq.trans (World.drewN_drewN _ _ _) (congrArg (World.drewN _) (Nat.add_assoc _ _ _))⟩)))
  repeat (go_quiet (first | (go_at_call 89; (with_reducible refine (impl_ReadShort.calls k s0_0 s0_1 Ag Ah Ac _ A2.out).mono ?_); rintro e w' ⟨rfl, ⟨nd, rfl⟩⟩; (try first | exact ⟨rfl, _, World.drewN_drewN _ _ _⟩ | exact ⟨rfl, _, Eq.trans (World.drewN_drewN _ _ _) (congrArg (World.drewN _) (Nat.add_assoc _ _ _))⟩))); go_upto_if 26 with (first | (go_at_call 89; (with_reducible refine (impl_ReadShort.calls k s0_0 s0_1 Ag Ah Ac _ A2.out).mono ?_); rintro e w' ⟨rfl, ⟨nd, rfl⟩⟩; (try first | exact ⟨rfl, _, World.drewN_drewN _ _ _⟩ | exact ⟨rfl, _, Eq.trans (World.drewN_drewN _ _ _) (congrArg (World.drewN _) (Nat.add_assoc _ _ _))⟩))))
  have H := Ak.out; clear Ak
  by_cases c9 : Ac = true
  ·subst c9; rw [if_pos rfl] at H
   simp only [Option.some.injEq, Prod.mk.injEq] at H
   obtain ⟨rfl, rfl, rfl, rfl⟩ := H; obtain ⟨Aa, hgz10⟩ := Ai.out; have Al := cellS66_0 Aa; have Am := cellS66_1 Aa; have An := cellS66_2 Aa; have Ao := blk_frozen Aa 0; have Ap := blk_frozen Aa 1; have Aq := blk_frozen Aa 2; clear Aa hgz10
   go_wp2
   repeat (go_quiet (fail); try go_wp2)
   go_ret
   exact ⟨er_q, (sq66 Ai), (bs66 HB), kb_q HK⟩
  ·replace c9 := Bool.eq_false_iff.mpr c9; subst c9
   rw [if_neg (show ¬ (false = true) by decide)] at H
   simp only [Option.some.injEq, Prod.mk.injEq] at H
   obtain ⟨rfl, rfl, rfl, rfl⟩ := H; obtain ⟨Ab, hgz11⟩ := Ai.out; have Ar := cellS66_0 Ab; have As := cellS66_1 Ab; have At := cellS66_2 Ab; have Au := blk_frozen Ab 0; have Av := blk_frozen Ab 1; have Aw := blk_frozen Ab 2; clear Ab hgz11
   go_wp2
   repeat (go_quiet (fail); try go_wp2)
   go_ret
   exact ⟨er_q, (sq66 Ai), (bs66 HB), kb_q HK⟩

end Go.Proofs.Ytnecbkognpponaa.Q
