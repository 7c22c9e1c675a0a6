import Derived.Test.YtnecbkognpponaaXReadPacketQx45
/- The contract of a Go function. -/


namespace Go.Proofs.Ytnecbkognpponaa.Q
open Go.RowKit Go.Proofs.YtnecbkognpponaaW.PrintWords Go.Proofs.YtnecbkognpponaaW.PrintLast Go.Proofs.YtnecbkognpponaaW.PrintMore
attribute [local go_sem] max2_int min2_int max_two min_two max_three min_three max_four min_four   -- for this text's walks alone
set_option linter.unusedVariables false
set_option linter.unusedSimpArgs false

/-! ### spec_l04Short: function 50 -/
def spec_l04Short.f (k : Nat) (a0 : ByteArray) : Option (ByteArray) := (spec_l01Var.f k (a0.size : Int)).bind fun a => (if a.size + a0.size ≤ 9223372036854775807 then (some (a ++ a0)) else (none))
theorem spec_l04Short.mono : ∀ a0 k, LeO (spec_l04Short.f k a0) (spec_l04Short.f (k + 1) a0) := by
 intro a0 k
 unfold spec_l04Short.f
 with_reducible repeat' (first | apply spec_l01Var.mono | exact LeO.refl _ | exact LeO.none _ | refine LeO.ite ?_ ?_ | refine LeO.bind ?_ (fun _ => ?_))
set_option maxHeartbeats 8000000 in
set_option maxRecDepth 100000 in
theorem spec_l04Short.calls (k : Nat) (a0 : ByteArray) (r : ByteArray) (w : World) (h : spec_l04Short.f k a0 = some r) :
  Calls Try.prog 50 #[.string a0] w fun e w' => e = .returned (.string r) ∧ Below w.heap.size w w' := by
 have HB := ak (Below.refl w.heap.size w); have H := h
 clear h; unfold spec_l04Short.f at H; replace H := bsi H; obtain ⟨Aa, A20, H⟩ := H
 (try dsimp only at H)
 have A2 := ak A20; clear A20
 by_cases c3 : Aa.size + a0.size ≤ 9223372036854775807
 ·rw [if_pos c3] at H; have Ad := eq_true c3
  have Ae : decide (Aa.size + a0.size ≤ 9223372036854775807) = true := decide_eq_true c3
  try have Ab : (9223372036854775807 < Aa.size + a0.size) = False := eq_false (Nat.not_lt.2 c3)
  try (have Ac := Ab; simp only [ByteArray.size_append] at Ac)
  obtain rfl := Option.some.inj H
  go_enter Try.func50, Try.ntmps50
  go_wp2_with (first | ((with_reducible refine gate_callee (f := 49) rfl ?_); refine goesL_ (some 5) rfl rfl Try.func49 (by kernel_rfl) rfl #[.int .i64 (a0.size : Int)] rfl mp_q ?_; (with_reducible refine (spec_l01Var.calls k (a0.size : Int) Aa _ A2.out).mono ?_); rintro e w4 ⟨rfl, hb⟩; refine ⟨_, rfl, ?_⟩; replace HB := ak (below_step (bw_q HB) hb)))
  go_ret
  exact ⟨er_q, bw_q HB⟩
 ·rw [if_neg c3] at H
  exact absurd H (by simp)

/-! ### spec_l02Four: function 86 -/
def spec_l02Four.f (a0 : Int) : Option (ByteArray) := some (strOfNums (([(a0 / 16777216) % 256, (a0 / 65536) % 256, (a0 / 256) % 256, (a0) % 256] : List Int)))
set_option maxHeartbeats 8000000 in
set_option maxRecDepth 100000 in
theorem spec_l02Four.calls (a0 : Int) (r : ByteArray) (w : World) (h : spec_l02Four.f a0 = some r) :
  Calls Try.prog 86 #[.int .u32 a0] w fun e w' => e = .returned (.string r) ∧ Below w.heap.size w w' := by
 have HB := ak (Below.refl w.heap.size w); have H := h
 clear h; unfold spec_l02Four.f at H; obtain ⟨Ad, Aa⟩ : ∃ y_ : List Int, y_ = (([(a0 / 16777216) % 256, (a0 / 65536) % 256, (a0 / 256) % 256, (a0) % 256] : List Int)) := ⟨_, rfl⟩
 replace H : (some (strOfNums Ad)) = some r := by first | (rw [Aa]; with_reducible exact H) | (have H2_ := (Option.bind_some _ _).symm.trans H; rw [Aa]; with_reducible exact H2_) | (have H2_ := (Option.bind_some _ _).symm.trans H; with_reducible exact H2_) | with_reducible exact H | (rw [Aa]; exact H) | exact H
 have Ab := ak Aa; clear Aa; obtain rfl := Option.some.inj H
 go_enter Try.func86, Try.ntmps86
 go_wp2_with (first | ((with_reducible refine gate_dst (N := 14) rfl ?_); refine Kd.R_lit (Kd.int .u8) _ 5 ?hg (N := 14) ?hd (xs := ([(a0 / 16777216) % 256, (a0 / 65536) % 256, (a0 / 256) % 256, (a0) % 256] : List Int)) (inner := [.int .u8 ((a0 / 16777216) % 256), .int .u8 ((a0 / 65536) % 256), .int .u8 ((a0 / 256) % 256), .int .u8 ((a0) % 256)]) (ok := fun _ => True) (okp := fun _ => True) ?hr ?hp (fun _ hk => hk) trivial (Below.refl _ _) (Nat.le_refl _) (by simp) ?_; (case hd => rfl); (case hg => rfl); (case hr => first | (go_simp; done) | (go_simp; rfl)); (case hp => exact (Reps.one (show Kd.M (Kd.int .u8) _ _ _ ((a0 / 16777216) % 256) [.int .u8 ((a0 / 16777216) % 256)] from rfl) (Reps.one (show Kd.M (Kd.int .u8) _ _ _ ((a0 / 65536) % 256) [.int .u8 ((a0 / 65536) % 256)] from rfl) (Reps.one (show Kd.M (Kd.int .u8) _ _ _ ((a0 / 256) % 256) [.int .u8 ((a0 / 256) % 256)] from rfl) (Reps.one (show Kd.M (Kd.int .u8) _ _ _ ((a0) % 256) [.int .u8 ((a0) % 256)] from rfl) (Reps.none _ _)))))); intro v545 w2 ho3 hb hg_ hnew_; clear hg_ hnew_; (first | rw [← Ab.out] at ho3 | (simp only [Int.reduceToNat] at ho3; rw [← Ab.out] at ho3)); have Ac := ak (Kd.R_lower ho3 (below_size (bw_q HB))); replace HB := ak (below_step (bw_q HB) hb); clear hb ho3; have hcv4 := own_string (P := Try.prog) Try.underlying46 Try.underlying5 Try.underlying9 (Kd.own_of_R Ac.out)))
 go_ret
 exact ⟨er_q, bw_q HB⟩

/-! ### spec_SumMore: function 98 -/
mutual
def spec_SumMore.l0 : Nat → Int → ByteArray → Int → Option (Int)
 | 0, _, _, _ => none
 | k + 1, c, b, a => if a < (b.size : Int) then (if 0 ≤ a then (spec_SumMore.l1 k (Go.bits .xor .u32 c ((bt b a) % 4294967296)) b a 0) else (none)) else (some c)
def spec_SumMore.l1 : Nat → Int → ByteArray → Int → Int → Option (Int)
 | 0, _, _, _, _ => none
 | k + 1, a, b, c, d => if d < 8 then (if (Int.tmod a 2) = 1 then (spec_SumMore.l1 k (Go.bits .xor .u32 ((Int.tdiv a 2) % 4294967296) 3558460437) b c (wrap64 (d + 1))) else (spec_SumMore.l1 k ((Int.tdiv a 2) % 4294967296) b c (wrap64 (d + 1)))) else (spec_SumMore.l0 k a b (wrap64 (c + 1)))
end
def spec_SumMore.f (k : Nat) (a0 : Int) (a1 : ByteArray) : Option (Int) := spec_SumMore.l0 k a0 a1 0
theorem spec_SumMore.mono_l : ∀ k, (∀ y0 y1 y2, LeO (spec_SumMore.l0 k y0 y1 y2) (spec_SumMore.l0 (k + 1) y0 y1 y2)) ∧ (∀ y0 y1 y2 y3, LeO (spec_SumMore.l1 k y0 y1 y2 y3) (spec_SumMore.l1 (k + 1) y0 y1 y2 y3))
 | 0 => ⟨fun _ _ _ r h => by simp [spec_SumMore.l0] at h, fun _ _ _ _ r h => by simp [spec_SumMore.l1] at h⟩
 | k + 1 => by
  obtain ⟨ih0, ih1⟩ := spec_SumMore.mono_l k
  refine ⟨?_, ?_⟩
  ·intro y0 y1 y2
   unfold spec_SumMore.l0
   with_reducible repeat' (first | apply ih0 | apply ih1 | exact LeO.refl _ | exact LeO.none _ | refine LeO.ite ?_ ?_ | refine LeO.bind ?_ (fun _ => ?_))
  ·intro y0 y1 y2 y3
   unfold spec_SumMore.l1
   with_reducible repeat' (first | apply ih0 | apply ih1 | exact LeO.refl _ | exact LeO.none _ | refine LeO.ite ?_ ?_ | refine LeO.bind ?_ (fun _ => ?_))
theorem spec_SumMore.mono : ∀ a0 a1 k, LeO (spec_SumMore.f k a0 a1) (spec_SumMore.f (k + 1) a0 a1) := by
 intro a0 a1 k
 obtain ⟨ih0, ih1⟩ := spec_SumMore.mono_l k
 unfold spec_SumMore.f
 with_reducible repeat' (first | apply ih0 | apply ih1 | exact LeO.refl _ | exact LeO.none _ | refine LeO.ite ?_ ?_ | refine LeO.bind ?_ (fun _ => ?_))
set_option maxHeartbeats 8000000 in
set_option maxRecDepth 100000 in
theorem spec_SumMore.calls (k : Nat) (a0 : Int) (a1 : ByteArray) (r : Int) (w : World) (h : spec_SumMore.f k a0 a1 = some r) :
  Calls Try.prog 98 #[.int .u32 a0, .string a1] w fun e w' => e = .returned (.int .u32 r) ∧ Drawn0 w w' := by
 have H := h
 clear h; unfold spec_SumMore.f at H; have H' := ak H; clear H
 go_enter Try.func98, Try.ntmps98
 go_wp2
 go_loopg [0, 5] k (fun kq v0 v5 w' => ∃ (Af : Int) (Aa : Int), v0 = .int .u32 Af ∧ v5 = .int .i64 Aa ∧ Aside0 (spec_SumMore.l0 kq Af a1 Aa = some r) ∧ Aside0 (kq ≤ k) ∧ Drawn0 w w')
 case atStart => exact ⟨(a0), (0), rs_q, rs_q, H', ⟨Nat.le_refl _⟩, by repeat (first | exact Drawn0.refl _ | apply Drawn0.step)⟩
 case round =>
  clear H'; (try clear p2); obtain ⟨Af, Aa, rfl, rfl, HA, Ad, ⟨m1, rfl⟩⟩ := hrel
  cases gk with
  | zero => exact absurd HA.out (by simp [spec_SumMore.l0])
  | succ k1 =>
   have H := HA.out; clear HA
   simp only [spec_SumMore.l0] at H
   by_cases c3 : Aa < (a1.size : Int)
   ·rw [if_pos c3] at H
    have Ag : decide (Aa < (a1.size : Int)) = true := decide_eq_true c3
    clear c3
    by_cases c4 : 0 ≤ Aa
    ·rw [if_pos c4] at H
     have Ah : decide (0 ≤ Aa) = true := decide_eq_true c4
     clear c4; have H' := ak H; clear H
     have p5 : 0 ≤ (Aa : Int) := of_decide_eq_true as_q
     have q5 : Aa < (a1.size : Int) := of_decide_eq_true as_q
     have hx5 := bt_at a1 Aa; replace p5 := eq_true p5; replace q5 := eq_true q5
     go_wp2
     go_loopg [0, 6] k1 (fun kq v0 v6 w' => ∃ (Ab : Int) (Ac : Int), v0 = .int .u32 Ab ∧ v6 = .int .i64 Ac ∧ Aside0 (spec_SumMore.l1 kq Ab a1 Aa Ac = some r) ∧ Aside0 (kq ≤ k1) ∧ Drawn0 w w')
     case atStart => exact ⟨(Go.bits .xor .u32 Af ((bt a1 Aa) % 4294967296)), (0), rs_q, rs_q, H', ⟨Nat.le_refl _⟩, by repeat (first | exact Drawn0.refl _ | apply Drawn0.step)⟩
     case round =>
      clear H'; (try clear p2); (try clear c3); (try clear Ag); (try clear c4); (try clear Ah); (try clear p5); (try clear q5); (try clear hx5); (try clear p2); (try clear p5); (try clear q5); obtain ⟨Ab, Ac, rfl, rfl, HA, Ae, ⟨m2, rfl⟩⟩ := hrel
      cases gk with
      | zero => exact absurd HA.out (by simp [spec_SumMore.l1])
      | succ k2 =>
       have H := HA.out; clear HA
       simp only [spec_SumMore.l1] at H
       by_cases c6 : Ac < 8
       ·rw [if_pos c6] at H
        have Ai : decide (Ac < 8) = true := decide_eq_true c6
        clear c6
        by_cases c7 : (Int.tmod Ab 2) = 1
        ·rw [if_pos c7] at H
         have Aj : ((Int.tmod Ab 2) == 1) = true := bqi c7
         have Ak : ((Int.tmod Ab 2) != 1) = false := bnf c7
         clear c7; have H' := ak H; clear H
         go_wp2
         go_roundg k2
         case measure => have := Ad.out; have := Ae.out; omega
         case rel => exact ⟨(Go.bits .xor .u32 ((Int.tdiv Ab 2) % 4294967296) 3558460437), (wrap64 (Ac + 1)), rs_q, rs_q, H', ⟨by have := Ad.out; have := Ae.out; omega⟩, by repeat (first | exact Drawn0.refl _ | apply Drawn0.step)⟩
        ·rw [if_neg c7] at H
         have Aj : ((Int.tmod Ab 2) == 1) = false := bqf c7
         have Ak : ((Int.tmod Ab 2) != 1) = true := bni c7
         have H' := ak H; clear H
         go_wp2
         go_roundg k2
         case measure => have := Ad.out; have := Ae.out; omega
         case rel => exact ⟨((Int.tdiv Ab 2) % 4294967296), (wrap64 (Ac + 1)), rs_q, rs_q, H', ⟨by have := Ad.out; have := Ae.out; omega⟩, by repeat (first | exact Drawn0.refl _ | apply Drawn0.step)⟩
       ·rw [if_neg c6] at H
        have Ai : decide (Ac < 8) = false := decide_eq_false c6
        clear c6; have H' := ak H; clear H
        go_wp2
        go_roundg k2
        case measure => have := Ad.out; have := Ae.out; omega
        case rel => exact ⟨(Ab), (wrap64 (Aa + 1)), rs_q, rs_q, H', ⟨by have := Ad.out; have := Ae.out; omega⟩, by repeat (first | exact Drawn0.refl _ | apply Drawn0.step)⟩
    ·rw [if_neg c4] at H
     exact absurd H (by simp)
   ·rw [if_neg c3] at H
    have Ag : decide (Aa < (a1.size : Int)) = false := decide_eq_false c3
    clear c3; obtain rfl := Option.some.inj H
    go_wp2
    go_ret
    exact ⟨rs_q, dr_q⟩

/-! ### spec_SumOf: function 87 -/
def spec_SumOf.f (k : Nat) (a0 : ByteArray) : Option (Int) := (spec_SumMore.f k 4294967295 a0).bind fun a => (some a)
theorem spec_SumOf.mono : ∀ a0 k, LeO (spec_SumOf.f k a0) (spec_SumOf.f (k + 1) a0) := by
 intro a0 k
 unfold spec_SumOf.f
 with_reducible repeat' (first | apply spec_SumMore.mono | exact LeO.refl _ | exact LeO.none _ | refine LeO.ite ?_ ?_ | refine LeO.bind ?_ (fun _ => ?_))
set_option maxHeartbeats 8000000 in
set_option maxRecDepth 100000 in
theorem spec_SumOf.calls (k : Nat) (a0 : ByteArray) (r : Int) (w : World) (h : spec_SumOf.f k a0 = some r) :
  Calls Try.prog 87 #[.string a0] w fun e w' => e = .returned (.int .u32 r) ∧ Drawn0 w w' := by
 have H := h
 clear h; unfold spec_SumOf.f at H; replace H := bsi H; obtain ⟨Aa, A20, H⟩ := H
 (try dsimp only at H)
 have A2 := ak A20; clear A20; obtain rfl := Option.some.inj H
 go_enter Try.func87, Try.ntmps87
 go_wp2_with (first | ((with_reducible refine gate_callee (f := 98) rfl ?_); refine goesL_ (some 4) rfl rfl Try.func98 (by kernel_rfl) rfl #[.int .u32 4294967295, .string a0] rfl mp_q ?_; (with_reducible refine (spec_SumMore.calls k 4294967295 a0 Aa _ A2.out).mono ?_); rintro e w' ⟨rfl, ⟨nd, rfl⟩⟩; refine ⟨_, rfl, ?_⟩))
 go_ret
 exact ⟨rs_q, dr_q⟩

/-! ### spec_Sealed: function 51 -/
def spec_Sealed.f (k : Nat) (a0 : ByteArray) : Option (ByteArray × Bool) := if (a0.size : Int) > 20000 then (some ((⟨#[]⟩ : ByteArray), false)) else ((spec_SumOf.f k a0).bind fun b => ((spec_l02Four.f b).bind fun a => (if a0.size + a.size ≤ 9223372036854775807 then (some (a0 ++ a, true)) else (none))))
theorem spec_Sealed.mono : ∀ a0 k, LeO (spec_Sealed.f k a0) (spec_Sealed.f (k + 1) a0) := by
 intro a0 k
 unfold spec_Sealed.f
 with_reducible repeat' (first | apply spec_SumOf.mono | exact LeO.refl _ | exact LeO.none _ | refine LeO.ite ?_ ?_ | refine LeO.bind ?_ (fun _ => ?_))
set_option maxHeartbeats 8000000 in
set_option maxRecDepth 100000 in
theorem spec_Sealed.calls (k : Nat) (a0 : ByteArray) (r1 : ByteArray) (r2 : Bool) (w : World) (h : spec_Sealed.f k a0 = some (r1, r2)) :
  Calls Try.prog 51 #[.string a0] w fun e w' => e = .returned (.tuple #[.string r1, .bool r2]) ∧ Below w.heap.size w w' := by
 have HB := ak (Below.refl w.heap.size w); have H := h
 clear h; unfold spec_Sealed.f at H
 by_cases c2 : (a0.size : Int) > 20000
 ·rw [if_pos c2] at H
  have Ac : decide (20000 < (a0.size : Int)) = true := decide_eq_true c2
  have Ad : decide (20000 < a0.size) = true := decide_eq_true (by omega)
  clear c2
  simp only [Option.some.injEq, Prod.mk.injEq] at H
  obtain ⟨rfl, rfl⟩ := H
  go_enter Try.func51, Try.ntmps51
  go_wp2
  go_ret2
  exact ⟨er_q, bw_q HB⟩
 ·rw [if_neg c2] at H
  have Ac : decide (20000 < (a0.size : Int)) = false := decide_eq_false c2
  have Ad : decide (20000 < a0.size) = false := decide_eq_false (by omega)
  clear c2; replace H := bsi H; obtain ⟨Ab, A30, H⟩ := H
  (try dsimp only at H)
  have A3 := ak A30; clear A30; replace H := bsi H; obtain ⟨Aa, A40, H⟩ := H
  (try dsimp only at H)
  have A4 := ak A40; clear A40
  by_cases c5 : a0.size + Aa.size ≤ 9223372036854775807
  ·rw [if_pos c5] at H; have Ag := eq_true c5
   have Ah : decide (a0.size + Aa.size ≤ 9223372036854775807) = true := decide_eq_true c5
   try have Ae : (9223372036854775807 < a0.size + Aa.size) = False := eq_false (Nat.not_lt.2 c5)
   try (have Af := Ae; simp only [ByteArray.size_append] at Af)
   simp only [Option.some.injEq, Prod.mk.injEq] at H
   obtain ⟨rfl, rfl⟩ := H
   go_enter Try.func51, Try.ntmps51
   go_wp2_with (first | ((with_reducible refine gate_callee (f := 87) rfl ?_); refine goesL_ (some 9) rfl rfl Try.func87 (by kernel_rfl) rfl #[.string a0] rfl mp_q ?_; (with_reducible refine (spec_SumOf.calls k a0 Ab _ A3.out).mono ?_); rintro e w' ⟨rfl, ⟨nd, rfl⟩⟩; refine ⟨_, rfl, ?_⟩) | ((with_reducible refine gate_callee (f := 86) rfl ?_); refine goesL_ (some 10) rfl rfl Try.func86 (by kernel_rfl) rfl #[.int .u32 Ab] rfl mp_q ?_; (with_reducible refine (spec_l02Four.calls Ab Aa _ A4.out).mono ?_); rintro e w6 ⟨rfl, hb⟩; refine ⟨_, rfl, ?_⟩; replace HB := ak (below_step (bw_q HB) hb)))
   go_ret2
   exact ⟨er_q, bw_q HB⟩
  ·rw [if_neg c5] at H
   exact absurd H (by simp)

end Go.Proofs.Ytnecbkognpponaa.Q
