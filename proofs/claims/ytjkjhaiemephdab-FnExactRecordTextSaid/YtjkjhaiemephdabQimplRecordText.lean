/- A Go function as a Lean function, and its contract: for every input the Go code comes to what the Lean function tells. -/
import Derived.Test.YtjkjhaiemephdabQk
import Derived.Test.YtjkjhaiemephdabQimplRecordOk
import Derived.Test.YtjkjhaiemephdabQimplVarText
namespace Go.Proofs.Ytjkjhaiemephdab.Q
open Go.RowKit Go.Proofs.YtjkjhaiemephdabW.PrintWords Go.Proofs.YtjkjhaiemephdabW.PrintLast Go.Proofs.YtjkjhaiemephdabW.PrintMore
attribute [local go_sem] max2_int min2_int max_two min_two max_three min_three max_four min_four   -- for this text's walks alone
set_option linter.unusedVariables false
set_option linter.unusedSimpArgs false

/-! ### impl_RecordText: function 29 -/
def impl_RecordText.l0 : Nat → ByteArray → List (S99) → Int → Int → Int → Int → Int → Int → Int → List (S99) → Int → Bool → Option (ByteArray × Bool)
  | 0, _, _, _, _, _, _, _, _, _, _, _, _ => none
  | k + 1, x8, x51, x52, x53, x402000, x402001, x402002, x402003, x402004, x402005, x402006, x402007 => if x53 < x52 then (if 0 ≤ x53 then (if x53 < (x51.length : Int) then ((impl_VarText.f k ((rd_T99 x51 x53).f1)).bind fun bt412 => ((some (([((rd_T99 x51 x53).f0) % 256] : List Int) : List Int)).bind fun y414 => (if (strOfNums y414).size + bt412.1.size ≤ 9223372036854775807 then (if x8.size + ((strOfNums y414) ++ bt412.1).size ≤ 9223372036854775807 then (impl_RecordText.l0 k (x8 ++ ((strOfNums y414) ++ bt412.1)) x51 x52 (wrap64 (x53 + 1)) x402000 x402001 x402002 x402003 x402004 x402005 x402006 x402007) else (none)) else (none)))) else (none)) else (none)) else ((impl_VarText.f k x402006).bind fun bt417 => (if x402007 = true then (if x8.size + bt417.1.size ≤ 9223372036854775807 then (if (x8 ++ bt417.1).size + 1 ≤ 9223372036854775807 then (some ((x8 ++ bt417.1) ++ (⟨#[1]⟩ : ByteArray), true)) else (none)) else (none)) else (if x8.size + bt417.1.size ≤ 9223372036854775807 then (if (x8 ++ bt417.1).size + 1 ≤ 9223372036854775807 then (some ((x8 ++ bt417.1) ++ (⟨#[0]⟩ : ByteArray), true)) else (none)) else (none))))
def impl_RecordText.f (k : Nat) (a0_0 : Int) (a0_1 : Int) (a0_2 : Int) (a0_3 : Int) (a0_4 : Int) (l0_5 : List (S99)) (a0_6 : Int) (a0_7 : Bool) : Option (ByteArray × Bool) := (impl_RecordOk.f k a0_0 a0_1 a0_2 a0_3 a0_4 l0_5 a0_6 a0_7).bind fun t402 => (if t402 = true then ((impl_VarText.f k a0_4).bind fun bt403 => ((impl_VarText.f k (l0_5.length : Int)).bind fun bt405 => ((some (([(a0_0) % 256, (a0_1) % 256, (a0_2) % 256, (a0_3) % 256] : List Int) : List Int)).bind fun y407 => (if (strOfNums y407).size + bt403.1.size ≤ 9223372036854775807 then (if ((strOfNums y407) ++ bt403.1).size + bt405.1.size ≤ 9223372036854775807 then (impl_RecordText.l0 k (((strOfNums y407) ++ bt403.1) ++ bt405.1) l0_5 (l0_5.length : Int) 0 a0_0 a0_1 a0_2 a0_3 a0_4 l0_5 a0_6 a0_7) else (none)) else (none))))) else (some ((⟨#[]⟩ : ByteArray), false)))
theorem impl_RecordText.mono_l : ∀ k, (∀ y0 y1 y2 y3 y4 y5 y6 y7 y8 y9 y10 y11, LeO (impl_RecordText.l0 k y0 y1 y2 y3 y4 y5 y6 y7 y8 y9 y10 y11) (impl_RecordText.l0 (k + 1) y0 y1 y2 y3 y4 y5 y6 y7 y8 y9 y10 y11))
  | 0 => fun _ _ _ _ _ _ _ _ _ _ _ _ r h => by simp [impl_RecordText.l0] at h
  | k + 1 => by
    have ih0 := impl_RecordText.mono_l k
    · intro y0 y1 y2 y3 y4 y5 y6 y7 y8 y9 y10 y11
      unfold impl_RecordText.l0
      repeat' first
      | (with_reducible exact ih0 _ _ _ _ _ _ _ _ _ _ _ _)
      | (with_reducible exact impl_RecordOk.mono _ _ _ _ _ _ _ _ _)
      | (with_reducible exact impl_VarText.mono _ _)
      | (with_reducible exact LeO.refl _)
      | (with_reducible exact LeO.none _)
      | (with_reducible refine LeO.ite ?_ ?_)
      | (with_reducible refine LeO.bind ?_ (fun _ => ?_))
      | exact ih0 _ _ _ _ _ _ _ _ _ _ _ _
      | exact impl_RecordOk.mono _ _ _ _ _ _ _ _ _
      | exact impl_VarText.mono _ _
      | exact LeO.none _
      | refine LeO.ite ?_ ?_
      | refine LeO.bind ?_ (fun _ => ?_)
theorem impl_RecordText.mono : ∀ a0 a1 a2 a3 a4 a5 a6 a7 k, LeO (impl_RecordText.f k a0 a1 a2 a3 a4 a5 a6 a7) (impl_RecordText.f (k + 1) a0 a1 a2 a3 a4 a5 a6 a7) := by
  intro a0 a1 a2 a3 a4 a5 a6 a7 k
  have ih0 := impl_RecordText.mono_l k
  unfold impl_RecordText.f
  repeat' first
      | (with_reducible exact ih0 _ _ _ _ _ _ _ _ _ _ _ _)
      | (with_reducible exact impl_RecordOk.mono _ _ _ _ _ _ _ _ _)
      | (with_reducible exact impl_VarText.mono _ _)
      | (with_reducible exact LeO.refl _)
      | (with_reducible exact LeO.none _)
      | (with_reducible refine LeO.ite ?_ ?_)
      | (with_reducible refine LeO.bind ?_ (fun _ => ?_))
      | exact ih0 _ _ _ _ _ _ _ _ _ _ _ _
      | exact impl_RecordOk.mono _ _ _ _ _ _ _ _ _
      | exact impl_VarText.mono _ _
      | exact LeO.none _
      | refine LeO.ite ?_ ?_
      | refine LeO.bind ?_ (fun _ => ?_)
set_option maxHeartbeats 8000000 in
set_option maxRecDepth 100000 in
theorem impl_RecordText.calls (k : Nat) (a0_0 : Int) (a0_1 : Int) (a0_2 : Int) (a0_3 : Int) (a0_4 : Int) (A0_5 : Option Addr) (c0_5 : Nat) (l0_5 : List (S99)) (a0_6 : Int) (a0_7 : Bool) (r1 : ByteArray) (r2 : Bool) (w : World) (hr0_5 : Kd.C k99 w A0_5 l0_5.length l0_5) (hc0_5 : l0_5.length ≤ c0_5) (h : impl_RecordText.f k a0_0 a0_1 a0_2 a0_3 a0_4 l0_5 a0_6 a0_7 = some (r1, r2)) :
    Calls Try.prog 29 #[.agg #[.int .i64 a0_0, .int .i64 a0_1, .int .i64 a0_2, .int .i64 a0_3, .int .i64 a0_4, .slice A0_5 l0_5.length c0_5, .int .i64 a0_6, .bool a0_7]] w fun e w' => e = .returned (.tuple #[.string r1, .bool r2]) ∧ Below w.heap.size w w' := by
  have hu52 := Try.underlying52
  have hu99 := Try.underlying99
  have HR0_5 := Aside0.mk hr0_5
  have HC0_5 := Aside0.mk hc0_5
  clear hr0_5 hc0_5
  have HB := Aside0.mk (Below.refl w.heap.size w)
  have H : ((impl_RecordOk.f k a0_0 a0_1 a0_2 a0_3 a0_4 l0_5 a0_6 a0_7).bind fun t402 => (if t402 = true then ((impl_VarText.f k a0_4).bind fun bt403 => ((impl_VarText.f k (l0_5.length : Int)).bind fun bt405 => ((some (([(a0_0) % 256, (a0_1) % 256, (a0_2) % 256, (a0_3) % 256] : List Int) : List Int)).bind fun y407 => (if (strOfNums y407).size + bt403.1.size ≤ 9223372036854775807 then (if ((strOfNums y407) ++ bt403.1).size + bt405.1.size ≤ 9223372036854775807 then (impl_RecordText.l0 k (((strOfNums y407) ++ bt403.1) ++ bt405.1) l0_5 (l0_5.length : Int) 0 a0_0 a0_1 a0_2 a0_3 a0_4 l0_5 a0_6 a0_7) else (none)) else (none))))) else (some ((⟨#[]⟩ : ByteArray), false)))) = some (r1, r2) := h
  clear h
  replace H := Option.bind_eq_some_iff.mp H
  obtain ⟨t402, A20, H⟩ := H
  replace H : (if t402 = true then ((impl_VarText.f k a0_4).bind fun bt403 => ((impl_VarText.f k (l0_5.length : Int)).bind fun bt405 => ((some (([(a0_0) % 256, (a0_1) % 256, (a0_2) % 256, (a0_3) % 256] : List Int) : List Int)).bind fun y407 => (if (strOfNums y407).size + bt403.1.size ≤ 9223372036854775807 then (if ((strOfNums y407) ++ bt403.1).size + bt405.1.size ≤ 9223372036854775807 then (impl_RecordText.l0 k (((strOfNums y407) ++ bt403.1) ++ bt405.1) l0_5 (l0_5.length : Int) 0 a0_0 a0_1 a0_2 a0_3 a0_4 l0_5 a0_6 a0_7) else (none)) else (none))))) else (some ((⟨#[]⟩ : ByteArray), false))) = some (r1, r2) := H
  have A2 := Aside0.mk A20
  clear A20
  by_cases c3 : t402 = true
  · subst c3
    have H1 : ((impl_VarText.f k a0_4).bind fun bt403 => ((impl_VarText.f k (l0_5.length : Int)).bind fun bt405 => ((some (([(a0_0) % 256, (a0_1) % 256, (a0_2) % 256, (a0_3) % 256] : List Int) : List Int)).bind fun y407 => (if (strOfNums y407).size + bt403.1.size ≤ 9223372036854775807 then (if ((strOfNums y407) ++ bt403.1).size + bt405.1.size ≤ 9223372036854775807 then (impl_RecordText.l0 k (((strOfNums y407) ++ bt403.1) ++ bt405.1) l0_5 (l0_5.length : Int) 0 a0_0 a0_1 a0_2 a0_3 a0_4 l0_5 a0_6 a0_7) else (none)) else (none))))) = some (r1, r2) := by rw [if_pos rfl] at H; exact H
    clear H
    have H := H1
    clear H1
    replace H := Option.bind_eq_some_iff.mp H
    obtain ⟨⟨t403, t404⟩, A40, H⟩ := H
    replace H : ((impl_VarText.f k (l0_5.length : Int)).bind fun bt405 => ((some (([(a0_0) % 256, (a0_1) % 256, (a0_2) % 256, (a0_3) % 256] : List Int) : List Int)).bind fun y407 => (if (strOfNums y407).size + t403.size ≤ 9223372036854775807 then (if ((strOfNums y407) ++ t403).size + bt405.1.size ≤ 9223372036854775807 then (impl_RecordText.l0 k (((strOfNums y407) ++ t403) ++ bt405.1) l0_5 (l0_5.length : Int) 0 a0_0 a0_1 a0_2 a0_3 a0_4 l0_5 a0_6 a0_7) else (none)) else (none)))) = some (r1, r2) := H
    have A4 := Aside0.mk A40
    clear A40
    replace H := Option.bind_eq_some_iff.mp H
    obtain ⟨⟨t405, t406⟩, A50, H⟩ := H
    replace H : ((some (([(a0_0) % 256, (a0_1) % 256, (a0_2) % 256, (a0_3) % 256] : List Int) : List Int)).bind fun y407 => (if (strOfNums y407).size + t403.size ≤ 9223372036854775807 then (if ((strOfNums y407) ++ t403).size + t405.size ≤ 9223372036854775807 then (impl_RecordText.l0 k (((strOfNums y407) ++ t403) ++ t405) l0_5 (l0_5.length : Int) 0 a0_0 a0_1 a0_2 a0_3 a0_4 l0_5 a0_6 a0_7) else (none)) else (none))) = some (r1, r2) := H
    have A5 := Aside0.mk A50
    clear A50
    obtain ⟨y407, hy407⟩ : ∃ y_ : List Int, y_ = (([(a0_0) % 256, (a0_1) % 256, (a0_2) % 256, (a0_3) % 256] : List Int)) := ⟨_, rfl⟩
    replace H : (if (strOfNums y407).size + t403.size ≤ 9223372036854775807 then (if ((strOfNums y407) ++ t403).size + t405.size ≤ 9223372036854775807 then (impl_RecordText.l0 k (((strOfNums y407) ++ t403) ++ t405) l0_5 (l0_5.length : Int) 0 a0_0 a0_1 a0_2 a0_3 a0_4 l0_5 a0_6 a0_7) else (none)) else (none)) = some (r1, r2) := by first | (rw [hy407]; with_reducible exact H) | (have H2_ := (Option.bind_some _ _).symm.trans H; rw [hy407]; with_reducible exact H2_) | (have H2_ := (Option.bind_some _ _).symm.trans H; with_reducible exact H2_) | with_reducible exact H | (rw [hy407]; exact H) | exact H
    have Ny407 := Aside0.mk hy407
    clear hy407
    by_cases c6 : (strOfNums y407).size + t403.size ≤ 9223372036854775807
    · rw [if_pos c6] at H
      have c6b0 := eq_true c6
      have c6b1 : decide ((strOfNums y407).size + t403.size ≤ 9223372036854775807) = true := decide_eq_true c6
      try have c6b2 : (9223372036854775807 < (strOfNums y407).size + t403.size) = False := eq_false (Nat.not_lt.2 c6)
      try (have c6b3 := c6b2; simp only [ByteArray.size_append] at c6b3)
      by_cases c7 : ((strOfNums y407) ++ t403).size + t405.size ≤ 9223372036854775807
      · rw [if_pos c7] at H
        have c7b0 := eq_true c7
        have c7b1 : decide (((strOfNums y407) ++ t403).size + t405.size ≤ 9223372036854775807) = true := decide_eq_true c7
        try have c7b2 : (9223372036854775807 < ((strOfNums y407) ++ t403).size + t405.size) = False := eq_false (Nat.not_lt.2 c7)
        try (have c7b3 := c7b2; simp only [ByteArray.size_append] at c7b3)
        have H' := Aside0.mk H
        clear H
        go_enter Try.func29, Try.ntmps29
        go_wp2_with (first | ((with_reducible refine gate_dst (N := 1) rfl ?_); refine box_event ?hg (N := 1) ?hd (cs := #[.int .i64 a0_0, .int .i64 a0_1, .int .i64 a0_2, .int .i64 a0_3, .int .i64 a0_4, .slice A0_5 l0_5.length c0_5, .int .i64 a0_6, .bool a0_7]) (t := 52) ?hr ?_; (case hd => rfl); (case hg => rfl); (case hr => first | (go_simp; done) | (go_simp; rfl)); intro gb401 hg w8 hbox hb; have n0_ := Aside0.mk (below_step (by repeat (first | (with_reducible first | exact HB.out | apply below_alloc | apply pw_below_drewN | apply below_drew1) | exact HB.out)) hb); have n1_ := Aside0.mk (hbox); have n2_ := Aside0.mk ((by rw [hg]; exact (below_size (by repeat (first | (with_reducible first | exact HB.out | apply below_alloc | apply pw_below_drewN | apply below_drew1) | exact HB.out))) : w.heap.size ≤ gb401)); have n3_ := Aside0.mk ((by rw [hg]; exact (below_size (by repeat (first | (with_reducible first | exact HB.out | apply below_alloc | apply pw_below_drewN | apply below_drew1) | exact HB.out))) : w.heap.size ≤ gb401)); clear HB; have HB := n0_; have BK401 := n1_; have GW401 := n2_; have GE401 := n3_; clear n0_ n1_ n2_ n3_; clear hb hbox hg; have hcz9_0 : w8.cell? ⟨gb401, 0, none⟩ = some (.int .i64 a0_0) := (blk_cell BK401.out 0).trans rfl; have hcz9_1 : w8.cell? ⟨gb401, 1, none⟩ = some (.int .i64 a0_1) := (blk_cell BK401.out 1).trans rfl; have hcz9_2 : w8.cell? ⟨gb401, 2, none⟩ = some (.int .i64 a0_2) := (blk_cell BK401.out 2).trans rfl; have hcz9_3 : w8.cell? ⟨gb401, 3, none⟩ = some (.int .i64 a0_3) := (blk_cell BK401.out 3).trans rfl; have hcz9_4 : w8.cell? ⟨gb401, 4, none⟩ = some (.int .i64 a0_4) := (blk_cell BK401.out 4).trans rfl; have hcz9_5 : w8.cell? ⟨gb401, 5, none⟩ = some (.slice A0_5 l0_5.length c0_5) := (blk_cell BK401.out 5).trans rfl; have hcz9_6 : w8.cell? ⟨gb401, 6, none⟩ = some (.int .i64 a0_6) := (blk_cell BK401.out 6).trans rfl; have hcz9_7 : w8.cell? ⟨gb401, 7, none⟩ = some (.bool a0_7) := (blk_cell BK401.out 7).trans rfl; have hfz9_0 := blk_frozen BK401.out 0; have hfz9_1 := blk_frozen BK401.out 1; have hfz9_2 := blk_frozen BK401.out 2; have hfz9_3 := blk_frozen BK401.out 3; have hfz9_4 := blk_frozen BK401.out 4; have hfz9_5 := blk_frozen BK401.out 5; have hfz9_6 := blk_frozen BK401.out 6; have hfz9_7 := blk_frozen BK401.out 7) | ((with_reducible refine gate_callee (f := 80) rfl ?_); refine goesL_ (some 17) rfl rfl Try.func80 (by kernel_rfl) rfl #[.agg #[.int .i64 a0_0, .int .i64 a0_1, .int .i64 a0_2, .int .i64 a0_3, .int .i64 a0_4, .slice A0_5 l0_5.length c0_5, .int .i64 a0_6, .bool a0_7]] rfl (by (try simp only [List.map_toArray, List.map_cons, List.map_nil]); first | done | rfl | (simp only [List.length_drop, List.length_take]; rfl)) ?_; (with_reducible refine (impl_RecordOk.calls k a0_0 a0_1 a0_2 a0_3 a0_4 _ _ l0_5 a0_6 a0_7 true _ ?side1 ?side2 A2.out).mono ?_); (case side1 => repeat (first | exact (Kd.C_below HR0_5.out HB.out) | (with_reducible refine Kd.C_alloc ?_ _) | (with_reducible refine Kd.C_drewN ?_ _) | (with_reducible refine Kd.C_drew ?_))); (case side2 => exact HC0_5.out); rintro e w10 ⟨rfl, hb⟩; refine ⟨_, rfl, ?_⟩; have n0_ := Aside0.mk (blk_below (g := gb401) (o := .cells #[.int .i64 a0_0, .int .i64 a0_1, .int .i64 a0_2, .int .i64 a0_3, .int .i64 a0_4, .slice A0_5 l0_5.length c0_5, .int .i64 a0_6, .bool a0_7] 52 (0, 0)) (by (with_reducible repeat (first | refine blk_drewN ?_ _ | refine blk_drew ?_ | refine blk_alloc ?_ _)); exact BK401.out) hb); have n1_ := Aside0.mk (below_step (by repeat (first | (with_reducible first | exact HB.out | apply below_alloc | apply pw_below_drewN | apply below_drew1 | refine below_set ?_ GE401.out) | exact HB.out)) hb); clear BK401; clear HB; have BK401 := n0_; have HB := n1_; clear n0_ n1_; (try clear hb); (try clear hb2); (try clear hk); (try clear hi); have hcz11_0 : w10.cell? ⟨gb401, 0, none⟩ = some (.int .i64 a0_0) := (blk_cell BK401.out 0).trans rfl; have hcz11_1 : w10.cell? ⟨gb401, 1, none⟩ = some (.int .i64 a0_1) := (blk_cell BK401.out 1).trans rfl; have hcz11_2 : w10.cell? ⟨gb401, 2, none⟩ = some (.int .i64 a0_2) := (blk_cell BK401.out 2).trans rfl; have hcz11_3 : w10.cell? ⟨gb401, 3, none⟩ = some (.int .i64 a0_3) := (blk_cell BK401.out 3).trans rfl; have hcz11_4 : w10.cell? ⟨gb401, 4, none⟩ = some (.int .i64 a0_4) := (blk_cell BK401.out 4).trans rfl; have hcz11_5 : w10.cell? ⟨gb401, 5, none⟩ = some (.slice A0_5 l0_5.length c0_5) := (blk_cell BK401.out 5).trans rfl; have hcz11_6 : w10.cell? ⟨gb401, 6, none⟩ = some (.int .i64 a0_6) := (blk_cell BK401.out 6).trans rfl; have hcz11_7 : w10.cell? ⟨gb401, 7, none⟩ = some (.bool a0_7) := (blk_cell BK401.out 7).trans rfl; have hfz11_0 := blk_frozen BK401.out 0; have hfz11_1 := blk_frozen BK401.out 1; have hfz11_2 := blk_frozen BK401.out 2; have hfz11_3 := blk_frozen BK401.out 3; have hfz11_4 := blk_frozen BK401.out 4; have hfz11_5 := blk_frozen BK401.out 5; have hfz11_6 := blk_frozen BK401.out 6; have hfz11_7 := blk_frozen BK401.out 7) | ((with_reducible refine gate_callee (f := 81) rfl ?_); refine goesL_ (some 22) rfl rfl Try.func81 (by kernel_rfl) rfl #[.int .i64 a0_4] rfl (by (try simp only [List.map_toArray, List.map_cons, List.map_nil]); first | done | rfl | (simp only [List.length_drop, List.length_take]; rfl)) ?_; (with_reducible refine (impl_VarText.calls k a0_4 t403 t404 _ A4.out).mono ?_); rintro e w12 ⟨rfl, hb⟩; refine ⟨_, rfl, ?_⟩; have n0_ := Aside0.mk (blk_below (g := gb401) (o := .cells #[.int .i64 a0_0, .int .i64 a0_1, .int .i64 a0_2, .int .i64 a0_3, .int .i64 a0_4, .slice A0_5 l0_5.length c0_5, .int .i64 a0_6, .bool a0_7] 52 (0, 0)) (by (with_reducible repeat (first | refine blk_drewN ?_ _ | refine blk_drew ?_ | refine blk_alloc ?_ _)); exact BK401.out) hb); have n1_ := Aside0.mk (below_step (by repeat (first | (with_reducible first | exact HB.out | apply below_alloc | apply pw_below_drewN | apply below_drew1 | refine below_set ?_ GE401.out) | exact HB.out)) hb); clear BK401; clear HB; have BK401 := n0_; have HB := n1_; clear n0_ n1_; (try clear hb); (try clear hb2); (try clear hk); (try clear hi); have hcz13_0 : w12.cell? ⟨gb401, 0, none⟩ = some (.int .i64 a0_0) := (blk_cell BK401.out 0).trans rfl; have hcz13_1 : w12.cell? ⟨gb401, 1, none⟩ = some (.int .i64 a0_1) := (blk_cell BK401.out 1).trans rfl; have hcz13_2 : w12.cell? ⟨gb401, 2, none⟩ = some (.int .i64 a0_2) := (blk_cell BK401.out 2).trans rfl; have hcz13_3 : w12.cell? ⟨gb401, 3, none⟩ = some (.int .i64 a0_3) := (blk_cell BK401.out 3).trans rfl; have hcz13_4 : w12.cell? ⟨gb401, 4, none⟩ = some (.int .i64 a0_4) := (blk_cell BK401.out 4).trans rfl; have hcz13_5 : w12.cell? ⟨gb401, 5, none⟩ = some (.slice A0_5 l0_5.length c0_5) := (blk_cell BK401.out 5).trans rfl; have hcz13_6 : w12.cell? ⟨gb401, 6, none⟩ = some (.int .i64 a0_6) := (blk_cell BK401.out 6).trans rfl; have hcz13_7 : w12.cell? ⟨gb401, 7, none⟩ = some (.bool a0_7) := (blk_cell BK401.out 7).trans rfl; have hfz13_0 := blk_frozen BK401.out 0; have hfz13_1 := blk_frozen BK401.out 1; have hfz13_2 := blk_frozen BK401.out 2; have hfz13_3 := blk_frozen BK401.out 3; have hfz13_4 := blk_frozen BK401.out 4; have hfz13_5 := blk_frozen BK401.out 5; have hfz13_6 := blk_frozen BK401.out 6; have hfz13_7 := blk_frozen BK401.out 7) | ((with_reducible refine gate_callee (f := 81) rfl ?_); refine goesL_ (some 29) rfl rfl Try.func81 (by kernel_rfl) rfl #[.int .i64 (l0_5.length : Int)] rfl (by (try simp only [List.map_toArray, List.map_cons, List.map_nil]); first | done | rfl | (simp only [List.length_drop, List.length_take]; rfl)) ?_; (with_reducible refine (impl_VarText.calls k (l0_5.length : Int) t405 t406 _ A5.out).mono ?_); rintro e w14 ⟨rfl, hb⟩; refine ⟨_, rfl, ?_⟩; have n0_ := Aside0.mk (blk_below (g := gb401) (o := .cells #[.int .i64 a0_0, .int .i64 a0_1, .int .i64 a0_2, .int .i64 a0_3, .int .i64 a0_4, .slice A0_5 l0_5.length c0_5, .int .i64 a0_6, .bool a0_7] 52 (0, 0)) (by (with_reducible repeat (first | refine blk_drewN ?_ _ | refine blk_drew ?_ | refine blk_alloc ?_ _)); exact BK401.out) hb); have n1_ := Aside0.mk (below_step (by repeat (first | (with_reducible first | exact HB.out | apply below_alloc | apply pw_below_drewN | apply below_drew1 | refine below_set ?_ GE401.out) | exact HB.out)) hb); clear BK401; clear HB; have BK401 := n0_; have HB := n1_; clear n0_ n1_; (try clear hb); (try clear hb2); (try clear hk); (try clear hi); have hcz15_0 : w14.cell? ⟨gb401, 0, none⟩ = some (.int .i64 a0_0) := (blk_cell BK401.out 0).trans rfl; have hcz15_1 : w14.cell? ⟨gb401, 1, none⟩ = some (.int .i64 a0_1) := (blk_cell BK401.out 1).trans rfl; have hcz15_2 : w14.cell? ⟨gb401, 2, none⟩ = some (.int .i64 a0_2) := (blk_cell BK401.out 2).trans rfl; have hcz15_3 : w14.cell? ⟨gb401, 3, none⟩ = some (.int .i64 a0_3) := (blk_cell BK401.out 3).trans rfl; have hcz15_4 : w14.cell? ⟨gb401, 4, none⟩ = some (.int .i64 a0_4) := (blk_cell BK401.out 4).trans rfl; have hcz15_5 : w14.cell? ⟨gb401, 5, none⟩ = some (.slice A0_5 l0_5.length c0_5) := (blk_cell BK401.out 5).trans rfl; have hcz15_6 : w14.cell? ⟨gb401, 6, none⟩ = some (.int .i64 a0_6) := (blk_cell BK401.out 6).trans rfl; have hcz15_7 : w14.cell? ⟨gb401, 7, none⟩ = some (.bool a0_7) := (blk_cell BK401.out 7).trans rfl; have hfz15_0 := blk_frozen BK401.out 0; have hfz15_1 := blk_frozen BK401.out 1; have hfz15_2 := blk_frozen BK401.out 2; have hfz15_3 := blk_frozen BK401.out 3; have hfz15_4 := blk_frozen BK401.out 4; have hfz15_5 := blk_frozen BK401.out 5; have hfz15_6 := blk_frozen BK401.out 6; have hfz15_7 := blk_frozen BK401.out 7) | ((with_reducible refine gate_dst (N := 44) rfl ?_); refine Kd.R_lit (Kd.int .u8) _ 5 ?hg (N := 44) ?hd (xs := ([(a0_0) % 256, (a0_1) % 256, (a0_2) % 256, (a0_3) % 256] : List Int)) (inner := [.int .u8 ((a0_0) % 256), .int .u8 ((a0_1) % 256), .int .u8 ((a0_2) % 256), .int .u8 ((a0_3) % 256)]) (ok := fun _ => True) (okp := fun _ => True) ?hr ?hp (fun _ hk => hk) trivial (Below.refl _ _) (Nat.le_refl _) (by simp) ?_; (case hd => rfl); (case hg => rfl); (case hr => first | (go_simp; done) | (go_simp; rfl)); (case hp => exact (Reps.one (show Kd.M (Kd.int .u8) _ _ _ ((a0_0) % 256) [.int .u8 ((a0_0) % 256)] from rfl) (Reps.one (show Kd.M (Kd.int .u8) _ _ _ ((a0_1) % 256) [.int .u8 ((a0_1) % 256)] from rfl) (Reps.one (show Kd.M (Kd.int .u8) _ _ _ ((a0_2) % 256) [.int .u8 ((a0_2) % 256)] from rfl) (Reps.one (show Kd.M (Kd.int .u8) _ _ _ ((a0_3) % 256) [.int .u8 ((a0_3) % 256)] from rfl) (Reps.none _ _)))))); intro v408 w16 ho17 hb hg_ hnew_; clear hg_ hnew_; (first | rw [← Ny407.out] at ho17 | (simp only [Int.reduceToNat] at ho17; rw [← Ny407.out] at ho17)); have n0_ := Aside0.mk (Kd.R_lower ho17 (below_size (by repeat (first | (with_reducible first | exact HB.out | apply below_alloc | apply pw_below_drewN | apply below_drew1 | refine below_set ?_ GE401.out) | exact HB.out)))); have n1_ := Aside0.mk (blk_below (g := gb401) (o := .cells #[.int .i64 a0_0, .int .i64 a0_1, .int .i64 a0_2, .int .i64 a0_3, .int .i64 a0_4, .slice A0_5 l0_5.length c0_5, .int .i64 a0_6, .bool a0_7] 52 (0, 0)) (by (with_reducible repeat (first | refine blk_drewN ?_ _ | refine blk_drew ?_ | refine blk_alloc ?_ _)); exact BK401.out) hb); have n2_ := Aside0.mk (below_step (by repeat (first | (with_reducible first | exact HB.out | apply below_alloc | apply pw_below_drewN | apply below_drew1 | refine below_set ?_ GE401.out) | exact HB.out)) hb); clear BK401; clear HB; have HO409 := n0_; have BK401 := n1_; have HB := n2_; clear n0_ n1_ n2_; clear hb ho17; have hcv18 := own_string (P := Try.prog) Try.underlying56 Try.underlying5 Try.underlying9 (Kd.own_of_R HO409.out); have hcz19_0 : w16.cell? ⟨gb401, 0, none⟩ = some (.int .i64 a0_0) := (blk_cell BK401.out 0).trans rfl; have hcz19_1 : w16.cell? ⟨gb401, 1, none⟩ = some (.int .i64 a0_1) := (blk_cell BK401.out 1).trans rfl; have hcz19_2 : w16.cell? ⟨gb401, 2, none⟩ = some (.int .i64 a0_2) := (blk_cell BK401.out 2).trans rfl; have hcz19_3 : w16.cell? ⟨gb401, 3, none⟩ = some (.int .i64 a0_3) := (blk_cell BK401.out 3).trans rfl; have hcz19_4 : w16.cell? ⟨gb401, 4, none⟩ = some (.int .i64 a0_4) := (blk_cell BK401.out 4).trans rfl; have hcz19_5 : w16.cell? ⟨gb401, 5, none⟩ = some (.slice A0_5 l0_5.length c0_5) := (blk_cell BK401.out 5).trans rfl; have hcz19_6 : w16.cell? ⟨gb401, 6, none⟩ = some (.int .i64 a0_6) := (blk_cell BK401.out 6).trans rfl; have hcz19_7 : w16.cell? ⟨gb401, 7, none⟩ = some (.bool a0_7) := (blk_cell BK401.out 7).trans rfl; have hfz19_0 := blk_frozen BK401.out 0; have hfz19_1 := blk_frozen BK401.out 1; have hfz19_2 := blk_frozen BK401.out 2; have hfz19_3 := blk_frozen BK401.out 3; have hfz19_4 := blk_frozen BK401.out 4; have hfz19_5 := blk_frozen BK401.out 5; have hfz19_6 := blk_frozen BK401.out 6; have hfz19_7 := blk_frozen BK401.out 7))
        go_loopg [8, 53] k (fun kq v8 v53 w' => ∃ (x8_1 : ByteArray) (x53_1 : Int), v8 = .string x8_1 ∧ v53 = .int .i64 x53_1 ∧ Aside0 (impl_RecordText.l0 kq x8_1 l0_5 (l0_5.length : Int) x53_1 a0_0 a0_1 a0_2 a0_3 a0_4 l0_5 a0_6 a0_7 = some (r1, r2)) ∧ Aside0 (kq ≤ k) ∧ Aside0 (w'.heap[gb401]? = some (.cells #[.int .i64 a0_0, .int .i64 a0_1, .int .i64 a0_2, .int .i64 a0_3, .int .i64 a0_4, (.slice A0_5 l0_5.length c0_5), .int .i64 a0_6, .bool a0_7] 52 (0, 0))) ∧ Aside0 (Below w.heap.size w w'))
        case atStart => exact ⟨(((strOfNums y407) ++ t403) ++ t405), (0), (by first | rfl | (simp; done) | (simp [*]; done)), (by first | rfl | (simp; done) | (simp [*]; done)), H', ⟨Nat.le_refl _⟩, ⟨by (with_reducible repeat (first | refine blk_drewN ?_ _ | refine blk_drew ?_ | refine blk_alloc ?_ _)); exact BK401.out⟩, ⟨by repeat (first | (with_reducible first | exact HB.out | apply below_alloc | apply pw_below_drewN | apply below_drew1 | refine below_set ?_ GE401.out) | exact HB.out)⟩⟩
        case round =>
          clear H'
          try clear hcv1
          try clear c2
          try clear p2
          try clear c3
          try clear c6
          try clear c6b0
          try clear c6b1
          try clear c6b2
          try clear c7
          try clear c7b0
          try clear c7b1
          try clear c7b2
          try clear c8
          try clear hcv18
          try clear hcz11_0
          try clear hcz11_1
          try clear hcz11_2
          try clear hcz11_3
          try clear hcz11_4
          try clear hcz11_5
          try clear hcz11_6
          try clear hcz11_7
          try clear hcz13_0
          try clear hcz13_1
          try clear hcz13_2
          try clear hcz13_3
          try clear hcz13_4
          try clear hcz13_5
          try clear hcz13_6
          try clear hcz13_7
          try clear hcz15_0
          try clear hcz15_1
          try clear hcz15_2
          try clear hcz15_3
          try clear hcz15_4
          try clear hcz15_5
          try clear hcz15_6
          try clear hcz15_7
          try clear hcz19_0
          try clear hcz19_1
          try clear hcz19_2
          try clear hcz19_3
          try clear hcz19_4
          try clear hcz19_5
          try clear hcz19_6
          try clear hcz19_7
          try clear hcz9_0
          try clear hcz9_1
          try clear hcz9_2
          try clear hcz9_3
          try clear hcz9_4
          try clear hcz9_5
          try clear hcz9_6
          try clear hcz9_7
          try clear hfz11_0
          try clear hfz11_1
          try clear hfz11_2
          try clear hfz11_3
          try clear hfz11_4
          try clear hfz11_5
          try clear hfz11_6
          try clear hfz11_7
          try clear hfz13_0
          try clear hfz13_1
          try clear hfz13_2
          try clear hfz13_3
          try clear hfz13_4
          try clear hfz13_5
          try clear hfz13_6
          try clear hfz13_7
          try clear hfz15_0
          try clear hfz15_1
          try clear hfz15_2
          try clear hfz15_3
          try clear hfz15_4
          try clear hfz15_5
          try clear hfz15_6
          try clear hfz15_7
          try clear hfz19_0
          try clear hfz19_1
          try clear hfz19_2
          try clear hfz19_3
          try clear hfz19_4
          try clear hfz19_5
          try clear hfz19_6
          try clear hfz19_7
          try clear hfz9_0
          try clear hfz9_1
          try clear hfz9_2
          try clear hfz9_3
          try clear hfz9_4
          try clear hfz9_5
          try clear hfz9_6
          try clear hfz9_7
          obtain ⟨x8_1, x53_1, rfl, rfl, HA, HK1, BK401, HB⟩ := hrel
          cases gk with
          | zero => exact absurd HA.out (by simp [impl_RecordText.l0])
          | succ k1 =>
            have H := HA.out
            clear HA
            simp only [impl_RecordText.l0] at H
            by_cases c20 : x53_1 < (l0_5.length : Int)
            · rw [if_pos c20] at H
              have c20b0 : decide (x53_1 < (l0_5.length : Int)) = true := decide_eq_true c20
              clear c20
              by_cases c21 : 0 ≤ x53_1
              · rw [if_pos c21] at H
                have c21b0 : decide (0 ≤ x53_1) = true := decide_eq_true c21
                clear c21
                by_cases c22 : x53_1 < (l0_5.length : Int)
                · rw [if_pos c22] at H
                  have c22b0 : decide (x53_1 < (l0_5.length : Int)) = true := decide_eq_true c22
                  clear c22
                  replace H := Option.bind_eq_some_iff.mp H
                  obtain ⟨⟨t412, t413⟩, A230, H⟩ := H
                  replace H : ((some (([((rd_T99 l0_5 x53_1).f0) % 256] : List Int) : List Int)).bind fun y414 => (if (strOfNums y414).size + t412.size ≤ 9223372036854775807 then (if x8_1.size + ((strOfNums y414) ++ t412).size ≤ 9223372036854775807 then (impl_RecordText.l0 k1 (x8_1 ++ ((strOfNums y414) ++ t412)) l0_5 (l0_5.length : Int) (wrap64 (x53_1 + 1)) a0_0 a0_1 a0_2 a0_3 a0_4 l0_5 a0_6 a0_7) else (none)) else (none))) = some (r1, r2) := H
                  have A23 := Aside0.mk A230
                  clear A230
                  obtain ⟨y414, hy414⟩ : ∃ y_ : List Int, y_ = (([((rd_T99 l0_5 x53_1).f0) % 256] : List Int)) := ⟨_, rfl⟩
                  replace H : (if (strOfNums y414).size + t412.size ≤ 9223372036854775807 then (if x8_1.size + ((strOfNums y414) ++ t412).size ≤ 9223372036854775807 then (impl_RecordText.l0 k1 (x8_1 ++ ((strOfNums y414) ++ t412)) l0_5 (l0_5.length : Int) (wrap64 (x53_1 + 1)) a0_0 a0_1 a0_2 a0_3 a0_4 l0_5 a0_6 a0_7) else (none)) else (none)) = some (r1, r2) := by first | (rw [hy414]; with_reducible exact H) | (have H2_ := (Option.bind_some _ _).symm.trans H; rw [hy414]; with_reducible exact H2_) | (have H2_ := (Option.bind_some _ _).symm.trans H; with_reducible exact H2_) | with_reducible exact H | (rw [hy414]; exact H) | exact H
                  have Ny414 := Aside0.mk hy414
                  clear hy414
                  by_cases c24 : (strOfNums y414).size + t412.size ≤ 9223372036854775807
                  · rw [if_pos c24] at H
                    have c24b0 := eq_true c24
                    have c24b1 : decide ((strOfNums y414).size + t412.size ≤ 9223372036854775807) = true := decide_eq_true c24
                    try have c24b2 : (9223372036854775807 < (strOfNums y414).size + t412.size) = False := eq_false (Nat.not_lt.2 c24)
                    try (have c24b3 := c24b2; simp only [ByteArray.size_append] at c24b3)
                    by_cases c25 : x8_1.size + ((strOfNums y414) ++ t412).size ≤ 9223372036854775807
                    · rw [if_pos c25] at H
                      have c25b0 := eq_true c25
                      have c25b1 : decide (x8_1.size + ((strOfNums y414) ++ t412).size ≤ 9223372036854775807) = true := decide_eq_true c25
                      try have c25b2 : (9223372036854775807 < x8_1.size + ((strOfNums y414) ++ t412).size) = False := eq_false (Nat.not_lt.2 c25)
                      try (have c25b3 := c25b2; simp only [ByteArray.size_append] at c25b3)
                      have H' := Aside0.mk H
                      clear H
                      have p410 : 0 ≤ (x53_1 : Int) := of_decide_eq_true (by first | (with_reducible assumption) | assumption)
                      have q410 : x53_1 < (l0_5.length : Int) := of_decide_eq_true (by first | (with_reducible assumption) | assumption)
                      obtain ⟨ad410, e410, hx410_0, hx410_1⟩ := at_T99 HR0_5.out x53_1 p410 q410
                      cases e410
                      replace hx410_0 := (HB.out.cell (World.block_lt_of_cell? w _ hx410_0)).trans hx410_0
                      replace hx410_1 := (HB.out.cell (World.block_lt_of_cell? w _ hx410_1)).trans hx410_1
                      replace p410 := eq_true p410
                      replace q410 := eq_true q410
                      go_wp2_with (first | ((with_reducible refine gate_dst (N := 10) rfl ?_); refine box_event ?hg (N := 10) ?hd (cs := #[.int .i64 0, .int .i64 0]) (t := 99) ?hr ?_; (case hd => rfl); (case hg => rfl); (case hr => first | (go_simp; done) | (go_simp; rfl)); intro gb411 hg w26 hbox hb; have n0_ := Aside0.mk (blk_below (g := gb401) (o := .cells #[.int .i64 a0_0, .int .i64 a0_1, .int .i64 a0_2, .int .i64 a0_3, .int .i64 a0_4, .slice (some ad410) l0_5.length c0_5, .int .i64 a0_6, .bool a0_7] 52 (0, 0)) (by (with_reducible repeat (first | refine blk_drewN ?_ _ | refine blk_drew ?_ | refine blk_alloc ?_ _)); exact BK401.out) hb); have n1_ := Aside0.mk (below_step (by repeat (first | (with_reducible first | exact HB.out | apply below_alloc | apply pw_below_drewN | apply below_drew1 | refine below_set ?_ GE401.out) | exact HB.out)) hb); have n2_ := Aside0.mk (hbox); have n3_ := Aside0.mk ((by rw [hg]; exact (below_size (by repeat (first | (with_reducible first | exact HB.out | apply below_alloc | apply pw_below_drewN | apply below_drew1 | refine below_set ?_ GE401.out) | exact HB.out))) : w.heap.size ≤ gb411)); have n4_ := Aside0.mk ((by rw [hg]; exact (below_size (by repeat (first | (with_reducible first | exact HB.out | apply below_alloc | apply pw_below_drewN | apply below_drew1 | refine below_set ?_ GE401.out) | exact HB.out))) : w.heap.size ≤ gb411)); have n5_ := Aside0.mk ((by rw [hg]; exact Nat.ne_of_lt (blk_lt (g := gb401) (o := .cells #[.int .i64 a0_0, .int .i64 a0_1, .int .i64 a0_2, .int .i64 a0_3, .int .i64 a0_4, .slice (some ad410) l0_5.length c0_5, .int .i64 a0_6, .bool a0_7] 52 (0, 0)) (by (with_reducible repeat (first | refine blk_drewN ?_ _ | refine blk_drew ?_ | refine blk_alloc ?_ _)); exact BK401.out)) : gb401 ≠ gb411)); have n6_ := Aside0.mk ((by rw [hg]; exact Nat.ne_of_gt (blk_lt (g := gb401) (o := .cells #[.int .i64 a0_0, .int .i64 a0_1, .int .i64 a0_2, .int .i64 a0_3, .int .i64 a0_4, .slice (some ad410) l0_5.length c0_5, .int .i64 a0_6, .bool a0_7] 52 (0, 0)) (by (with_reducible repeat (first | refine blk_drewN ?_ _ | refine blk_drew ?_ | refine blk_alloc ?_ _)); exact BK401.out)) : gb411 ≠ gb401)); clear BK401; clear HB; have BK401 := n0_; have HB := n1_; have BK411 := n2_; have GW411 := n3_; have GE411 := n4_; have NB401_411 := n5_; have NB411_401 := n6_; clear n0_ n1_ n2_ n3_ n4_ n5_ n6_; clear hb hbox hg; have hnb27 := NB411_401.out; have hnc27 := NB401_411.out; have hcz28_0 : w26.cell? ⟨gb411, 0, none⟩ = some (.int .i64 0) := (blk_cell BK411.out 0).trans rfl; have hcz28_1 : w26.cell? ⟨gb411, 1, none⟩ = some (.int .i64 0) := (blk_cell BK411.out 1).trans rfl; have hfz28_0 := blk_frozen BK411.out 0; have hfz28_1 := blk_frozen BK411.out 1) | ((with_reducible refine gate_callee (f := 81) rfl ?_); refine goesL_ (some 60) rfl rfl Try.func81 (by kernel_rfl) rfl #[.int .i64 ((rd_T99 l0_5 x53_1).f1)] rfl (by (try simp only [List.map_toArray, List.map_cons, List.map_nil]); first | done | rfl | (simp only [List.length_drop, List.length_take]; rfl)) ?_; (with_reducible refine (impl_VarText.calls k1 ((rd_T99 l0_5 x53_1).f1) t412 t413 _ A23.out).mono ?_); rintro e w29 ⟨rfl, hb⟩; refine ⟨_, rfl, ?_⟩; have n0_ := Aside0.mk (blk_below (g := gb401) (o := .cells #[.int .i64 a0_0, .int .i64 a0_1, .int .i64 a0_2, .int .i64 a0_3, .int .i64 a0_4, .slice (some ad410) l0_5.length c0_5, .int .i64 a0_6, .bool a0_7] 52 (0, 0)) (by (with_reducible repeat (first | refine blk_drewN ?_ _ | refine blk_drew ?_ | refine blk_alloc ?_ _)); refine blk_far ?_ NB401_411.out _; (with_reducible repeat (first | refine blk_drewN ?_ _ | refine blk_drew ?_ | refine blk_alloc ?_ _)); refine blk_far ?_ NB401_411.out _; (with_reducible repeat (first | refine blk_drewN ?_ _ | refine blk_drew ?_ | refine blk_alloc ?_ _)); exact BK401.out) hb); have n1_ := Aside0.mk (blk_below (g := gb411) (o := .cells #[.int .i64 ((rd_T99 l0_5 x53_1).f0), .int .i64 ((rd_T99 l0_5 x53_1).f1)] 99 (0, 0)) (by (with_reducible repeat (first | refine blk_drewN ?_ _ | refine blk_drew ?_ | refine blk_alloc ?_ _)); refine blk_put (cs := #[.int .i64 ((rd_T99 l0_5 x53_1).f0), .int .i64 0]) ?_ 1 _ rfl; (with_reducible repeat (first | refine blk_drewN ?_ _ | refine blk_drew ?_ | refine blk_alloc ?_ _)); refine blk_put (cs := #[.int .i64 0, .int .i64 0]) ?_ 0 _ rfl; (with_reducible repeat (first | refine blk_drewN ?_ _ | refine blk_drew ?_ | refine blk_alloc ?_ _)); exact BK411.out) hb); have n2_ := Aside0.mk (below_step (by repeat (first | (with_reducible first | exact HB.out | apply below_alloc | apply pw_below_drewN | apply below_drew1 | refine below_set ?_ GE401.out | refine below_set ?_ GE411.out) | exact HB.out)) hb); clear BK401; clear BK411; clear HB; have BK401 := n0_; have BK411 := n1_; have HB := n2_; clear n0_ n1_ n2_; (try clear hb); (try clear hb2); (try clear hk); (try clear hi); have hcz30_0 : w29.cell? ⟨gb411, 0, none⟩ = some (.int .i64 ((rd_T99 l0_5 x53_1).f0)) := (blk_cell BK411.out 0).trans rfl; have hcz30_1 : w29.cell? ⟨gb411, 1, none⟩ = some (.int .i64 ((rd_T99 l0_5 x53_1).f1)) := (blk_cell BK411.out 1).trans rfl; have hfz30_0 := blk_frozen BK411.out 0; have hfz30_1 := blk_frozen BK411.out 1) | ((with_reducible refine gate_dst (N := 67) rfl ?_); refine Kd.R_lit (Kd.int .u8) _ 5 ?hg (N := 67) ?hd (xs := ([((rd_T99 l0_5 x53_1).f0) % 256] : List Int)) (inner := [.int .u8 (((rd_T99 l0_5 x53_1).f0) % 256)]) (ok := fun _ => True) (okp := fun _ => True) ?hr ?hp (fun _ hk => hk) trivial (Below.refl _ _) (Nat.le_refl _) (by simp) ?_; (case hd => rfl); (case hg => rfl); (case hr => first | (go_simp; done) | (go_simp; rfl)); (case hp => exact (Reps.one (show Kd.M (Kd.int .u8) _ _ _ (((rd_T99 l0_5 x53_1).f0) % 256) [.int .u8 (((rd_T99 l0_5 x53_1).f0) % 256)] from rfl) (Reps.none _ _))); intro v415 w31 ho32 hb hg_ hnew_; clear hg_ hnew_; (first | rw [← Ny414.out] at ho32 | (simp only [Int.reduceToNat] at ho32; rw [← Ny414.out] at ho32)); have n0_ := Aside0.mk (Kd.R_lower ho32 (below_size (by repeat (first | (with_reducible first | exact HB.out | apply below_alloc | apply pw_below_drewN | apply below_drew1 | refine below_set ?_ GE401.out | refine below_set ?_ GE411.out) | exact HB.out)))); have n1_ := Aside0.mk (blk_below (g := gb401) (o := .cells #[.int .i64 a0_0, .int .i64 a0_1, .int .i64 a0_2, .int .i64 a0_3, .int .i64 a0_4, .slice (some ad410) l0_5.length c0_5, .int .i64 a0_6, .bool a0_7] 52 (0, 0)) (by (with_reducible repeat (first | refine blk_drewN ?_ _ | refine blk_drew ?_ | refine blk_alloc ?_ _)); exact BK401.out) hb); have n2_ := Aside0.mk (blk_below (g := gb411) (o := .cells #[.int .i64 ((rd_T99 l0_5 x53_1).f0), .int .i64 ((rd_T99 l0_5 x53_1).f1)] 99 (0, 0)) (by (with_reducible repeat (first | refine blk_drewN ?_ _ | refine blk_drew ?_ | refine blk_alloc ?_ _)); exact BK411.out) hb); have n3_ := Aside0.mk (below_step (by repeat (first | (with_reducible first | exact HB.out | apply below_alloc | apply pw_below_drewN | apply below_drew1 | refine below_set ?_ GE401.out | refine below_set ?_ GE411.out) | exact HB.out)) hb); clear BK401; clear BK411; clear HB; have HO416 := n0_; have BK401 := n1_; have BK411 := n2_; have HB := n3_; clear n0_ n1_ n2_ n3_; clear hb ho32; have hcv33 := own_string (P := Try.prog) Try.underlying56 Try.underlying5 Try.underlying9 (Kd.own_of_R HO416.out)))
                      go_roundg k1
                      case measure => have := HK1.out; omega
                      case rel => exact ⟨(x8_1 ++ ((strOfNums y414) ++ t412)), (wrap64 (x53_1 + 1)), (by first | rfl | (simp; done) | (simp [*]; done)), (by first | rfl | (simp; done) | (simp [*]; done)), H', ⟨by have := HK1.out; omega⟩, ⟨by (with_reducible repeat (first | refine blk_drewN ?_ _ | refine blk_drew ?_ | refine blk_alloc ?_ _)); exact BK401.out⟩, ⟨by repeat (first | (with_reducible first | exact HB.out | apply below_alloc | apply pw_below_drewN | apply below_drew1 | refine below_set ?_ GE401.out | refine below_set ?_ GE411.out) | exact HB.out)⟩⟩
                    · rw [if_neg c25] at H
                      exact absurd H (by simp)
                  · rw [if_neg c24] at H
                    exact absurd H (by simp)
                · rw [if_neg c22] at H
                  exact absurd H (by simp)
              · rw [if_neg c21] at H
                exact absurd H (by simp)
            · rw [if_neg c20] at H
              have c20b0 : decide (x53_1 < (l0_5.length : Int)) = false := decide_eq_false c20
              clear c20
              replace H := Option.bind_eq_some_iff.mp H
              obtain ⟨⟨t417, t418⟩, A340, H⟩ := H
              replace H : (if a0_7 = true then (if x8_1.size + t417.size ≤ 9223372036854775807 then (if (x8_1 ++ t417).size + 1 ≤ 9223372036854775807 then (some ((x8_1 ++ t417) ++ (⟨#[1]⟩ : ByteArray), true)) else (none)) else (none)) else (if x8_1.size + t417.size ≤ 9223372036854775807 then (if (x8_1 ++ t417).size + 1 ≤ 9223372036854775807 then (some ((x8_1 ++ t417) ++ (⟨#[0]⟩ : ByteArray), true)) else (none)) else (none))) = some (r1, r2) := H
              have A34 := Aside0.mk A340
              clear A340
              by_cases c35 : a0_7 = true
              · subst c35
                have H1 : (if x8_1.size + t417.size ≤ 9223372036854775807 then (if (x8_1 ++ t417).size + 1 ≤ 9223372036854775807 then (some ((x8_1 ++ t417) ++ (⟨#[1]⟩ : ByteArray), true)) else (none)) else (none)) = some (r1, r2) := by rw [if_pos rfl] at H; exact H
                clear H
                have H := H1
                clear H1
                by_cases c36 : x8_1.size + t417.size ≤ 9223372036854775807
                · rw [if_pos c36] at H
                  have c36b0 := eq_true c36
                  have c36b1 : decide (x8_1.size + t417.size ≤ 9223372036854775807) = true := decide_eq_true c36
                  try have c36b2 : (9223372036854775807 < x8_1.size + t417.size) = False := eq_false (Nat.not_lt.2 c36)
                  try (have c36b3 := c36b2; simp only [ByteArray.size_append] at c36b3)
                  by_cases c37 : (x8_1 ++ t417).size + 1 ≤ 9223372036854775807
                  · rw [if_pos c37] at H
                    have c37b0 := eq_true c37
                    have c37b1 : decide ((x8_1 ++ t417).size + 1 ≤ 9223372036854775807) = true := decide_eq_true c37
                    try have c37b2 : (9223372036854775807 < (x8_1 ++ t417).size + 1) = False := eq_false (Nat.not_lt.2 c37)
                    try (have c37b3 := c37b2; simp only [ByteArray.size_append] at c37b3)
                    simp only [Option.some.injEq, Prod.mk.injEq] at H
                    obtain ⟨rfl, rfl⟩ := H
                    have hcz38_0 : wr.cell? ⟨gb401, 0, none⟩ = some (.int .i64 a0_0) := (blk_cell BK401.out 0).trans rfl
                    have hcz38_1 : wr.cell? ⟨gb401, 1, none⟩ = some (.int .i64 a0_1) := (blk_cell BK401.out 1).trans rfl
                    have hcz38_2 : wr.cell? ⟨gb401, 2, none⟩ = some (.int .i64 a0_2) := (blk_cell BK401.out 2).trans rfl
                    have hcz38_3 : wr.cell? ⟨gb401, 3, none⟩ = some (.int .i64 a0_3) := (blk_cell BK401.out 3).trans rfl
                    have hcz38_4 : wr.cell? ⟨gb401, 4, none⟩ = some (.int .i64 a0_4) := (blk_cell BK401.out 4).trans rfl
                    have hcz38_5 : wr.cell? ⟨gb401, 5, none⟩ = some (.slice A0_5 l0_5.length c0_5) := (blk_cell BK401.out 5).trans rfl
                    have hcz38_6 : wr.cell? ⟨gb401, 6, none⟩ = some (.int .i64 a0_6) := (blk_cell BK401.out 6).trans rfl
                    have hcz38_7 : wr.cell? ⟨gb401, 7, none⟩ = some (.bool true) := (blk_cell BK401.out 7).trans rfl
                    have hfz38_0 := blk_frozen BK401.out 0
                    have hfz38_1 := blk_frozen BK401.out 1
                    have hfz38_2 := blk_frozen BK401.out 2
                    have hfz38_3 := blk_frozen BK401.out 3
                    have hfz38_4 := blk_frozen BK401.out 4
                    have hfz38_5 := blk_frozen BK401.out 5
                    have hfz38_6 := blk_frozen BK401.out 6
                    have hfz38_7 := blk_frozen BK401.out 7
                    go_wp2_with (first | ((with_reducible refine gate_callee (f := 81) rfl ?_); refine goesL_ (some 76) rfl rfl Try.func81 (by kernel_rfl) rfl #[.int .i64 a0_6] rfl (by (try simp only [List.map_toArray, List.map_cons, List.map_nil]); first | done | rfl | (simp only [List.length_drop, List.length_take]; rfl)) ?_; (with_reducible refine (impl_VarText.calls k1 a0_6 t417 t418 _ A34.out).mono ?_); rintro e w39 ⟨rfl, hb⟩; refine ⟨_, rfl, ?_⟩; have n0_ := Aside0.mk (blk_below (g := gb401) (o := .cells #[.int .i64 a0_0, .int .i64 a0_1, .int .i64 a0_2, .int .i64 a0_3, .int .i64 a0_4, .slice A0_5 l0_5.length c0_5, .int .i64 a0_6, .bool true] 52 (0, 0)) (by (with_reducible repeat (first | refine blk_drewN ?_ _ | refine blk_drew ?_ | refine blk_alloc ?_ _)); exact BK401.out) hb); have n1_ := Aside0.mk (below_step (by repeat (first | (with_reducible first | exact HB.out | apply below_alloc | apply pw_below_drewN | apply below_drew1 | refine below_set ?_ GE401.out) | exact HB.out)) hb); clear BK401; clear HB; have BK401 := n0_; have HB := n1_; clear n0_ n1_; (try clear hb); (try clear hb2); (try clear hk); (try clear hi); have hcz40_0 : w39.cell? ⟨gb401, 0, none⟩ = some (.int .i64 a0_0) := (blk_cell BK401.out 0).trans rfl; have hcz40_1 : w39.cell? ⟨gb401, 1, none⟩ = some (.int .i64 a0_1) := (blk_cell BK401.out 1).trans rfl; have hcz40_2 : w39.cell? ⟨gb401, 2, none⟩ = some (.int .i64 a0_2) := (blk_cell BK401.out 2).trans rfl; have hcz40_3 : w39.cell? ⟨gb401, 3, none⟩ = some (.int .i64 a0_3) := (blk_cell BK401.out 3).trans rfl; have hcz40_4 : w39.cell? ⟨gb401, 4, none⟩ = some (.int .i64 a0_4) := (blk_cell BK401.out 4).trans rfl; have hcz40_5 : w39.cell? ⟨gb401, 5, none⟩ = some (.slice A0_5 l0_5.length c0_5) := (blk_cell BK401.out 5).trans rfl; have hcz40_6 : w39.cell? ⟨gb401, 6, none⟩ = some (.int .i64 a0_6) := (blk_cell BK401.out 6).trans rfl; have hcz40_7 : w39.cell? ⟨gb401, 7, none⟩ = some (.bool true) := (blk_cell BK401.out 7).trans rfl; have hfz40_0 := blk_frozen BK401.out 0; have hfz40_1 := blk_frozen BK401.out 1; have hfz40_2 := blk_frozen BK401.out 2; have hfz40_3 := blk_frozen BK401.out 3; have hfz40_4 := blk_frozen BK401.out 4; have hfz40_5 := blk_frozen BK401.out 5; have hfz40_6 := blk_frozen BK401.out 6; have hfz40_7 := blk_frozen BK401.out 7))
                    go_ret2
                    exact ⟨by first | rfl | (simp [errW_none, errW_some] <;> rfl) | (simp [*, errW_none, errW_some] <;> rfl), by repeat (first | (with_reducible first | exact HB.out | apply below_alloc | apply pw_below_drewN | apply below_drew1 | refine below_set ?_ GE401.out) | exact HB.out)⟩
                  · rw [if_neg c37] at H
                    exact absurd H (by simp)
                · rw [if_neg c36] at H
                  exact absurd H (by simp)
              · replace c35 := Bool.eq_false_iff.mpr c35
                subst c35
                have H1 : (if x8_1.size + t417.size ≤ 9223372036854775807 then (if (x8_1 ++ t417).size + 1 ≤ 9223372036854775807 then (some ((x8_1 ++ t417) ++ (⟨#[0]⟩ : ByteArray), true)) else (none)) else (none)) = some (r1, r2) := by rw [if_neg (show ¬ (false = true) by decide)] at H; exact H
                clear H
                have H := H1
                clear H1
                by_cases c41 : x8_1.size + t417.size ≤ 9223372036854775807
                · rw [if_pos c41] at H
                  have c41b0 := eq_true c41
                  have c41b1 : decide (x8_1.size + t417.size ≤ 9223372036854775807) = true := decide_eq_true c41
                  try have c41b2 : (9223372036854775807 < x8_1.size + t417.size) = False := eq_false (Nat.not_lt.2 c41)
                  try (have c41b3 := c41b2; simp only [ByteArray.size_append] at c41b3)
                  by_cases c42 : (x8_1 ++ t417).size + 1 ≤ 9223372036854775807
                  · rw [if_pos c42] at H
                    have c42b0 := eq_true c42
                    have c42b1 : decide ((x8_1 ++ t417).size + 1 ≤ 9223372036854775807) = true := decide_eq_true c42
                    try have c42b2 : (9223372036854775807 < (x8_1 ++ t417).size + 1) = False := eq_false (Nat.not_lt.2 c42)
                    try (have c42b3 := c42b2; simp only [ByteArray.size_append] at c42b3)
                    simp only [Option.some.injEq, Prod.mk.injEq] at H
                    obtain ⟨rfl, rfl⟩ := H
                    have hcz43_0 : wr.cell? ⟨gb401, 0, none⟩ = some (.int .i64 a0_0) := (blk_cell BK401.out 0).trans rfl
                    have hcz43_1 : wr.cell? ⟨gb401, 1, none⟩ = some (.int .i64 a0_1) := (blk_cell BK401.out 1).trans rfl
                    have hcz43_2 : wr.cell? ⟨gb401, 2, none⟩ = some (.int .i64 a0_2) := (blk_cell BK401.out 2).trans rfl
                    have hcz43_3 : wr.cell? ⟨gb401, 3, none⟩ = some (.int .i64 a0_3) := (blk_cell BK401.out 3).trans rfl
                    have hcz43_4 : wr.cell? ⟨gb401, 4, none⟩ = some (.int .i64 a0_4) := (blk_cell BK401.out 4).trans rfl
                    have hcz43_5 : wr.cell? ⟨gb401, 5, none⟩ = some (.slice A0_5 l0_5.length c0_5) := (blk_cell BK401.out 5).trans rfl
                    have hcz43_6 : wr.cell? ⟨gb401, 6, none⟩ = some (.int .i64 a0_6) := (blk_cell BK401.out 6).trans rfl
                    have hcz43_7 : wr.cell? ⟨gb401, 7, none⟩ = some (.bool false) := (blk_cell BK401.out 7).trans rfl
                    have hfz43_0 := blk_frozen BK401.out 0
                    have hfz43_1 := blk_frozen BK401.out 1
                    have hfz43_2 := blk_frozen BK401.out 2
                    have hfz43_3 := blk_frozen BK401.out 3
                    have hfz43_4 := blk_frozen BK401.out 4
                    have hfz43_5 := blk_frozen BK401.out 5
                    have hfz43_6 := blk_frozen BK401.out 6
                    have hfz43_7 := blk_frozen BK401.out 7
                    go_wp2_with (first | ((with_reducible refine gate_callee (f := 81) rfl ?_); refine goesL_ (some 76) rfl rfl Try.func81 (by kernel_rfl) rfl #[.int .i64 a0_6] rfl (by (try simp only [List.map_toArray, List.map_cons, List.map_nil]); first | done | rfl | (simp only [List.length_drop, List.length_take]; rfl)) ?_; (with_reducible refine (impl_VarText.calls k1 a0_6 t417 t418 _ A34.out).mono ?_); rintro e w44 ⟨rfl, hb⟩; refine ⟨_, rfl, ?_⟩; have n0_ := Aside0.mk (blk_below (g := gb401) (o := .cells #[.int .i64 a0_0, .int .i64 a0_1, .int .i64 a0_2, .int .i64 a0_3, .int .i64 a0_4, .slice A0_5 l0_5.length c0_5, .int .i64 a0_6, .bool false] 52 (0, 0)) (by (with_reducible repeat (first | refine blk_drewN ?_ _ | refine blk_drew ?_ | refine blk_alloc ?_ _)); exact BK401.out) hb); have n1_ := Aside0.mk (below_step (by repeat (first | (with_reducible first | exact HB.out | apply below_alloc | apply pw_below_drewN | apply below_drew1 | refine below_set ?_ GE401.out) | exact HB.out)) hb); clear BK401; clear HB; have BK401 := n0_; have HB := n1_; clear n0_ n1_; (try clear hb); (try clear hb2); (try clear hk); (try clear hi); have hcz45_0 : w44.cell? ⟨gb401, 0, none⟩ = some (.int .i64 a0_0) := (blk_cell BK401.out 0).trans rfl; have hcz45_1 : w44.cell? ⟨gb401, 1, none⟩ = some (.int .i64 a0_1) := (blk_cell BK401.out 1).trans rfl; have hcz45_2 : w44.cell? ⟨gb401, 2, none⟩ = some (.int .i64 a0_2) := (blk_cell BK401.out 2).trans rfl; have hcz45_3 : w44.cell? ⟨gb401, 3, none⟩ = some (.int .i64 a0_3) := (blk_cell BK401.out 3).trans rfl; have hcz45_4 : w44.cell? ⟨gb401, 4, none⟩ = some (.int .i64 a0_4) := (blk_cell BK401.out 4).trans rfl; have hcz45_5 : w44.cell? ⟨gb401, 5, none⟩ = some (.slice A0_5 l0_5.length c0_5) := (blk_cell BK401.out 5).trans rfl; have hcz45_6 : w44.cell? ⟨gb401, 6, none⟩ = some (.int .i64 a0_6) := (blk_cell BK401.out 6).trans rfl; have hcz45_7 : w44.cell? ⟨gb401, 7, none⟩ = some (.bool false) := (blk_cell BK401.out 7).trans rfl; have hfz45_0 := blk_frozen BK401.out 0; have hfz45_1 := blk_frozen BK401.out 1; have hfz45_2 := blk_frozen BK401.out 2; have hfz45_3 := blk_frozen BK401.out 3; have hfz45_4 := blk_frozen BK401.out 4; have hfz45_5 := blk_frozen BK401.out 5; have hfz45_6 := blk_frozen BK401.out 6; have hfz45_7 := blk_frozen BK401.out 7))
                    go_ret2
                    exact ⟨by first | rfl | (simp [errW_none, errW_some] <;> rfl) | (simp [*, errW_none, errW_some] <;> rfl), by repeat (first | (with_reducible first | exact HB.out | apply below_alloc | apply pw_below_drewN | apply below_drew1 | refine below_set ?_ GE401.out) | exact HB.out)⟩
                  · rw [if_neg c42] at H
                    exact absurd H (by simp)
                · rw [if_neg c41] at H
                  exact absurd H (by simp)
      · rw [if_neg c7] at H
        exact absurd H (by simp)
    · rw [if_neg c6] at H
      exact absurd H (by simp)
  · replace c3 := Bool.eq_false_iff.mpr c3
    subst c3
    have H1 : (some ((⟨#[]⟩ : ByteArray), false)) = some (r1, r2) := by rw [if_neg (show ¬ (false = true) by decide)] at H; exact H
    clear H
    have H := H1
    clear H1
    simp only [Option.some.injEq, Prod.mk.injEq] at H
    obtain ⟨rfl, rfl⟩ := H
    go_enter Try.func29, Try.ntmps29
    go_wp2_with (first | ((with_reducible refine gate_dst (N := 1) rfl ?_); refine box_event ?hg (N := 1) ?hd (cs := #[.int .i64 a0_0, .int .i64 a0_1, .int .i64 a0_2, .int .i64 a0_3, .int .i64 a0_4, .slice A0_5 l0_5.length c0_5, .int .i64 a0_6, .bool a0_7]) (t := 52) ?hr ?_; (case hd => rfl); (case hg => rfl); (case hr => first | (go_simp; done) | (go_simp; rfl)); intro gb401 hg w46 hbox hb; have n0_ := Aside0.mk (below_step (by repeat (first | (with_reducible first | exact HB.out | apply below_alloc | apply pw_below_drewN | apply below_drew1) | exact HB.out)) hb); have n1_ := Aside0.mk (hbox); have n2_ := Aside0.mk ((by rw [hg]; exact (below_size (by repeat (first | (with_reducible first | exact HB.out | apply below_alloc | apply pw_below_drewN | apply below_drew1) | exact HB.out))) : w.heap.size ≤ gb401)); have n3_ := Aside0.mk ((by rw [hg]; exact (below_size (by repeat (first | (with_reducible first | exact HB.out | apply below_alloc | apply pw_below_drewN | apply below_drew1) | exact HB.out))) : w.heap.size ≤ gb401)); clear HB; have HB := n0_; have BK401 := n1_; have GW401 := n2_; have GE401 := n3_; clear n0_ n1_ n2_ n3_; clear hb hbox hg; have hcz47_0 : w46.cell? ⟨gb401, 0, none⟩ = some (.int .i64 a0_0) := (blk_cell BK401.out 0).trans rfl; have hcz47_1 : w46.cell? ⟨gb401, 1, none⟩ = some (.int .i64 a0_1) := (blk_cell BK401.out 1).trans rfl; have hcz47_2 : w46.cell? ⟨gb401, 2, none⟩ = some (.int .i64 a0_2) := (blk_cell BK401.out 2).trans rfl; have hcz47_3 : w46.cell? ⟨gb401, 3, none⟩ = some (.int .i64 a0_3) := (blk_cell BK401.out 3).trans rfl; have hcz47_4 : w46.cell? ⟨gb401, 4, none⟩ = some (.int .i64 a0_4) := (blk_cell BK401.out 4).trans rfl; have hcz47_5 : w46.cell? ⟨gb401, 5, none⟩ = some (.slice A0_5 l0_5.length c0_5) := (blk_cell BK401.out 5).trans rfl; have hcz47_6 : w46.cell? ⟨gb401, 6, none⟩ = some (.int .i64 a0_6) := (blk_cell BK401.out 6).trans rfl; have hcz47_7 : w46.cell? ⟨gb401, 7, none⟩ = some (.bool a0_7) := (blk_cell BK401.out 7).trans rfl; have hfz47_0 := blk_frozen BK401.out 0; have hfz47_1 := blk_frozen BK401.out 1; have hfz47_2 := blk_frozen BK401.out 2; have hfz47_3 := blk_frozen BK401.out 3; have hfz47_4 := blk_frozen BK401.out 4; have hfz47_5 := blk_frozen BK401.out 5; have hfz47_6 := blk_frozen BK401.out 6; have hfz47_7 := blk_frozen BK401.out 7) | ((with_reducible refine gate_callee (f := 80) rfl ?_); refine goesL_ (some 17) rfl rfl Try.func80 (by kernel_rfl) rfl #[.agg #[.int .i64 a0_0, .int .i64 a0_1, .int .i64 a0_2, .int .i64 a0_3, .int .i64 a0_4, .slice A0_5 l0_5.length c0_5, .int .i64 a0_6, .bool a0_7]] rfl (by (try simp only [List.map_toArray, List.map_cons, List.map_nil]); first | done | rfl | (simp only [List.length_drop, List.length_take]; rfl)) ?_; (with_reducible refine (impl_RecordOk.calls k a0_0 a0_1 a0_2 a0_3 a0_4 _ _ l0_5 a0_6 a0_7 false _ ?side1 ?side2 A2.out).mono ?_); (case side1 => repeat (first | exact (Kd.C_below HR0_5.out HB.out) | (with_reducible refine Kd.C_alloc ?_ _) | (with_reducible refine Kd.C_drewN ?_ _) | (with_reducible refine Kd.C_drew ?_))); (case side2 => exact HC0_5.out); rintro e w48 ⟨rfl, hb⟩; refine ⟨_, rfl, ?_⟩; have n0_ := Aside0.mk (blk_below (g := gb401) (o := .cells #[.int .i64 a0_0, .int .i64 a0_1, .int .i64 a0_2, .int .i64 a0_3, .int .i64 a0_4, .slice A0_5 l0_5.length c0_5, .int .i64 a0_6, .bool a0_7] 52 (0, 0)) (by (with_reducible repeat (first | refine blk_drewN ?_ _ | refine blk_drew ?_ | refine blk_alloc ?_ _)); exact BK401.out) hb); have n1_ := Aside0.mk (below_step (by repeat (first | (with_reducible first | exact HB.out | apply below_alloc | apply pw_below_drewN | apply below_drew1 | refine below_set ?_ GE401.out) | exact HB.out)) hb); clear BK401; clear HB; have BK401 := n0_; have HB := n1_; clear n0_ n1_; (try clear hb); (try clear hb2); (try clear hk); (try clear hi)))
    go_ret2
    exact ⟨by first | rfl | (simp [errW_none, errW_some] <;> rfl) | (simp [*, errW_none, errW_some] <;> rfl), by repeat (first | (with_reducible first | exact HB.out | apply below_alloc | apply pw_below_drewN | apply below_drew1 | refine below_set ?_ GE401.out) | exact HB.out)⟩

end Go.Proofs.Ytjkjhaiemephdab.Q
