import Derived.Test.YthjmdiggglkeaaaXFnHeadersQspecScope
/- A Go function as a Lean function, and its contract: for every input the Go code comes to what the Lean function tells. -/

namespace Go.Proofs.Ythjmdiggglkeaaa.Q
open Go.RowKit Go.Proofs.YthjmdiggglkeaaaW.PrintWords Go.Proofs.YthjmdiggglkeaaaW.PrintLast Go.Proofs.YthjmdiggglkeaaaW.PrintMore
attribute [local go_sem] max2_int min2_int max_two min_two max_three min_three max_four min_four   -- for this text's walks alone
set_option linter.unusedVariables false
set_option linter.unusedSimpArgs false

/-! ### impl_copyRecord: function 108 -/
def impl_copyRecord.f (a0_0 : Int) (a0_1 : Int) (a0_2 : Int) (a0_3 : Int) (a0_4 : Int) (l0_5 : List (S127)) (a0_6 : Int) (a0_7 : Bool) : Option (Int × Int × Int × Int × Int × (List (S127)) × Int × Bool) := if ([] : List (S127)).length + l0_5.length < 8796093022208 then (some (a0_0, a0_1, a0_2, a0_3, a0_4, (([] : List (S127)) ++ l0_5), a0_6, a0_7)) else (none)
set_option maxHeartbeats 8000000 in
set_option maxRecDepth 100000 in
theorem impl_copyRecord.calls (a0_0 : Int) (a0_1 : Int) (a0_2 : Int) (a0_3 : Int) (a0_4 : Int) (A0_5 : Option Addr) (c0_5 : Nat) (l0_5 : List (S127)) (a0_6 : Int) (a0_7 : Bool) (r1 : Int) (r2 : Int) (r3 : Int) (r4 : Int) (r5 : Int) (r6 : List (S127)) (r7 : Int) (r8 : Bool) (w : World) (hr0_5 : Kd.C k127 w A0_5 l0_5.length l0_5) (hc0_5 : l0_5.length ≤ c0_5) (h : impl_copyRecord.f a0_0 a0_1 a0_2 a0_3 a0_4 l0_5 a0_6 a0_7 = some (r1, r2, r3, r4, r5, r6, r7, r8)) :
  Calls Try.prog 108 #[.agg #[.int .i64 a0_0, .int .i64 a0_1, .int .i64 a0_2, .int .i64 a0_3, .int .i64 a0_4, .slice A0_5 l0_5.length c0_5, .int .i64 a0_6, .bool a0_7]] w fun e w' => ∃ v5_ : Value, e = .returned (.agg #[.int .i64 r1, .int .i64 r2, .int .i64 r3, .int .i64 r4, .int .i64 r5, v5_, .int .i64 r7, .bool r8]) ∧ Kd.R k127 127 w' w.heap.size (fun _ => True) v5_ r6 ∧ Below w.heap.size w w' := by
 have hu61 := Try.underlying61
 have HR0_5 := Aside0.mk hr0_5
 have HC0_5 := Aside0.mk hc0_5
 clear hr0_5 hc0_5
 have HB := Aside0.mk (Below.refl w.heap.size w)
 have H : (if ([] : List (S127)).length + l0_5.length < 8796093022208 then (some (a0_0, a0_1, a0_2, a0_3, a0_4, (([] : List (S127)) ++ l0_5), a0_6, a0_7)) else (none)) = some (r1, r2, r3, r4, r5, r6, r7, r8) := h
 clear h
 by_cases c2 : ([] : List (S127)).length + l0_5.length < 8796093022208
 ·rw [if_pos c2] at H
  have LMc2 := Aside0.mk c2
  clear c2
  obtain ⟨y576, hy576⟩ : ∃ y_ : List (S127), y_ = (([] : List (S127)) ++ l0_5) := ⟨_, rfl⟩
  replace H : (some (a0_0, a0_1, a0_2, a0_3, a0_4, y576, a0_6, a0_7)) = some (r1, r2, r3, r4, r5, r6, r7, r8) := by first | (rw [hy576]; with_reducible exact H) | (have H2_ := (Option.bind_some _ _).symm.trans H; rw [hy576]; with_reducible exact H2_) | (have H2_ := (Option.bind_some _ _).symm.trans H; with_reducible exact H2_) | with_reducible exact H | (rw [hy576]; exact H) | exact H
  have Ny576 := Aside0.mk hy576
  clear hy576
  simp only [Option.some.injEq, Prod.mk.injEq] at H
  obtain ⟨rfl, rfl, rfl, rfl, rfl, rfl, rfl, rfl⟩ := H
  go_enter Try.func108, Try.ntmps108
  go_wp2_with (first | ((with_reducible refine gate_dst (N := 1) rfl ?_); refine box_q 1 #[.int .i64 a0_0, .int .i64 a0_1, .int .i64 a0_2, .int .i64 a0_3, .int .i64 a0_4, .slice A0_5 l0_5.length c0_5, .int .i64 a0_6, .bool a0_7] 61 ?_; intro gb574 hg w3 hbox hb; have BK574 := Aside0.mk (hbox); have GW574 := Aside0.mk ((by rw [hg]; exact (below_size (bw_q HB)) : w.heap.size ≤ gb574)); have GE574 := Aside0.mk ((by rw [hg]; exact (below_size (bw_q HB)) : w.heap.size ≤ gb574)); replace HB := Aside0.mk (below_step (bw_q HB) hb); clear hb hbox hg) | ((with_reducible refine gate_dst (N := 2) rfl ?_); refine box_q 2 #[.int .i64 0, .int .i64 0, .int .i64 0, .int .i64 0, .int .i64 0, .slice none 0 0, .int .i64 0, .bool false] 61 ?_; intro gb575 hg w4 hbox hb; have BK575 := Aside0.mk (hbox); have GW575 := Aside0.mk ((by rw [hg]; exact (below_size (bw_q HB)) : w.heap.size ≤ gb575)); have GE575 := Aside0.mk ((by rw [hg]; exact (below_size (bw_q HB)) : w.heap.size ≤ gb575)); replace HB := Aside0.mk (below_step (bw_q HB) hb); have NB574_575 := Aside0.mk ((by rw [hg]; exact Nat.ne_of_lt (blk_lt (g := gb574) (o := .cells #[.int .i64 a0_0, .int .i64 a0_1, .int .i64 a0_2, .int .i64 a0_3, .int .i64 a0_4, .slice A0_5 l0_5.length c0_5, .int .i64 a0_6, .bool a0_7] 61 (0, 0)) (bk_q BK574)) : gb574 ≠ gb575)); have NB575_574 := Aside0.mk ((by rw [hg]; exact Nat.ne_of_gt (blk_lt (g := gb574) (o := .cells #[.int .i64 a0_0, .int .i64 a0_1, .int .i64 a0_2, .int .i64 a0_3, .int .i64 a0_4, .slice A0_5 l0_5.length c0_5, .int .i64 a0_6, .bool a0_7] 61 (0, 0)) (bk_q BK574)) : gb575 ≠ gb574)); replace BK574 := Aside0.mk (blk_below (g := gb574) (bk_q BK574) hb); clear hb hbox hg; have hnb5 := NB574_575.out; have hnc5 := NB575_574.out; have hcz6_0 : w4.cell? ⟨gb574, 0, none⟩ = some (.int .i64 a0_0) := (blk_cell BK574.out 0).trans rfl; have hcz6_1 : w4.cell? ⟨gb574, 1, none⟩ = some (.int .i64 a0_1) := (blk_cell BK574.out 1).trans rfl; have hcz6_2 : w4.cell? ⟨gb574, 2, none⟩ = some (.int .i64 a0_2) := (blk_cell BK574.out 2).trans rfl; have hcz6_3 : w4.cell? ⟨gb574, 3, none⟩ = some (.int .i64 a0_3) := (blk_cell BK574.out 3).trans rfl; have hcz6_4 : w4.cell? ⟨gb574, 4, none⟩ = some (.int .i64 a0_4) := (blk_cell BK574.out 4).trans rfl; have hcz6_5 : w4.cell? ⟨gb574, 5, none⟩ = some (.slice A0_5 l0_5.length c0_5) := (blk_cell BK574.out 5).trans rfl; have hcz6_6 : w4.cell? ⟨gb574, 6, none⟩ = some (.int .i64 a0_6) := (blk_cell BK574.out 6).trans rfl; have hcz6_7 : w4.cell? ⟨gb574, 7, none⟩ = some (.bool a0_7) := (blk_cell BK574.out 7).trans rfl; have hfz6_0 := blk_frozen BK574.out 0; have hfz6_1 := blk_frozen BK574.out 1; have hfz6_2 := blk_frozen BK574.out 2; have hfz6_3 := blk_frozen BK574.out 3; have hfz6_4 := blk_frozen BK574.out 4; have hfz6_5 := blk_frozen BK574.out 5; have hfz6_6 := blk_frozen BK574.out 6; have hfz6_7 := blk_frozen BK574.out 7) | ((with_reducible refine gate_builtin (b := .append) (xs := #[(.const (.slice none 0 0)), .tmp 4]) rfl ?_); at_builtin; refine Kd.R_append_rows k127 (w0 := w) w.heap.size rfl (.const (.slice none 0 0)) (.tmp 4) 59 127 (.agg #[(.int .i64 0), (.int .i64 0)]) 16 rfl Try.underlying59 info127 rfl (by decide) (by omega) (.slice none 0 0) ([] : List (S127)) l0_5 _ _ _ (fun _ => True) (fun _ => False) rfl rfl ?aO ?aR (fun _ _ h => h) (fun _ h => h.elim) ?aF ?aB ?aS ?aL ?_; (case aR => exact cs_q (Kd.C_below HR0_5.out HB.out)); (case aB => exact (bw_q HB)); (case aF => exact (fun _ _ => trivial)); (case aO => exact ((Kd.R_nil _ _ _ _ (fun _ => True)))); (case aS => exact (below_size (bw_q HB))); (case aL => have := LMc2.out; omega); intro v577 w7 ho hb hg hat; rw [← Ny576.out] at ho; replace BK574 := Aside0.mk (blk_grown (g := gb574) (o := .cells #[.int .i64 a0_0, .int .i64 a0_1, .int .i64 a0_2, .int .i64 a0_3, .int .i64 a0_4, .slice A0_5 l0_5.length c0_5, .int .i64 a0_6, .bool a0_7] 61 (0, 0)) (bk_q BK574) hg (by simp [Value.ownBlock])); replace BK575 := Aside0.mk (blk_grown (g := gb575) (o := .cells #[.int .i64 0, .int .i64 0, .int .i64 0, .int .i64 0, .int .i64 0, .slice none 0 0, .int .i64 0, .bool false] 61 (0, 0)) (bk_q BK575) hg (by simp [Value.ownBlock])); replace HB := Aside0.mk (hb); have HO578 := Aside0.mk (ho); clear ho hb hg hat; obtain ⟨Ao8, co8, eo8⟩ := Kd.R_slice HO578.out; subst eo8; have hcz9_0 : w7.cell? ⟨gb574, 0, none⟩ = some (.int .i64 a0_0) := (blk_cell BK574.out 0).trans rfl; have hcz9_1 : w7.cell? ⟨gb574, 1, none⟩ = some (.int .i64 a0_1) := (blk_cell BK574.out 1).trans rfl; have hcz9_2 : w7.cell? ⟨gb574, 2, none⟩ = some (.int .i64 a0_2) := (blk_cell BK574.out 2).trans rfl; have hcz9_3 : w7.cell? ⟨gb574, 3, none⟩ = some (.int .i64 a0_3) := (blk_cell BK574.out 3).trans rfl; have hcz9_4 : w7.cell? ⟨gb574, 4, none⟩ = some (.int .i64 a0_4) := (blk_cell BK574.out 4).trans rfl; have hcz9_5 : w7.cell? ⟨gb574, 5, none⟩ = some (.slice A0_5 l0_5.length c0_5) := (blk_cell BK574.out 5).trans rfl; have hcz9_6 : w7.cell? ⟨gb574, 6, none⟩ = some (.int .i64 a0_6) := (blk_cell BK574.out 6).trans rfl; have hcz9_7 : w7.cell? ⟨gb574, 7, none⟩ = some (.bool a0_7) := (blk_cell BK574.out 7).trans rfl; have hfz9_0 := blk_frozen BK574.out 0; have hfz9_1 := blk_frozen BK574.out 1; have hfz9_2 := blk_frozen BK574.out 2; have hfz9_3 := blk_frozen BK574.out 3; have hfz9_4 := blk_frozen BK574.out 4; have hfz9_5 := blk_frozen BK574.out 5; have hfz9_6 := blk_frozen BK574.out 6; have hfz9_7 := blk_frozen BK574.out 7; have hcz10_0 : w7.cell? ⟨gb575, 0, none⟩ = some (.int .i64 0) := (blk_cell BK575.out 0).trans rfl; have hcz10_1 : w7.cell? ⟨gb575, 1, none⟩ = some (.int .i64 0) := (blk_cell BK575.out 1).trans rfl; have hcz10_2 : w7.cell? ⟨gb575, 2, none⟩ = some (.int .i64 0) := (blk_cell BK575.out 2).trans rfl; have hcz10_3 : w7.cell? ⟨gb575, 3, none⟩ = some (.int .i64 0) := (blk_cell BK575.out 3).trans rfl; have hcz10_4 : w7.cell? ⟨gb575, 4, none⟩ = some (.int .i64 0) := (blk_cell BK575.out 4).trans rfl; have hcz10_5 : w7.cell? ⟨gb575, 5, none⟩ = some (.slice none 0 0) := (blk_cell BK575.out 5).trans rfl; have hcz10_6 : w7.cell? ⟨gb575, 6, none⟩ = some (.int .i64 0) := (blk_cell BK575.out 6).trans rfl; have hcz10_7 : w7.cell? ⟨gb575, 7, none⟩ = some (.bool false) := (blk_cell BK575.out 7).trans rfl; have hfz10_0 := blk_frozen BK575.out 0; have hfz10_1 := blk_frozen BK575.out 1; have hfz10_2 := blk_frozen BK575.out 2; have hfz10_3 := blk_frozen BK575.out 3; have hfz10_4 := blk_frozen BK575.out 4; have hfz10_5 := blk_frozen BK575.out 5; have hfz10_6 := blk_frozen BK575.out 6; have hfz10_7 := blk_frozen BK575.out 7))
  refine bodyPost_ret (results_cell_row rfl _ _ gb575 61 #[.int .i64 a0_0, .int .i64 a0_1, .int .i64 a0_2, .int .i64 a0_3, .int .i64 a0_4, .slice Ao8 y576.length co8, .int .i64 a0_6, .bool a0_7] (0, 0) _ rfl (by refine bz_ ?_; refine blk_put (cs := #[.int .i64 a0_0, .int .i64 a0_1, .int .i64 a0_2, .int .i64 a0_3, .int .i64 a0_4, .slice Ao8 y576.length co8, .int .i64 a0_6, .bool false]) ?_ 7 _ rfl; refine bz_ ?_; refine blk_put (cs := #[.int .i64 a0_0, .int .i64 a0_1, .int .i64 a0_2, .int .i64 a0_3, .int .i64 a0_4, .slice Ao8 y576.length co8, .int .i64 0, .bool false]) ?_ 6 _ rfl; refine bz_ ?_; refine blk_put (cs := #[.int .i64 a0_0, .int .i64 a0_1, .int .i64 a0_2, .int .i64 a0_3, .int .i64 a0_4, .slice none 0 0, .int .i64 0, .bool false]) ?_ 5 _ rfl; refine bz_ ?_; refine blk_put (cs := #[.int .i64 a0_0, .int .i64 a0_1, .int .i64 a0_2, .int .i64 a0_3, .int .i64 0, .slice none 0 0, .int .i64 0, .bool false]) ?_ 4 _ rfl; refine bz_ ?_; refine blk_put (cs := #[.int .i64 a0_0, .int .i64 a0_1, .int .i64 a0_2, .int .i64 0, .int .i64 0, .slice none 0 0, .int .i64 0, .bool false]) ?_ 3 _ rfl; refine bz_ ?_; refine blk_put (cs := #[.int .i64 a0_0, .int .i64 a0_1, .int .i64 0, .int .i64 0, .int .i64 0, .slice none 0 0, .int .i64 0, .bool false]) ?_ 2 _ rfl; refine bz_ ?_; refine blk_put (cs := #[.int .i64 a0_0, .int .i64 0, .int .i64 0, .int .i64 0, .int .i64 0, .slice none 0 0, .int .i64 0, .bool false]) ?_ 1 _ rfl; refine bz_ ?_; refine blk_put (cs := #[.int .i64 0, .int .i64 0, .int .i64 0, .int .i64 0, .int .i64 0, .slice none 0 0, .int .i64 0, .bool false]) ?_ 0 _ rfl; refine bz_ ?_; refine blk_far ?_ NB575_574.out _; refine bz_ ?_; exact BK575.out) Try.underlying61 rfl (by kernel_rfl)) rfl ?_
  exact ⟨_, er_q, by (with_reducible repeat (first | apply Kd.R_alloc | apply Kd.R_drewN | apply Kd.R_drew)); exact Kd.R_mono (Kd.R_far (p := ⟨gb575, 7, none⟩) (Kd.R_far (p := ⟨gb575, 6, none⟩) (Kd.R_far (p := ⟨gb575, 5, none⟩) (Kd.R_far (p := ⟨gb575, 4, none⟩) (Kd.R_far (p := ⟨gb575, 3, none⟩) (Kd.R_far (p := ⟨gb575, 2, none⟩) (Kd.R_far (p := ⟨gb575, 1, none⟩) (Kd.R_far (p := ⟨gb575, 0, none⟩) (Kd.R_far (p := ⟨gb574, 5, none⟩) (Kd.R_types (Kd.R_types HO578.out BK574.out (by decide)) BK575.out (by decide)) (fun _ hk => hk.1.2) (.slice Ao8 y576.length co8)) (fun _ hk => hk.2) (.int .i64 a0_0)) (fun _ hk => hk.2) (.int .i64 a0_1)) (fun _ hk => hk.2) (.int .i64 a0_2)) (fun _ hk => hk.2) (.int .i64 a0_3)) (fun _ hk => hk.2) (.int .i64 a0_4)) (fun _ hk => hk.2) (.slice Ao8 y576.length co8)) (fun _ hk => hk.2) (.int .i64 a0_6)) (fun _ hk => hk.2) (.bool a0_7)) (fun _ hk => trivial), bw_q HB⟩
 ·rw [if_neg c2] at H
  exact absurd H (by simp)

end Go.Proofs.Ythjmdiggglkeaaa.Q

/- A Go function as a Lean function, and its contract: for every input the Go code comes to what the Lean function tells. -/


namespace Go.Proofs.Ythjmdiggglkeaaa.Q
open Go.RowKit Go.Proofs.YthjmdiggglkeaaaW.PrintWords Go.Proofs.YthjmdiggglkeaaaW.PrintLast Go.Proofs.YthjmdiggglkeaaaW.PrintMore
attribute [local go_sem] max2_int min2_int max_two min_two max_three min_three max_four min_four   -- for this text's walks alone
set_option linter.unusedVariables false
set_option linter.unusedSimpArgs false

/-! ### impl_Scope: function 56 -/
def impl_Scope.l0 : Nat → Int → List (S61) → List (S61) → Int → Int → Option ((List (S61)))
 | 0, _, _, _, _, _ => none
 | k + 1, x1, x5, x8, x9, x10 => if x10 < x9 then (if 0 ≤ x10 then (if x10 < (x8.length : Int) then (if ((rd_T61 x8 x10).f0) = x1 then ((impl_copyRecord.f ((rd_T61 x8 x10).f0) ((rd_T61 x8 x10).f1) ((rd_T61 x8 x10).f2) ((rd_T61 x8 x10).f3) ((rd_T61 x8 x10).f4) ((rd_T61 x8 x10).f5) ((rd_T61 x8 x10).f6) ((rd_T61 x8 x10).f7)).bind fun bt1154 => (if x5.length < 1759218604441 then (impl_Scope.l0 k x1 (x5 ++ [(⟨bt1154.1, bt1154.2.1, bt1154.2.2.1, bt1154.2.2.2.1, bt1154.2.2.2.2.1, bt1154.2.2.2.2.2.1, bt1154.2.2.2.2.2.2.1, bt1154.2.2.2.2.2.2.2⟩ : S61)]) x8 x9 (wrap64 (x10 + 1))) else (none))) else (if ((rd_T61 x8 x10).f0) = 9 then ((impl_copyRecord.f ((rd_T61 x8 x10).f0) ((rd_T61 x8 x10).f1) ((rd_T61 x8 x10).f2) ((rd_T61 x8 x10).f3) ((rd_T61 x8 x10).f4) ((rd_T61 x8 x10).f5) ((rd_T61 x8 x10).f6) ((rd_T61 x8 x10).f7)).bind fun bt1167 => (if x5.length < 1759218604441 then (impl_Scope.l0 k x1 (x5 ++ [(⟨bt1167.1, bt1167.2.1, bt1167.2.2.1, bt1167.2.2.2.1, bt1167.2.2.2.2.1, bt1167.2.2.2.2.2.1, bt1167.2.2.2.2.2.2.1, bt1167.2.2.2.2.2.2.2⟩ : S61)]) x8 x9 (wrap64 (x10 + 1))) else (none))) else (impl_Scope.l0 k x1 x5 x8 x9 (wrap64 (x10 + 1))))) else (none)) else (none)) else (some x5)
def impl_Scope.f (k : Nat) (l0 : List (S61)) (a1 : Int) : Option ((List (S61))) := impl_Scope.l0 k a1 ([] : List (S61)) l0 (l0.length : Int) 0
theorem impl_Scope.mono_l : ∀ k, (∀ y0 y1 y2 y3 y4, LeO (impl_Scope.l0 k y0 y1 y2 y3 y4) (impl_Scope.l0 (k + 1) y0 y1 y2 y3 y4))
 | 0 => fun _ _ _ _ _ r h => by simp [impl_Scope.l0] at h
 | k + 1 => by
  have ih0 := impl_Scope.mono_l k
  ·intro y0 y1 y2 y3 y4
   unfold impl_Scope.l0
   repeat' first
   | (with_reducible exact ih0 _ _ _ _ _)
   | (with_reducible exact LeO.refl _)
   | (with_reducible exact LeO.none _)
   | (with_reducible refine LeO.ite ?_ ?_)
   | (with_reducible refine LeO.bind ?_ (fun _ => ?_))
   | exact ih0 _ _ _ _ _
   | exact LeO.none _
   | refine LeO.ite ?_ ?_
   | refine LeO.bind ?_ (fun _ => ?_)
theorem impl_Scope.mono : ∀ a0 a1 k, LeO (impl_Scope.f k a0 a1) (impl_Scope.f (k + 1) a0 a1) := by
 intro a0 a1 k
 have ih0 := impl_Scope.mono_l k
 unfold impl_Scope.f
 repeat' first
   | (with_reducible exact ih0 _ _ _ _ _)
   | (with_reducible exact LeO.refl _)
   | (with_reducible exact LeO.none _)
   | (with_reducible refine LeO.ite ?_ ?_)
   | (with_reducible refine LeO.bind ?_ (fun _ => ?_))
   | exact ih0 _ _ _ _ _
   | exact LeO.none _
   | refine LeO.ite ?_ ?_
   | refine LeO.bind ?_ (fun _ => ?_)
set_option maxHeartbeats 8000000 in
set_option maxRecDepth 100000 in
theorem impl_Scope.calls (k : Nat) (A0 : Option Addr) (c0 : Nat) (l0 : List (S61)) (a1 : Int) (r : List (S61)) (w : World) (hr0 : Kd.C k61 w A0 l0.length l0) (hc0 : l0.length ≤ c0) (h : impl_Scope.f k l0 a1 = some r) :
  Calls Try.prog 56 #[.slice A0 l0.length c0, .int .i64 a1] w fun e w' => ∃ v0_ : Value, e = .returned (v0_) ∧ Kd.S k61 61 w' w.heap.size (fun _ => True) v0_ r ∧ Below w.heap.size w w' := by
 have hu61 := Try.underlying61
 have HR0 := Aside0.mk hr0
 have HC0 := Aside0.mk hc0
 clear hr0 hc0
 have HB := Aside0.mk (Below.refl w.heap.size w)
 have H : (impl_Scope.l0 k a1 ([] : List (S61)) l0 (l0.length : Int) 0) = some r := h
 clear h
 have H' := Aside0.mk H
 clear H
 go_enter Try.func56, Try.ntmps56
 go_wp2
 go_loopg [5, 10] k (fun kq v5 v10 w' => ∃ (x5_1 : List (S61)) (x10_1 : Int), v10 = .int .i64 x10_1 ∧ Aside0 (impl_Scope.l0 kq a1 x5_1 l0 (l0.length : Int) x10_1 = some r) ∧ Aside0 (kq ≤ k) ∧ Aside0 (Kd.S k61 61 w' w.heap.size (fun _ => True) v5 x5_1) ∧ Aside0 (Below w.heap.size w w'))
 case atStart => exact ⟨(([] : List (S61))), (0), (by first | rfl | (simp; done) | (simp [*]; done)), H', ⟨Nat.le_refl _⟩, ⟨by first | exact Kd.S_nil _ _ _ _ _ | exact Kd.N_nil _ _ _ _ _ | exact Kd.V_nil _ _ _ _ _ | exact Kd.Q_nil _ _ _ _ _ | exact Kd.R_nil _ _ _ _ _⟩, ⟨bw_q HB⟩⟩
 case round =>
  clear H'
  try clear p2
  obtain ⟨x5_1, x10_1, rfl, HA, HK1, HO_5, HB⟩ := hrel
  cases gk with
  | zero => exact absurd HA.out (by simp [impl_Scope.l0])
  | succ k1 =>
   have H := HA.out
   clear HA
   simp only [impl_Scope.l0] at H
   by_cases c3 : x10_1 < (l0.length : Int)
   ·rw [if_pos c3] at H
    have c3b0 : decide (x10_1 < (l0.length : Int)) = true := decide_eq_true c3
    clear c3
    by_cases c4 : 0 ≤ x10_1
    ·rw [if_pos c4] at H
     have c4b0 : decide (0 ≤ x10_1) = true := decide_eq_true c4
     clear c4
     by_cases c5 : x10_1 < (l0.length : Int)
     ·rw [if_pos c5] at H
      have c5b0 : decide (x10_1 < (l0.length : Int)) = true := decide_eq_true c5
      clear c5
      by_cases c6 : ((rd_T61 l0 x10_1).f0) = a1
      ·rw [if_pos c6] at H
       have c6b0 : (((rd_T61 l0 x10_1).f0) == a1) = true := beq_iff_eq.mpr c6
       have c6b1 : (((rd_T61 l0 x10_1).f0) != a1) = false := bne_eq_false_iff_eq.mpr c6
       clear c6
       have HC7 := Aside0.mk H
       clear H
       have p1152 : 0 ≤ (x10_1 : Int) := of_decide_eq_true as_q
       have q1152 : x10_1 < (l0.length : Int) := of_decide_eq_true as_q
       obtain ⟨ad1152, A1152_5, c1152_5, e1152, hx1152_0, hx1152_1, hx1152_2, hx1152_3, hx1152_4, hx1152_5, hx1152_6, hx1152_7, hl1152_5, hi1152_5⟩ := at_T61 HR0.out x10_1 p1152 q1152
       cases e1152
       replace hx1152_0 := (HB.out.cell (World.block_lt_of_cell? w _ hx1152_0)).trans hx1152_0
       replace hx1152_1 := (HB.out.cell (World.block_lt_of_cell? w _ hx1152_1)).trans hx1152_1
       replace hx1152_2 := (HB.out.cell (World.block_lt_of_cell? w _ hx1152_2)).trans hx1152_2
       replace hx1152_3 := (HB.out.cell (World.block_lt_of_cell? w _ hx1152_3)).trans hx1152_3
       replace hx1152_4 := (HB.out.cell (World.block_lt_of_cell? w _ hx1152_4)).trans hx1152_4
       replace hx1152_5 := (HB.out.cell (World.block_lt_of_cell? w _ hx1152_5)).trans hx1152_5
       replace hx1152_6 := (HB.out.cell (World.block_lt_of_cell? w _ hx1152_6)).trans hx1152_6
       replace hx1152_7 := (HB.out.cell (World.block_lt_of_cell? w _ hx1152_7)).trans hx1152_7
       have HR1152_5 := Aside0.mk hi1152_5
       have HC1152_5 := Aside0.mk hl1152_5
       clear hi1152_5 hl1152_5
       replace p1152 := eq_true p1152
       replace q1152 := eq_true q1152
       go_upto_if 22 with (first | ((with_reducible refine gate_dst (N := 7) rfl ?_); refine box_q 7 #[.int .i64 0, .int .i64 0, .int .i64 0, .int .i64 0, .int .i64 0, .slice none 0 0, .int .i64 0, .bool false] 61 ?_; intro gb1153 hg w8 hbox hb; replace HO_5 := Aside0.mk (Kd.S_below (Kd.S_elderB (kS_q HO_5) gb1153 (Nat.le_of_eq hg.symm)) hb); have BK1153 := Aside0.mk (hbox); have GW1153 := Aside0.mk ((by rw [hg]; exact (below_size (bw_q HB)) : w.heap.size ≤ gb1153)); have GE1153 := Aside0.mk ((by rw [hg]; exact (below_size (bw_q HB)) : w.heap.size ≤ gb1153)); replace HB := Aside0.mk (below_step (bw_q HB) hb); clear hb hbox hg; have hcz9_0 : w8.cell? ⟨gb1153, 0, none⟩ = some (.int .i64 0) := (blk_cell BK1153.out 0).trans rfl; have hcz9_1 : w8.cell? ⟨gb1153, 1, none⟩ = some (.int .i64 0) := (blk_cell BK1153.out 1).trans rfl; have hcz9_2 : w8.cell? ⟨gb1153, 2, none⟩ = some (.int .i64 0) := (blk_cell BK1153.out 2).trans rfl; have hcz9_3 : w8.cell? ⟨gb1153, 3, none⟩ = some (.int .i64 0) := (blk_cell BK1153.out 3).trans rfl; have hcz9_4 : w8.cell? ⟨gb1153, 4, none⟩ = some (.int .i64 0) := (blk_cell BK1153.out 4).trans rfl; have hcz9_5 : w8.cell? ⟨gb1153, 5, none⟩ = some (.slice none 0 0) := (blk_cell BK1153.out 5).trans rfl; have hcz9_6 : w8.cell? ⟨gb1153, 6, none⟩ = some (.int .i64 0) := (blk_cell BK1153.out 6).trans rfl; have hcz9_7 : w8.cell? ⟨gb1153, 7, none⟩ = some (.bool false) := (blk_cell BK1153.out 7).trans rfl; have hfz9_0 := blk_frozen BK1153.out 0; have hfz9_1 := blk_frozen BK1153.out 1; have hfz9_2 := blk_frozen BK1153.out 2; have hfz9_3 := blk_frozen BK1153.out 3; have hfz9_4 := blk_frozen BK1153.out 4; have hfz9_5 := blk_frozen BK1153.out 5; have hfz9_6 := blk_frozen BK1153.out 6; have hfz9_7 := blk_frozen BK1153.out 7))
       have n0_ : Aside0 (Kd.S k61 61 ((((((((w8.setCell ⟨gb1153, 0, none⟩ (.int .i64 ((rd_T61 l0 x10_1).f0))).setCell ⟨gb1153, 1, none⟩ (.int .i64 ((rd_T61 l0 x10_1).f1))).setCell ⟨gb1153, 2, none⟩ (.int .i64 ((rd_T61 l0 x10_1).f2))).setCell ⟨gb1153, 3, none⟩ (.int .i64 ((rd_T61 l0 x10_1).f3))).setCell ⟨gb1153, 4, none⟩ (.int .i64 ((rd_T61 l0 x10_1).f4))).setCell ⟨gb1153, 5, none⟩ (.slice A1152_5 ((rd_T61 l0 x10_1).f5).length c1152_5)).setCell ⟨gb1153, 6, none⟩ (.int .i64 ((rd_T61 l0 x10_1).f6))).setCell ⟨gb1153, 7, none⟩ (.bool ((rd_T61 l0 x10_1).f7))) w.heap.size (fun k_ => k_ ≠ gb1153) u5 x5_1) := ⟨by (with_reducible repeat (first | apply Kd.S_alloc | apply Kd.S_drewN | apply Kd.S_drew)); exact Kd.S_mono (Kd.S_far (p := ⟨gb1153, 7, none⟩) (Kd.S_far (p := ⟨gb1153, 6, none⟩) (Kd.S_far (p := ⟨gb1153, 5, none⟩) (Kd.S_far (p := ⟨gb1153, 4, none⟩) (Kd.S_far (p := ⟨gb1153, 3, none⟩) (Kd.S_far (p := ⟨gb1153, 2, none⟩) (Kd.S_far (p := ⟨gb1153, 1, none⟩) (Kd.S_far (p := ⟨gb1153, 0, none⟩) (Kd.S_mono HO_5.out (fun k_ hk => (⟨hk, hk.2⟩ : _ ∧ k_ ≠ gb1153))) (fun _ hk => hk.2) (.int .i64 ((rd_T61 l0 x10_1).f0))) (fun _ hk => hk.2) (.int .i64 ((rd_T61 l0 x10_1).f1))) (fun _ hk => hk.2) (.int .i64 ((rd_T61 l0 x10_1).f2))) (fun _ hk => hk.2) (.int .i64 ((rd_T61 l0 x10_1).f3))) (fun _ hk => hk.2) (.int .i64 ((rd_T61 l0 x10_1).f4))) (fun _ hk => hk.2) (.slice A1152_5 ((rd_T61 l0 x10_1).f5).length c1152_5)) (fun _ hk => hk.2) (.int .i64 ((rd_T61 l0 x10_1).f6))) (fun _ hk => hk.2) (.bool ((rd_T61 l0 x10_1).f7))) (fun _ hk => hk.1.2)⟩
       have n1_ : Aside0 (((((((((w8.setCell ⟨gb1153, 0, none⟩ (.int .i64 ((rd_T61 l0 x10_1).f0))).setCell ⟨gb1153, 1, none⟩ (.int .i64 ((rd_T61 l0 x10_1).f1))).setCell ⟨gb1153, 2, none⟩ (.int .i64 ((rd_T61 l0 x10_1).f2))).setCell ⟨gb1153, 3, none⟩ (.int .i64 ((rd_T61 l0 x10_1).f3))).setCell ⟨gb1153, 4, none⟩ (.int .i64 ((rd_T61 l0 x10_1).f4))).setCell ⟨gb1153, 5, none⟩ (.slice A1152_5 ((rd_T61 l0 x10_1).f5).length c1152_5)).setCell ⟨gb1153, 6, none⟩ (.int .i64 ((rd_T61 l0 x10_1).f6))).setCell ⟨gb1153, 7, none⟩ (.bool ((rd_T61 l0 x10_1).f7))).heap[gb1153]? = some (.cells #[.int .i64 ((rd_T61 l0 x10_1).f0), .int .i64 ((rd_T61 l0 x10_1).f1), .int .i64 ((rd_T61 l0 x10_1).f2), .int .i64 ((rd_T61 l0 x10_1).f3), .int .i64 ((rd_T61 l0 x10_1).f4), .slice A1152_5 ((rd_T61 l0 x10_1).f5).length c1152_5, .int .i64 ((rd_T61 l0 x10_1).f6), .bool ((rd_T61 l0 x10_1).f7)] 61 (0, 0))) := ⟨by refine bz_ ?_; refine blk_put (cs := #[.int .i64 ((rd_T61 l0 x10_1).f0), .int .i64 ((rd_T61 l0 x10_1).f1), .int .i64 ((rd_T61 l0 x10_1).f2), .int .i64 ((rd_T61 l0 x10_1).f3), .int .i64 ((rd_T61 l0 x10_1).f4), .slice A1152_5 ((rd_T61 l0 x10_1).f5).length c1152_5, .int .i64 ((rd_T61 l0 x10_1).f6), .bool false]) ?_ 7 _ rfl; refine bz_ ?_; refine blk_put (cs := #[.int .i64 ((rd_T61 l0 x10_1).f0), .int .i64 ((rd_T61 l0 x10_1).f1), .int .i64 ((rd_T61 l0 x10_1).f2), .int .i64 ((rd_T61 l0 x10_1).f3), .int .i64 ((rd_T61 l0 x10_1).f4), .slice A1152_5 ((rd_T61 l0 x10_1).f5).length c1152_5, .int .i64 0, .bool false]) ?_ 6 _ rfl; refine bz_ ?_; refine blk_put (cs := #[.int .i64 ((rd_T61 l0 x10_1).f0), .int .i64 ((rd_T61 l0 x10_1).f1), .int .i64 ((rd_T61 l0 x10_1).f2), .int .i64 ((rd_T61 l0 x10_1).f3), .int .i64 ((rd_T61 l0 x10_1).f4), .slice none 0 0, .int .i64 0, .bool false]) ?_ 5 _ rfl; refine bz_ ?_; refine blk_put (cs := #[.int .i64 ((rd_T61 l0 x10_1).f0), .int .i64 ((rd_T61 l0 x10_1).f1), .int .i64 ((rd_T61 l0 x10_1).f2), .int .i64 ((rd_T61 l0 x10_1).f3), .int .i64 0, .slice none 0 0, .int .i64 0, .bool false]) ?_ 4 _ rfl; refine bz_ ?_; refine blk_put (cs := #[.int .i64 ((rd_T61 l0 x10_1).f0), .int .i64 ((rd_T61 l0 x10_1).f1), .int .i64 ((rd_T61 l0 x10_1).f2), .int .i64 0, .int .i64 0, .slice none 0 0, .int .i64 0, .bool false]) ?_ 3 _ rfl; refine bz_ ?_; refine blk_put (cs := #[.int .i64 ((rd_T61 l0 x10_1).f0), .int .i64 ((rd_T61 l0 x10_1).f1), .int .i64 0, .int .i64 0, .int .i64 0, .slice none 0 0, .int .i64 0, .bool false]) ?_ 2 _ rfl; refine bz_ ?_; refine blk_put (cs := #[.int .i64 ((rd_T61 l0 x10_1).f0), .int .i64 0, .int .i64 0, .int .i64 0, .int .i64 0, .slice none 0 0, .int .i64 0, .bool false]) ?_ 1 _ rfl; refine bz_ ?_; refine blk_put (cs := #[.int .i64 0, .int .i64 0, .int .i64 0, .int .i64 0, .int .i64 0, .slice none 0 0, .int .i64 0, .bool false]) ?_ 0 _ rfl; refine bz_ ?_; exact BK1153.out⟩
       have n2_ : Aside0 (Below w.heap.size w ((((((((w8.setCell ⟨gb1153, 0, none⟩ (.int .i64 ((rd_T61 l0 x10_1).f0))).setCell ⟨gb1153, 1, none⟩ (.int .i64 ((rd_T61 l0 x10_1).f1))).setCell ⟨gb1153, 2, none⟩ (.int .i64 ((rd_T61 l0 x10_1).f2))).setCell ⟨gb1153, 3, none⟩ (.int .i64 ((rd_T61 l0 x10_1).f3))).setCell ⟨gb1153, 4, none⟩ (.int .i64 ((rd_T61 l0 x10_1).f4))).setCell ⟨gb1153, 5, none⟩ (.slice A1152_5 ((rd_T61 l0 x10_1).f5).length c1152_5)).setCell ⟨gb1153, 6, none⟩ (.int .i64 ((rd_T61 l0 x10_1).f6))).setCell ⟨gb1153, 7, none⟩ (.bool ((rd_T61 l0 x10_1).f7)))) := ⟨bw_q HB⟩
       (try clear HO_5)
       (try clear BK1153)
       (try clear HB)
       generalize ((((((((w8.setCell ⟨gb1153, 0, none⟩ (.int .i64 ((rd_T61 l0 x10_1).f0))).setCell ⟨gb1153, 1, none⟩ (.int .i64 ((rd_T61 l0 x10_1).f1))).setCell ⟨gb1153, 2, none⟩ (.int .i64 ((rd_T61 l0 x10_1).f2))).setCell ⟨gb1153, 3, none⟩ (.int .i64 ((rd_T61 l0 x10_1).f3))).setCell ⟨gb1153, 4, none⟩ (.int .i64 ((rd_T61 l0 x10_1).f4))).setCell ⟨gb1153, 5, none⟩ (.slice A1152_5 ((rd_T61 l0 x10_1).f5).length c1152_5)).setCell ⟨gb1153, 6, none⟩ (.int .i64 ((rd_T61 l0 x10_1).f6))).setCell ⟨gb1153, 7, none⟩ (.bool ((rd_T61 l0 x10_1).f7))) = w10 at n0_ n1_ n2_ ⊢
       have HO_5 := n0_
       have BK1153 := n1_
       have HB := n2_
       clear n0_ n1_ n2_
       (try clear hx1152_0); (try clear hx1152_1); (try clear hx1152_2); (try clear hx1152_3); (try clear hx1152_4); (try clear hx1152_5); (try clear hx1152_6); (try clear hx1152_7)
       have H := HC7.out
       clear HC7
       replace H := Option.bind_eq_some_iff.mp H
       obtain ⟨⟨t1154, t1155, t1156, t1157, t1158, t1159, t1162, t1163⟩, A110, H⟩ := H
       replace H : (if x5_1.length < 1759218604441 then (impl_Scope.l0 k1 a1 (x5_1 ++ [(⟨t1154, t1155, t1156, t1157, t1158, t1159, t1162, t1163⟩ : S61)]) l0 (l0.length : Int) (wrap64 (x10_1 + 1))) else (none)) = some r := H
       have A11 := Aside0.mk A110
       clear A110
       by_cases c12 : x5_1.length < 1759218604441
       ·rw [if_pos c12] at H
        have LMc12 := Aside0.mk c12
        clear c12
        obtain ⟨y1164, hy1164⟩ : ∃ y_ : List (S61), y_ = (x5_1 ++ [(⟨t1154, t1155, t1156, t1157, t1158, t1159, t1162, t1163⟩ : S61)]) := ⟨_, rfl⟩
        replace H : (impl_Scope.l0 k1 a1 y1164 l0 (l0.length : Int) (wrap64 (x10_1 + 1))) = some r := by first | (rw [hy1164]; with_reducible exact H) | (have H2_ := (Option.bind_some _ _).symm.trans H; rw [hy1164]; with_reducible exact H2_) | (have H2_ := (Option.bind_some _ _).symm.trans H; with_reducible exact H2_) | with_reducible exact H | (rw [hy1164]; exact H) | exact H
        have Ny1164 := Aside0.mk hy1164
        clear hy1164
        have H' := Aside0.mk H
        clear H
        obtain ⟨hcz13_0, hcz13_1, hcz13_2, hcz13_3, hcz13_4, hcz13_5, hcz13_6, hcz13_7⟩ := cz8_ BK1153
        obtain ⟨hfz13_0, hfz13_1, hfz13_2, hfz13_3, hfz13_4, hfz13_5, hfz13_6, hfz13_7⟩ := fz8_ BK1153
        go_wp2_with (first | ((with_reducible refine gate_callee (f := 108) rfl ?_); refine goesL_ (some 25) rfl rfl Try.func108 (by kernel_rfl) rfl #[.agg #[.int .i64 ((rd_T61 l0 x10_1).f0), .int .i64 ((rd_T61 l0 x10_1).f1), .int .i64 ((rd_T61 l0 x10_1).f2), .int .i64 ((rd_T61 l0 x10_1).f3), .int .i64 ((rd_T61 l0 x10_1).f4), .slice A1152_5 ((rd_T61 l0 x10_1).f5).length c1152_5, .int .i64 ((rd_T61 l0 x10_1).f6), .bool ((rd_T61 l0 x10_1).f7)]] rfl mp_q ?_; (with_reducible refine (impl_copyRecord.calls ((rd_T61 l0 x10_1).f0) ((rd_T61 l0 x10_1).f1) ((rd_T61 l0 x10_1).f2) ((rd_T61 l0 x10_1).f3) ((rd_T61 l0 x10_1).f4) _ _ ((rd_T61 l0 x10_1).f5) ((rd_T61 l0 x10_1).f6) ((rd_T61 l0 x10_1).f7) t1154 t1155 t1156 t1157 t1158 t1159 t1162 t1163 _ ?side1 ?side2 A11.out).mono ?_); (case side1 => exact cs_q (Kd.C_below HR1152_5.out HB.out)); (case side2 => exact HC1152_5.out); rintro e w14 ⟨v1160, rfl, ho0, hb⟩; refine ⟨_, rfl, ?_⟩; have hs_v1160 : (v1160 : Value).oneCell' = true := (by first | (obtain ⟨A_, c_, e_⟩ := Kd.R_slice ho0; simp [e_, Value.oneCell']) | (obtain ⟨A_, c_, e_⟩ := Kd.S_slice ho0; simp [e_, Value.oneCell']) | (obtain ⟨A_, c_, e_⟩ := Kd.N_slice ho0; simp [e_, Value.oneCell']) | (obtain ⟨A_, c_, e_⟩ := Kd.V_slice ho0; simp [e_, Value.oneCell'])); have hst_v1160 := fun (w_ : World) (a_ : Addr) m_ => run_store Try.prog w_ a_ v1160 m_ hs_v1160; replace HO_5 := Aside0.mk (Kd.S_elder' (kS_q HO_5) (Kd.R_base ho0) hb); have HO1161 := Aside0.mk (Kd.R_lower ho0 (below_size (bw_q HB))); replace BK1153 := Aside0.mk (blk_below (g := gb1153) (bk_q BK1153) hb); replace HB := Aside0.mk (below_step (bw_q HB) hb); (try clear hb); (try clear hb2); (try clear hk); (try clear hi); (try clear ho0); obtain ⟨Ao16, co16, eo16⟩ := Kd.R_slice HO1161.out; subst eo16) | ((with_reducible refine gate_builtin (b := .append) (xs := #[.tmp 23, .tmp 26]) rfl ?_); at_builtin; refine Kd.S_append k61 (w0 := w) w.heap.size rfl (.tmp 23) (.tmp 26) 41 61 (.agg #[(.int .i64 0), (.int .i64 0), (.int .i64 0), (.int .i64 0), (.int .i64 0), (.slice none 0 0), (.int .i64 0), (.bool false)]) 80 rfl Try.underlying41 info61 rfl (by decide) (by omega) u5 x5_1 (⟨t1154, t1155, t1156, t1157, t1158, t1159, t1162, t1163⟩ : S61) [.int .i64 t1154, .int .i64 t1155, .int .i64 t1156, .int .i64 t1157, .int .i64 t1158, .slice Ao16 t1159.length co16, .int .i64 t1162, .bool t1163] (fun k_ => k_ ≠ gb1153) (fun k_ => some k_ = (.slice Ao16 t1159.length co16 : Value).ownBlock) rfl rfl ?aP (fun k_ hk_ => ((Kd.R_mono (ok' := fun k_ => ((fun k_ => k_ ≠ gb1153)) k_ ∧ some k_ ≠ (u5 : Value).ownBlock) (Kd.R_types (Kd.R_apart' (HO1161.out) (Kd.S_typed HO_5.out) (by decide)) BK1153.out (by decide)) (fun k_ hk => ⟨hk.2, hk.1.2⟩))).1 k_ hk_.symm) ?aF ?aO ?aB ?aS ?aL ?_; (case aP => exact k61_mkM _ _ _ (⟨t1154, t1155, t1156, t1157, t1158, t1159, t1162, t1163⟩ : S61) (Kd.R_mono (Kd.R_tight rfl (Kd.R_mono (ok' := fun k_ => ((fun k_ => k_ ≠ gb1153)) k_ ∧ some k_ ≠ (u5 : Value).ownBlock) (Kd.R_types (Kd.R_apart' (HO1161.out) (Kd.S_typed HO_5.out) (by decide)) BK1153.out (by decide)) (fun k_ hk => ⟨hk.2, hk.1.2⟩))) (fun _ h_ => h_))); (case aB => exact (bw_q HB)); (case aF => exact (fun k_ hk => Kd.freshB (g := gb1153) (o := .cells #[.int .i64 ((rd_T61 l0 x10_1).f0), .int .i64 ((rd_T61 l0 x10_1).f1), .int .i64 ((rd_T61 l0 x10_1).f2), .int .i64 ((rd_T61 l0 x10_1).f3), .int .i64 ((rd_T61 l0 x10_1).f4), .slice A1152_5 ((rd_T61 l0 x10_1).f5).length c1152_5, .int .i64 ((rd_T61 l0 x10_1).f6), .bool ((rd_T61 l0 x10_1).f7)] 61 (0, 0)) (bk_q BK1153) k_ hk)); (case aO => exact (by (with_reducible repeat (first | apply Kd.S_alloc | apply Kd.S_drewN | apply Kd.S_drew)); exact Kd.S_mono HO_5.out (fun k_ hk => ⟨hk.1, fun e_ => hk.2 e_⟩))); (case aS => exact (below_size (bw_q HB))); (case aL => have := LMc12.out; omega); intro v1165 w15 ho hb hg hat; rw [← Ny1164.out] at ho; replace BK1153 := Aside0.mk (blk_grown (g := gb1153) (o := .cells #[.int .i64 ((rd_T61 l0 x10_1).f0), .int .i64 ((rd_T61 l0 x10_1).f1), .int .i64 ((rd_T61 l0 x10_1).f2), .int .i64 ((rd_T61 l0 x10_1).f3), .int .i64 ((rd_T61 l0 x10_1).f4), .slice A1152_5 ((rd_T61 l0 x10_1).f5).length c1152_5, .int .i64 ((rd_T61 l0 x10_1).f6), .bool ((rd_T61 l0 x10_1).f7)] 61 (0, 0)) (bk_q BK1153) hg (Kd.S_away HO_5.out (fun _ hk => hk.1))); replace HB := Aside0.mk (hb); have HO1166 := Aside0.mk (ho); clear HO_5 HO1161; clear ho hb hg hat))
        go_roundg k1
        case measure => have := HK1.out; omega
        case rel => exact ⟨(y1164), (wrap64 (x10_1 + 1)), (by first | rfl | (simp; done) | (simp [*]; done)), H', ⟨by have := HK1.out; omega⟩, ⟨by (with_reducible repeat (first | apply Kd.S_alloc | apply Kd.S_drewN | apply Kd.S_drew)); exact Kd.S_mono HO1166.out (fun _ hk => trivial)⟩, ⟨bw_q HB⟩⟩
       ·rw [if_neg c12] at H
        exact absurd H (by simp)
      ·rw [if_neg c6] at H
       have c6b0 : (((rd_T61 l0 x10_1).f0) == a1) = false := beq_eq_false_iff_ne.mpr c6
       have c6b1 : (((rd_T61 l0 x10_1).f0) != a1) = true := bne_iff_ne.mpr c6
       have HC17 := Aside0.mk H
       clear H
       have p1152 : 0 ≤ (x10_1 : Int) := of_decide_eq_true as_q
       have q1152 : x10_1 < (l0.length : Int) := of_decide_eq_true as_q
       obtain ⟨ad1152, A1152_5, c1152_5, e1152, hx1152_0, hx1152_1, hx1152_2, hx1152_3, hx1152_4, hx1152_5, hx1152_6, hx1152_7, hl1152_5, hi1152_5⟩ := at_T61 HR0.out x10_1 p1152 q1152
       cases e1152
       replace hx1152_0 := (HB.out.cell (World.block_lt_of_cell? w _ hx1152_0)).trans hx1152_0
       replace hx1152_1 := (HB.out.cell (World.block_lt_of_cell? w _ hx1152_1)).trans hx1152_1
       replace hx1152_2 := (HB.out.cell (World.block_lt_of_cell? w _ hx1152_2)).trans hx1152_2
       replace hx1152_3 := (HB.out.cell (World.block_lt_of_cell? w _ hx1152_3)).trans hx1152_3
       replace hx1152_4 := (HB.out.cell (World.block_lt_of_cell? w _ hx1152_4)).trans hx1152_4
       replace hx1152_5 := (HB.out.cell (World.block_lt_of_cell? w _ hx1152_5)).trans hx1152_5
       replace hx1152_6 := (HB.out.cell (World.block_lt_of_cell? w _ hx1152_6)).trans hx1152_6
       replace hx1152_7 := (HB.out.cell (World.block_lt_of_cell? w _ hx1152_7)).trans hx1152_7
       have HR1152_5 := Aside0.mk hi1152_5
       have HC1152_5 := Aside0.mk hl1152_5
       clear hi1152_5 hl1152_5
       replace p1152 := eq_true p1152
       replace q1152 := eq_true q1152
       go_upto_if 22 with (first | ((with_reducible refine gate_dst (N := 7) rfl ?_); refine box_q 7 #[.int .i64 0, .int .i64 0, .int .i64 0, .int .i64 0, .int .i64 0, .slice none 0 0, .int .i64 0, .bool false] 61 ?_; intro gb1153 hg w18 hbox hb; replace HO_5 := Aside0.mk (Kd.S_below (Kd.S_elderB (kS_q HO_5) gb1153 (Nat.le_of_eq hg.symm)) hb); have BK1153 := Aside0.mk (hbox); have GW1153 := Aside0.mk ((by rw [hg]; exact (below_size (bw_q HB)) : w.heap.size ≤ gb1153)); have GE1153 := Aside0.mk ((by rw [hg]; exact (below_size (bw_q HB)) : w.heap.size ≤ gb1153)); replace HB := Aside0.mk (below_step (bw_q HB) hb); clear hb hbox hg; have hcz19_0 : w18.cell? ⟨gb1153, 0, none⟩ = some (.int .i64 0) := (blk_cell BK1153.out 0).trans rfl; have hcz19_1 : w18.cell? ⟨gb1153, 1, none⟩ = some (.int .i64 0) := (blk_cell BK1153.out 1).trans rfl; have hcz19_2 : w18.cell? ⟨gb1153, 2, none⟩ = some (.int .i64 0) := (blk_cell BK1153.out 2).trans rfl; have hcz19_3 : w18.cell? ⟨gb1153, 3, none⟩ = some (.int .i64 0) := (blk_cell BK1153.out 3).trans rfl; have hcz19_4 : w18.cell? ⟨gb1153, 4, none⟩ = some (.int .i64 0) := (blk_cell BK1153.out 4).trans rfl; have hcz19_5 : w18.cell? ⟨gb1153, 5, none⟩ = some (.slice none 0 0) := (blk_cell BK1153.out 5).trans rfl; have hcz19_6 : w18.cell? ⟨gb1153, 6, none⟩ = some (.int .i64 0) := (blk_cell BK1153.out 6).trans rfl; have hcz19_7 : w18.cell? ⟨gb1153, 7, none⟩ = some (.bool false) := (blk_cell BK1153.out 7).trans rfl; have hfz19_0 := blk_frozen BK1153.out 0; have hfz19_1 := blk_frozen BK1153.out 1; have hfz19_2 := blk_frozen BK1153.out 2; have hfz19_3 := blk_frozen BK1153.out 3; have hfz19_4 := blk_frozen BK1153.out 4; have hfz19_5 := blk_frozen BK1153.out 5; have hfz19_6 := blk_frozen BK1153.out 6; have hfz19_7 := blk_frozen BK1153.out 7))
       have n0_ : Aside0 (Kd.S k61 61 ((((((((w18.setCell ⟨gb1153, 0, none⟩ (.int .i64 ((rd_T61 l0 x10_1).f0))).setCell ⟨gb1153, 1, none⟩ (.int .i64 ((rd_T61 l0 x10_1).f1))).setCell ⟨gb1153, 2, none⟩ (.int .i64 ((rd_T61 l0 x10_1).f2))).setCell ⟨gb1153, 3, none⟩ (.int .i64 ((rd_T61 l0 x10_1).f3))).setCell ⟨gb1153, 4, none⟩ (.int .i64 ((rd_T61 l0 x10_1).f4))).setCell ⟨gb1153, 5, none⟩ (.slice A1152_5 ((rd_T61 l0 x10_1).f5).length c1152_5)).setCell ⟨gb1153, 6, none⟩ (.int .i64 ((rd_T61 l0 x10_1).f6))).setCell ⟨gb1153, 7, none⟩ (.bool ((rd_T61 l0 x10_1).f7))) w.heap.size (fun k_ => k_ ≠ gb1153) u5 x5_1) := ⟨by (with_reducible repeat (first | apply Kd.S_alloc | apply Kd.S_drewN | apply Kd.S_drew)); exact Kd.S_mono (Kd.S_far (p := ⟨gb1153, 7, none⟩) (Kd.S_far (p := ⟨gb1153, 6, none⟩) (Kd.S_far (p := ⟨gb1153, 5, none⟩) (Kd.S_far (p := ⟨gb1153, 4, none⟩) (Kd.S_far (p := ⟨gb1153, 3, none⟩) (Kd.S_far (p := ⟨gb1153, 2, none⟩) (Kd.S_far (p := ⟨gb1153, 1, none⟩) (Kd.S_far (p := ⟨gb1153, 0, none⟩) (Kd.S_mono HO_5.out (fun k_ hk => (⟨hk, hk.2⟩ : _ ∧ k_ ≠ gb1153))) (fun _ hk => hk.2) (.int .i64 ((rd_T61 l0 x10_1).f0))) (fun _ hk => hk.2) (.int .i64 ((rd_T61 l0 x10_1).f1))) (fun _ hk => hk.2) (.int .i64 ((rd_T61 l0 x10_1).f2))) (fun _ hk => hk.2) (.int .i64 ((rd_T61 l0 x10_1).f3))) (fun _ hk => hk.2) (.int .i64 ((rd_T61 l0 x10_1).f4))) (fun _ hk => hk.2) (.slice A1152_5 ((rd_T61 l0 x10_1).f5).length c1152_5)) (fun _ hk => hk.2) (.int .i64 ((rd_T61 l0 x10_1).f6))) (fun _ hk => hk.2) (.bool ((rd_T61 l0 x10_1).f7))) (fun _ hk => hk.1.2)⟩
       have n1_ : Aside0 (((((((((w18.setCell ⟨gb1153, 0, none⟩ (.int .i64 ((rd_T61 l0 x10_1).f0))).setCell ⟨gb1153, 1, none⟩ (.int .i64 ((rd_T61 l0 x10_1).f1))).setCell ⟨gb1153, 2, none⟩ (.int .i64 ((rd_T61 l0 x10_1).f2))).setCell ⟨gb1153, 3, none⟩ (.int .i64 ((rd_T61 l0 x10_1).f3))).setCell ⟨gb1153, 4, none⟩ (.int .i64 ((rd_T61 l0 x10_1).f4))).setCell ⟨gb1153, 5, none⟩ (.slice A1152_5 ((rd_T61 l0 x10_1).f5).length c1152_5)).setCell ⟨gb1153, 6, none⟩ (.int .i64 ((rd_T61 l0 x10_1).f6))).setCell ⟨gb1153, 7, none⟩ (.bool ((rd_T61 l0 x10_1).f7))).heap[gb1153]? = some (.cells #[.int .i64 ((rd_T61 l0 x10_1).f0), .int .i64 ((rd_T61 l0 x10_1).f1), .int .i64 ((rd_T61 l0 x10_1).f2), .int .i64 ((rd_T61 l0 x10_1).f3), .int .i64 ((rd_T61 l0 x10_1).f4), .slice A1152_5 ((rd_T61 l0 x10_1).f5).length c1152_5, .int .i64 ((rd_T61 l0 x10_1).f6), .bool ((rd_T61 l0 x10_1).f7)] 61 (0, 0))) := ⟨by refine bz_ ?_; refine blk_put (cs := #[.int .i64 ((rd_T61 l0 x10_1).f0), .int .i64 ((rd_T61 l0 x10_1).f1), .int .i64 ((rd_T61 l0 x10_1).f2), .int .i64 ((rd_T61 l0 x10_1).f3), .int .i64 ((rd_T61 l0 x10_1).f4), .slice A1152_5 ((rd_T61 l0 x10_1).f5).length c1152_5, .int .i64 ((rd_T61 l0 x10_1).f6), .bool false]) ?_ 7 _ rfl; refine bz_ ?_; refine blk_put (cs := #[.int .i64 ((rd_T61 l0 x10_1).f0), .int .i64 ((rd_T61 l0 x10_1).f1), .int .i64 ((rd_T61 l0 x10_1).f2), .int .i64 ((rd_T61 l0 x10_1).f3), .int .i64 ((rd_T61 l0 x10_1).f4), .slice A1152_5 ((rd_T61 l0 x10_1).f5).length c1152_5, .int .i64 0, .bool false]) ?_ 6 _ rfl; refine bz_ ?_; refine blk_put (cs := #[.int .i64 ((rd_T61 l0 x10_1).f0), .int .i64 ((rd_T61 l0 x10_1).f1), .int .i64 ((rd_T61 l0 x10_1).f2), .int .i64 ((rd_T61 l0 x10_1).f3), .int .i64 ((rd_T61 l0 x10_1).f4), .slice none 0 0, .int .i64 0, .bool false]) ?_ 5 _ rfl; refine bz_ ?_; refine blk_put (cs := #[.int .i64 ((rd_T61 l0 x10_1).f0), .int .i64 ((rd_T61 l0 x10_1).f1), .int .i64 ((rd_T61 l0 x10_1).f2), .int .i64 ((rd_T61 l0 x10_1).f3), .int .i64 0, .slice none 0 0, .int .i64 0, .bool false]) ?_ 4 _ rfl; refine bz_ ?_; refine blk_put (cs := #[.int .i64 ((rd_T61 l0 x10_1).f0), .int .i64 ((rd_T61 l0 x10_1).f1), .int .i64 ((rd_T61 l0 x10_1).f2), .int .i64 0, .int .i64 0, .slice none 0 0, .int .i64 0, .bool false]) ?_ 3 _ rfl; refine bz_ ?_; refine blk_put (cs := #[.int .i64 ((rd_T61 l0 x10_1).f0), .int .i64 ((rd_T61 l0 x10_1).f1), .int .i64 0, .int .i64 0, .int .i64 0, .slice none 0 0, .int .i64 0, .bool false]) ?_ 2 _ rfl; refine bz_ ?_; refine blk_put (cs := #[.int .i64 ((rd_T61 l0 x10_1).f0), .int .i64 0, .int .i64 0, .int .i64 0, .int .i64 0, .slice none 0 0, .int .i64 0, .bool false]) ?_ 1 _ rfl; refine bz_ ?_; refine blk_put (cs := #[.int .i64 0, .int .i64 0, .int .i64 0, .int .i64 0, .int .i64 0, .slice none 0 0, .int .i64 0, .bool false]) ?_ 0 _ rfl; refine bz_ ?_; exact BK1153.out⟩
       have n2_ : Aside0 (Below w.heap.size w ((((((((w18.setCell ⟨gb1153, 0, none⟩ (.int .i64 ((rd_T61 l0 x10_1).f0))).setCell ⟨gb1153, 1, none⟩ (.int .i64 ((rd_T61 l0 x10_1).f1))).setCell ⟨gb1153, 2, none⟩ (.int .i64 ((rd_T61 l0 x10_1).f2))).setCell ⟨gb1153, 3, none⟩ (.int .i64 ((rd_T61 l0 x10_1).f3))).setCell ⟨gb1153, 4, none⟩ (.int .i64 ((rd_T61 l0 x10_1).f4))).setCell ⟨gb1153, 5, none⟩ (.slice A1152_5 ((rd_T61 l0 x10_1).f5).length c1152_5)).setCell ⟨gb1153, 6, none⟩ (.int .i64 ((rd_T61 l0 x10_1).f6))).setCell ⟨gb1153, 7, none⟩ (.bool ((rd_T61 l0 x10_1).f7)))) := ⟨bw_q HB⟩
       (try clear HO_5)
       (try clear BK1153)
       (try clear HB)
       generalize ((((((((w18.setCell ⟨gb1153, 0, none⟩ (.int .i64 ((rd_T61 l0 x10_1).f0))).setCell ⟨gb1153, 1, none⟩ (.int .i64 ((rd_T61 l0 x10_1).f1))).setCell ⟨gb1153, 2, none⟩ (.int .i64 ((rd_T61 l0 x10_1).f2))).setCell ⟨gb1153, 3, none⟩ (.int .i64 ((rd_T61 l0 x10_1).f3))).setCell ⟨gb1153, 4, none⟩ (.int .i64 ((rd_T61 l0 x10_1).f4))).setCell ⟨gb1153, 5, none⟩ (.slice A1152_5 ((rd_T61 l0 x10_1).f5).length c1152_5)).setCell ⟨gb1153, 6, none⟩ (.int .i64 ((rd_T61 l0 x10_1).f6))).setCell ⟨gb1153, 7, none⟩ (.bool ((rd_T61 l0 x10_1).f7))) = w20 at n0_ n1_ n2_ ⊢
       have HO_5 := n0_
       have BK1153 := n1_
       have HB := n2_
       clear n0_ n1_ n2_
       (try clear hx1152_0); (try clear hx1152_1); (try clear hx1152_2); (try clear hx1152_3); (try clear hx1152_4); (try clear hx1152_5); (try clear hx1152_6); (try clear hx1152_7)
       have H := HC17.out
       clear HC17
       by_cases c21 : ((rd_T61 l0 x10_1).f0) = 9
       ·rw [if_pos c21] at H
        have c21b0 : (((rd_T61 l0 x10_1).f0) == 9) = true := beq_iff_eq.mpr c21
        have c21b1 : (((rd_T61 l0 x10_1).f0) != 9) = false := bne_eq_false_iff_eq.mpr c21
        clear c21
        (first | rw [c21b0] | rw [c21b1] | (simp only [i64_w, i32_w]; first | rw [c21b0] | rw [c21b1]) | skip)
        replace H := Option.bind_eq_some_iff.mp H
        obtain ⟨⟨t1167, t1168, t1169, t1170, t1171, t1172, t1175, t1176⟩, A220, H⟩ := H
        replace H : (if x5_1.length < 1759218604441 then (impl_Scope.l0 k1 a1 (x5_1 ++ [(⟨t1167, t1168, t1169, t1170, t1171, t1172, t1175, t1176⟩ : S61)]) l0 (l0.length : Int) (wrap64 (x10_1 + 1))) else (none)) = some r := H
        have A22 := Aside0.mk A220
        clear A220
        by_cases c23 : x5_1.length < 1759218604441
        ·rw [if_pos c23] at H
         have LMc23 := Aside0.mk c23
         clear c23
         obtain ⟨y1177, hy1177⟩ : ∃ y_ : List (S61), y_ = (x5_1 ++ [(⟨t1167, t1168, t1169, t1170, t1171, t1172, t1175, t1176⟩ : S61)]) := ⟨_, rfl⟩
         replace H : (impl_Scope.l0 k1 a1 y1177 l0 (l0.length : Int) (wrap64 (x10_1 + 1))) = some r := by first | (rw [hy1177]; with_reducible exact H) | (have H2_ := (Option.bind_some _ _).symm.trans H; rw [hy1177]; with_reducible exact H2_) | (have H2_ := (Option.bind_some _ _).symm.trans H; with_reducible exact H2_) | with_reducible exact H | (rw [hy1177]; exact H) | exact H
         have Ny1177 := Aside0.mk hy1177
         clear hy1177
         have H' := Aside0.mk H
         clear H
         obtain ⟨hcz24_0, hcz24_1, hcz24_2, hcz24_3, hcz24_4, hcz24_5, hcz24_6, hcz24_7⟩ := cz8_ BK1153
         obtain ⟨hfz24_0, hfz24_1, hfz24_2, hfz24_3, hfz24_4, hfz24_5, hfz24_6, hfz24_7⟩ := fz8_ BK1153
         go_wp2_with (first | ((with_reducible refine gate_callee (f := 108) rfl ?_); refine goesL_ (some 25) rfl rfl Try.func108 (by kernel_rfl) rfl #[.agg #[.int .i64 ((rd_T61 l0 x10_1).f0), .int .i64 ((rd_T61 l0 x10_1).f1), .int .i64 ((rd_T61 l0 x10_1).f2), .int .i64 ((rd_T61 l0 x10_1).f3), .int .i64 ((rd_T61 l0 x10_1).f4), .slice A1152_5 ((rd_T61 l0 x10_1).f5).length c1152_5, .int .i64 ((rd_T61 l0 x10_1).f6), .bool ((rd_T61 l0 x10_1).f7)]] rfl mp_q ?_; (with_reducible refine (impl_copyRecord.calls ((rd_T61 l0 x10_1).f0) ((rd_T61 l0 x10_1).f1) ((rd_T61 l0 x10_1).f2) ((rd_T61 l0 x10_1).f3) ((rd_T61 l0 x10_1).f4) _ _ ((rd_T61 l0 x10_1).f5) ((rd_T61 l0 x10_1).f6) ((rd_T61 l0 x10_1).f7) t1167 t1168 t1169 t1170 t1171 t1172 t1175 t1176 _ ?side1 ?side2 A22.out).mono ?_); (case side1 => exact cs_q (Kd.C_below HR1152_5.out HB.out)); (case side2 => exact HC1152_5.out); rintro e w25 ⟨v1173, rfl, ho0, hb⟩; refine ⟨_, rfl, ?_⟩; have hs_v1173 : (v1173 : Value).oneCell' = true := (by first | (obtain ⟨A_, c_, e_⟩ := Kd.R_slice ho0; simp [e_, Value.oneCell']) | (obtain ⟨A_, c_, e_⟩ := Kd.S_slice ho0; simp [e_, Value.oneCell']) | (obtain ⟨A_, c_, e_⟩ := Kd.N_slice ho0; simp [e_, Value.oneCell']) | (obtain ⟨A_, c_, e_⟩ := Kd.V_slice ho0; simp [e_, Value.oneCell'])); have hst_v1173 := fun (w_ : World) (a_ : Addr) m_ => run_store Try.prog w_ a_ v1173 m_ hs_v1173; replace HO_5 := Aside0.mk (Kd.S_elder' (kS_q HO_5) (Kd.R_base ho0) hb); have HO1174 := Aside0.mk (Kd.R_lower ho0 (below_size (bw_q HB))); replace BK1153 := Aside0.mk (blk_below (g := gb1153) (bk_q BK1153) hb); replace HB := Aside0.mk (below_step (bw_q HB) hb); (try clear hb); (try clear hb2); (try clear hk); (try clear hi); (try clear ho0); obtain ⟨Ao27, co27, eo27⟩ := Kd.R_slice HO1174.out; subst eo27) | ((with_reducible refine gate_builtin (b := .append) (xs := #[.tmp 23, .tmp 26]) rfl ?_); at_builtin; refine Kd.S_append k61 (w0 := w) w.heap.size rfl (.tmp 23) (.tmp 26) 41 61 (.agg #[(.int .i64 0), (.int .i64 0), (.int .i64 0), (.int .i64 0), (.int .i64 0), (.slice none 0 0), (.int .i64 0), (.bool false)]) 80 rfl Try.underlying41 info61 rfl (by decide) (by omega) u5 x5_1 (⟨t1167, t1168, t1169, t1170, t1171, t1172, t1175, t1176⟩ : S61) [.int .i64 t1167, .int .i64 t1168, .int .i64 t1169, .int .i64 t1170, .int .i64 t1171, .slice Ao27 t1172.length co27, .int .i64 t1175, .bool t1176] (fun k_ => k_ ≠ gb1153) (fun k_ => some k_ = (.slice Ao27 t1172.length co27 : Value).ownBlock) rfl rfl ?aP (fun k_ hk_ => ((Kd.R_mono (ok' := fun k_ => ((fun k_ => k_ ≠ gb1153)) k_ ∧ some k_ ≠ (u5 : Value).ownBlock) (Kd.R_types (Kd.R_apart' (HO1174.out) (Kd.S_typed HO_5.out) (by decide)) BK1153.out (by decide)) (fun k_ hk => ⟨hk.2, hk.1.2⟩))).1 k_ hk_.symm) ?aF ?aO ?aB ?aS ?aL ?_; (case aP => exact k61_mkM _ _ _ (⟨t1167, t1168, t1169, t1170, t1171, t1172, t1175, t1176⟩ : S61) (Kd.R_mono (Kd.R_tight rfl (Kd.R_mono (ok' := fun k_ => ((fun k_ => k_ ≠ gb1153)) k_ ∧ some k_ ≠ (u5 : Value).ownBlock) (Kd.R_types (Kd.R_apart' (HO1174.out) (Kd.S_typed HO_5.out) (by decide)) BK1153.out (by decide)) (fun k_ hk => ⟨hk.2, hk.1.2⟩))) (fun _ h_ => h_))); (case aB => exact (bw_q HB)); (case aF => exact (fun k_ hk => Kd.freshB (g := gb1153) (o := .cells #[.int .i64 ((rd_T61 l0 x10_1).f0), .int .i64 ((rd_T61 l0 x10_1).f1), .int .i64 ((rd_T61 l0 x10_1).f2), .int .i64 ((rd_T61 l0 x10_1).f3), .int .i64 ((rd_T61 l0 x10_1).f4), .slice A1152_5 ((rd_T61 l0 x10_1).f5).length c1152_5, .int .i64 ((rd_T61 l0 x10_1).f6), .bool ((rd_T61 l0 x10_1).f7)] 61 (0, 0)) (bk_q BK1153) k_ hk)); (case aO => exact (by (with_reducible repeat (first | apply Kd.S_alloc | apply Kd.S_drewN | apply Kd.S_drew)); exact Kd.S_mono HO_5.out (fun k_ hk => ⟨hk.1, fun e_ => hk.2 e_⟩))); (case aS => exact (below_size (bw_q HB))); (case aL => have := LMc23.out; omega); intro v1178 w26 ho hb hg hat; rw [← Ny1177.out] at ho; replace BK1153 := Aside0.mk (blk_grown (g := gb1153) (o := .cells #[.int .i64 ((rd_T61 l0 x10_1).f0), .int .i64 ((rd_T61 l0 x10_1).f1), .int .i64 ((rd_T61 l0 x10_1).f2), .int .i64 ((rd_T61 l0 x10_1).f3), .int .i64 ((rd_T61 l0 x10_1).f4), .slice A1152_5 ((rd_T61 l0 x10_1).f5).length c1152_5, .int .i64 ((rd_T61 l0 x10_1).f6), .bool ((rd_T61 l0 x10_1).f7)] 61 (0, 0)) (bk_q BK1153) hg (Kd.S_away HO_5.out (fun _ hk => hk.1))); replace HB := Aside0.mk (hb); have HO1179 := Aside0.mk (ho); clear HO_5 HO1174; clear ho hb hg hat))
         go_roundg k1
         case measure => have := HK1.out; omega
         case rel => exact ⟨(y1177), (wrap64 (x10_1 + 1)), (by first | rfl | (simp; done) | (simp [*]; done)), H', ⟨by have := HK1.out; omega⟩, ⟨by (with_reducible repeat (first | apply Kd.S_alloc | apply Kd.S_drewN | apply Kd.S_drew)); exact Kd.S_mono HO1179.out (fun _ hk => trivial)⟩, ⟨bw_q HB⟩⟩
        ·rw [if_neg c23] at H
         exact absurd H (by simp)
       ·rw [if_neg c21] at H
        have c21b0 : (((rd_T61 l0 x10_1).f0) == 9) = false := beq_eq_false_iff_ne.mpr c21
        have c21b1 : (((rd_T61 l0 x10_1).f0) != 9) = true := bne_iff_ne.mpr c21
        (first | rw [c21b0] | rw [c21b1] | (simp only [i64_w, i32_w]; first | rw [c21b0] | rw [c21b1]) | skip)
        have H' := Aside0.mk H
        clear H
        go_wp2
        go_roundg k1
        case measure => have := HK1.out; omega
        case rel => exact ⟨(x5_1), (wrap64 (x10_1 + 1)), (by first | rfl | (simp; done) | (simp [*]; done)), H', ⟨by have := HK1.out; omega⟩, ⟨by (with_reducible repeat (first | apply Kd.S_alloc | apply Kd.S_drewN | apply Kd.S_drew)); exact Kd.S_mono HO_5.out (fun _ hk => trivial)⟩, ⟨bw_q HB⟩⟩
     ·rw [if_neg c5] at H
      exact absurd H (by simp)
    ·rw [if_neg c4] at H
     exact absurd H (by simp)
   ·rw [if_neg c3] at H
    have c3b0 : decide (x10_1 < (l0.length : Int)) = false := decide_eq_false c3
    clear c3
    obtain rfl := Option.some.inj H
    go_wp2
    go_ret
    exact ⟨_, er_q, by (with_reducible repeat (first | apply Kd.S_alloc | apply Kd.S_drewN | apply Kd.S_drew)); exact HO_5.out, bw_q HB⟩

end Go.Proofs.Ythjmdiggglkeaaa.Q

/- A Go function as a Lean function, and its contract: for every input the Go code comes to what the Lean function tells. -/

namespace Go.Proofs.Ythjmdiggglkeaaa.Q
open Go.RowKit Go.Proofs.YthjmdiggglkeaaaW.PrintWords Go.Proofs.YthjmdiggglkeaaaW.PrintLast Go.Proofs.YthjmdiggglkeaaaW.PrintMore
attribute [local go_sem] max2_int min2_int max_two min_two max_three min_three max_four min_four   -- for this text's walks alone
set_option linter.unusedVariables false
set_option linter.unusedSimpArgs false

/-! ### impl_header: function 113 -/
def impl_header.f (a0_0 : Int) (a0_1 : Int) (a0_2 : Int) (a0_3 : Int) (a0_4 : Int) (l0_5 : List (S127)) (a0_6 : Int) (a0_7 : Bool) : Option (Int × Int × Int × Int × Int × (List (S127)) × Int × Bool) := if a0_1 = 3 then (some (a0_0, a0_1, a0_2, a0_3, a0_4, ([] : List (S127)), 1, false)) else (some (a0_0, a0_1, a0_2, a0_3, a0_4, ([] : List (S127)), 0, false))
set_option maxHeartbeats 8000000 in
set_option maxRecDepth 100000 in
theorem impl_header.calls (a0_0 : Int) (a0_1 : Int) (a0_2 : Int) (a0_3 : Int) (a0_4 : Int) (A0_5 : Option Addr) (c0_5 : Nat) (l0_5 : List (S127)) (a0_6 : Int) (a0_7 : Bool) (r1 : Int) (r2 : Int) (r3 : Int) (r4 : Int) (r5 : Int) (r6 : List (S127)) (r7 : Int) (r8 : Bool) (w : World) (hr0_5 : Kd.C k127 w A0_5 l0_5.length l0_5) (hc0_5 : l0_5.length ≤ c0_5) (h : impl_header.f a0_0 a0_1 a0_2 a0_3 a0_4 l0_5 a0_6 a0_7 = some (r1, r2, r3, r4, r5, r6, r7, r8)) :
  Calls Try.prog 113 #[.agg #[.int .i64 a0_0, .int .i64 a0_1, .int .i64 a0_2, .int .i64 a0_3, .int .i64 a0_4, .slice A0_5 l0_5.length c0_5, .int .i64 a0_6, .bool a0_7]] w fun e w' => ∃ v5_ : Value, e = .returned (.agg #[.int .i64 r1, .int .i64 r2, .int .i64 r3, .int .i64 r4, .int .i64 r5, v5_, .int .i64 r7, .bool r8]) ∧ Kd.R k127 127 w' w.heap.size (fun _ => True) v5_ r6 ∧ Below w.heap.size w w' := by
 have hu61 := Try.underlying61
 have HR0_5 := Aside0.mk hr0_5
 have HC0_5 := Aside0.mk hc0_5
 clear hr0_5 hc0_5
 have HB := Aside0.mk (Below.refl w.heap.size w)
 have H : (if a0_1 = 3 then (some (a0_0, a0_1, a0_2, a0_3, a0_4, ([] : List (S127)), 1, false)) else (some (a0_0, a0_1, a0_2, a0_3, a0_4, ([] : List (S127)), 0, false))) = some (r1, r2, r3, r4, r5, r6, r7, r8) := h
 clear h
 have HC2 := Aside0.mk H
 clear H
 go_enter Try.func113, Try.ntmps113
 go_upto_if 17 with (first | ((with_reducible refine gate_dst (N := 1) rfl ?_); refine box_q 1 #[.int .i64 a0_0, .int .i64 a0_1, .int .i64 a0_2, .int .i64 a0_3, .int .i64 a0_4, .slice A0_5 l0_5.length c0_5, .int .i64 a0_6, .bool a0_7] 61 ?_; intro gb1180 hg w3 hbox hb; have BK1180 := Aside0.mk (hbox); have GW1180 := Aside0.mk ((by rw [hg]; exact (below_size (bw_q HB)) : w.heap.size ≤ gb1180)); have GE1180 := Aside0.mk ((by rw [hg]; exact (below_size (bw_q HB)) : w.heap.size ≤ gb1180)); replace HB := Aside0.mk (below_step (bw_q HB) hb); clear hb hbox hg) | ((with_reducible refine gate_dst (N := 2) rfl ?_); refine box_q 2 #[.int .i64 0, .int .i64 0, .int .i64 0, .int .i64 0, .int .i64 0, .slice none 0 0, .int .i64 0, .bool false] 61 ?_; intro gb1181 hg w4 hbox hb; have BK1181 := Aside0.mk (hbox); have GW1181 := Aside0.mk ((by rw [hg]; exact (below_size (bw_q HB)) : w.heap.size ≤ gb1181)); have GE1181 := Aside0.mk ((by rw [hg]; exact (below_size (bw_q HB)) : w.heap.size ≤ gb1181)); replace HB := Aside0.mk (below_step (bw_q HB) hb); have NB1180_1181 := Aside0.mk ((by rw [hg]; exact Nat.ne_of_lt (blk_lt (g := gb1180) (o := .cells #[.int .i64 a0_0, .int .i64 a0_1, .int .i64 a0_2, .int .i64 a0_3, .int .i64 a0_4, .slice A0_5 l0_5.length c0_5, .int .i64 a0_6, .bool a0_7] 61 (0, 0)) (bk_q BK1180)) : gb1180 ≠ gb1181)); have NB1181_1180 := Aside0.mk ((by rw [hg]; exact Nat.ne_of_gt (blk_lt (g := gb1180) (o := .cells #[.int .i64 a0_0, .int .i64 a0_1, .int .i64 a0_2, .int .i64 a0_3, .int .i64 a0_4, .slice A0_5 l0_5.length c0_5, .int .i64 a0_6, .bool a0_7] 61 (0, 0)) (bk_q BK1180)) : gb1181 ≠ gb1180)); replace BK1180 := Aside0.mk (blk_below (g := gb1180) (bk_q BK1180) hb); clear hb hbox hg; have hnb5 := NB1180_1181.out; have hnc5 := NB1181_1180.out; have hcz6_0 : w4.cell? ⟨gb1180, 0, none⟩ = some (.int .i64 a0_0) := (blk_cell BK1180.out 0).trans rfl; have hcz6_1 : w4.cell? ⟨gb1180, 1, none⟩ = some (.int .i64 a0_1) := (blk_cell BK1180.out 1).trans rfl; have hcz6_2 : w4.cell? ⟨gb1180, 2, none⟩ = some (.int .i64 a0_2) := (blk_cell BK1180.out 2).trans rfl; have hcz6_3 : w4.cell? ⟨gb1180, 3, none⟩ = some (.int .i64 a0_3) := (blk_cell BK1180.out 3).trans rfl; have hcz6_4 : w4.cell? ⟨gb1180, 4, none⟩ = some (.int .i64 a0_4) := (blk_cell BK1180.out 4).trans rfl; have hcz6_5 : w4.cell? ⟨gb1180, 5, none⟩ = some (.slice A0_5 l0_5.length c0_5) := (blk_cell BK1180.out 5).trans rfl; have hcz6_6 : w4.cell? ⟨gb1180, 6, none⟩ = some (.int .i64 a0_6) := (blk_cell BK1180.out 6).trans rfl; have hcz6_7 : w4.cell? ⟨gb1180, 7, none⟩ = some (.bool a0_7) := (blk_cell BK1180.out 7).trans rfl; have hfz6_0 := blk_frozen BK1180.out 0; have hfz6_1 := blk_frozen BK1180.out 1; have hfz6_2 := blk_frozen BK1180.out 2; have hfz6_3 := blk_frozen BK1180.out 3; have hfz6_4 := blk_frozen BK1180.out 4; have hfz6_5 := blk_frozen BK1180.out 5; have hfz6_6 := blk_frozen BK1180.out 6; have hfz6_7 := blk_frozen BK1180.out 7) | ((with_reducible refine gate_dst (N := 3) rfl ?_); refine box_q 3 #[.int .i64 0, .int .i64 0, .int .i64 0, .int .i64 0, .int .i64 0, .slice none 0 0, .int .i64 0, .bool false] 61 ?_; intro gb1182 hg w7 hbox hb; have BK1182 := Aside0.mk (hbox); have GW1182 := Aside0.mk ((by rw [hg]; exact (below_size (bw_q HB)) : w.heap.size ≤ gb1182)); have GE1182 := Aside0.mk ((by rw [hg]; exact (below_size (bw_q HB)) : w.heap.size ≤ gb1182)); replace HB := Aside0.mk (below_step (bw_q HB) hb); have NB1180_1182 := Aside0.mk ((by rw [hg]; exact Nat.ne_of_lt (blk_lt (g := gb1180) (o := .cells #[.int .i64 a0_0, .int .i64 a0_1, .int .i64 a0_2, .int .i64 a0_3, .int .i64 a0_4, .slice A0_5 l0_5.length c0_5, .int .i64 a0_6, .bool a0_7] 61 (0, 0)) (bk_q BK1180)) : gb1180 ≠ gb1182)); have NB1182_1180 := Aside0.mk ((by rw [hg]; exact Nat.ne_of_gt (blk_lt (g := gb1180) (o := .cells #[.int .i64 a0_0, .int .i64 a0_1, .int .i64 a0_2, .int .i64 a0_3, .int .i64 a0_4, .slice A0_5 l0_5.length c0_5, .int .i64 a0_6, .bool a0_7] 61 (0, 0)) (bk_q BK1180)) : gb1182 ≠ gb1180)); replace BK1180 := Aside0.mk (blk_below (g := gb1180) (bk_q BK1180) hb); have NB1181_1182 := Aside0.mk ((by rw [hg]; exact Nat.ne_of_lt (blk_lt (g := gb1181) (o := .cells #[.int .i64 0, .int .i64 0, .int .i64 0, .int .i64 0, .int .i64 0, .slice none 0 0, .int .i64 0, .bool false] 61 (0, 0)) (bk_q BK1181)) : gb1181 ≠ gb1182)); have NB1182_1181 := Aside0.mk ((by rw [hg]; exact Nat.ne_of_gt (blk_lt (g := gb1181) (o := .cells #[.int .i64 0, .int .i64 0, .int .i64 0, .int .i64 0, .int .i64 0, .slice none 0 0, .int .i64 0, .bool false] 61 (0, 0)) (bk_q BK1181)) : gb1182 ≠ gb1181)); replace BK1181 := Aside0.mk (blk_below (g := gb1181) (bk_q BK1181) hb); clear hb hbox hg; have hnb8 := NB1182_1180.out; have hnc8 := NB1180_1182.out; have hnb9 := NB1182_1181.out; have hnc9 := NB1181_1182.out; have hcz10_0 : w7.cell? ⟨gb1182, 0, none⟩ = some (.int .i64 0) := (blk_cell BK1182.out 0).trans rfl; have hcz10_1 : w7.cell? ⟨gb1182, 1, none⟩ = some (.int .i64 0) := (blk_cell BK1182.out 1).trans rfl; have hcz10_2 : w7.cell? ⟨gb1182, 2, none⟩ = some (.int .i64 0) := (blk_cell BK1182.out 2).trans rfl; have hcz10_3 : w7.cell? ⟨gb1182, 3, none⟩ = some (.int .i64 0) := (blk_cell BK1182.out 3).trans rfl; have hcz10_4 : w7.cell? ⟨gb1182, 4, none⟩ = some (.int .i64 0) := (blk_cell BK1182.out 4).trans rfl; have hcz10_5 : w7.cell? ⟨gb1182, 5, none⟩ = some (.slice none 0 0) := (blk_cell BK1182.out 5).trans rfl; have hcz10_6 : w7.cell? ⟨gb1182, 6, none⟩ = some (.int .i64 0) := (blk_cell BK1182.out 6).trans rfl; have hcz10_7 : w7.cell? ⟨gb1182, 7, none⟩ = some (.bool false) := (blk_cell BK1182.out 7).trans rfl; have hfz10_0 := blk_frozen BK1182.out 0; have hfz10_1 := blk_frozen BK1182.out 1; have hfz10_2 := blk_frozen BK1182.out 2; have hfz10_3 := blk_frozen BK1182.out 3; have hfz10_4 := blk_frozen BK1182.out 4; have hfz10_5 := blk_frozen BK1182.out 5; have hfz10_6 := blk_frozen BK1182.out 6; have hfz10_7 := blk_frozen BK1182.out 7; have hcz11_0 : w7.cell? ⟨gb1180, 0, none⟩ = some (.int .i64 a0_0) := (blk_cell BK1180.out 0).trans rfl; have hcz11_1 : w7.cell? ⟨gb1180, 1, none⟩ = some (.int .i64 a0_1) := (blk_cell BK1180.out 1).trans rfl; have hcz11_2 : w7.cell? ⟨gb1180, 2, none⟩ = some (.int .i64 a0_2) := (blk_cell BK1180.out 2).trans rfl; have hcz11_3 : w7.cell? ⟨gb1180, 3, none⟩ = some (.int .i64 a0_3) := (blk_cell BK1180.out 3).trans rfl; have hcz11_4 : w7.cell? ⟨gb1180, 4, none⟩ = some (.int .i64 a0_4) := (blk_cell BK1180.out 4).trans rfl; have hcz11_5 : w7.cell? ⟨gb1180, 5, none⟩ = some (.slice A0_5 l0_5.length c0_5) := (blk_cell BK1180.out 5).trans rfl; have hcz11_6 : w7.cell? ⟨gb1180, 6, none⟩ = some (.int .i64 a0_6) := (blk_cell BK1180.out 6).trans rfl; have hcz11_7 : w7.cell? ⟨gb1180, 7, none⟩ = some (.bool a0_7) := (blk_cell BK1180.out 7).trans rfl; have hfz11_0 := blk_frozen BK1180.out 0; have hfz11_1 := blk_frozen BK1180.out 1; have hfz11_2 := blk_frozen BK1180.out 2; have hfz11_3 := blk_frozen BK1180.out 3; have hfz11_4 := blk_frozen BK1180.out 4; have hfz11_5 := blk_frozen BK1180.out 5; have hfz11_6 := blk_frozen BK1180.out 6; have hfz11_7 := blk_frozen BK1180.out 7))
 have n0_ : Aside0 (((((((((w7.setCell ⟨gb1182, 0, none⟩ (.int .i64 a0_0)).setCell ⟨gb1182, 1, none⟩ (.int .i64 a0_1)).setCell ⟨gb1182, 2, none⟩ (.int .i64 a0_2)).setCell ⟨gb1182, 3, none⟩ (.int .i64 a0_3)).setCell ⟨gb1182, 4, none⟩ (.int .i64 a0_4)).setCell ⟨gb1182, 5, none⟩ (.slice none 0 0)).setCell ⟨gb1182, 6, none⟩ (.int .i64 0)).setCell ⟨gb1182, 7, none⟩ (.bool false)).heap[gb1180]? = some (.cells #[.int .i64 a0_0, .int .i64 a0_1, .int .i64 a0_2, .int .i64 a0_3, .int .i64 a0_4, .slice A0_5 l0_5.length c0_5, .int .i64 a0_6, .bool a0_7] 61 (0, 0))) := ⟨by refine bz_ ?_; refine blk_far ?_ NB1180_1182.out _; refine bz_ ?_; refine blk_far ?_ NB1180_1182.out _; refine bz_ ?_; refine blk_far ?_ NB1180_1182.out _; refine bz_ ?_; refine blk_far ?_ NB1180_1182.out _; refine bz_ ?_; refine blk_far ?_ NB1180_1182.out _; refine bz_ ?_; refine blk_far ?_ NB1180_1182.out _; refine bz_ ?_; refine blk_far ?_ NB1180_1182.out _; refine bz_ ?_; refine blk_far ?_ NB1180_1182.out _; refine bz_ ?_; exact BK1180.out⟩
 have n1_ : Aside0 (((((((((w7.setCell ⟨gb1182, 0, none⟩ (.int .i64 a0_0)).setCell ⟨gb1182, 1, none⟩ (.int .i64 a0_1)).setCell ⟨gb1182, 2, none⟩ (.int .i64 a0_2)).setCell ⟨gb1182, 3, none⟩ (.int .i64 a0_3)).setCell ⟨gb1182, 4, none⟩ (.int .i64 a0_4)).setCell ⟨gb1182, 5, none⟩ (.slice none 0 0)).setCell ⟨gb1182, 6, none⟩ (.int .i64 0)).setCell ⟨gb1182, 7, none⟩ (.bool false)).heap[gb1181]? = some (.cells #[.int .i64 0, .int .i64 0, .int .i64 0, .int .i64 0, .int .i64 0, .slice none 0 0, .int .i64 0, .bool false] 61 (0, 0))) := ⟨by refine bz_ ?_; refine blk_far ?_ NB1181_1182.out _; refine bz_ ?_; refine blk_far ?_ NB1181_1182.out _; refine bz_ ?_; refine blk_far ?_ NB1181_1182.out _; refine bz_ ?_; refine blk_far ?_ NB1181_1182.out _; refine bz_ ?_; refine blk_far ?_ NB1181_1182.out _; refine bz_ ?_; refine blk_far ?_ NB1181_1182.out _; refine bz_ ?_; refine blk_far ?_ NB1181_1182.out _; refine bz_ ?_; refine blk_far ?_ NB1181_1182.out _; refine bz_ ?_; exact BK1181.out⟩
 have n2_ : Aside0 (((((((((w7.setCell ⟨gb1182, 0, none⟩ (.int .i64 a0_0)).setCell ⟨gb1182, 1, none⟩ (.int .i64 a0_1)).setCell ⟨gb1182, 2, none⟩ (.int .i64 a0_2)).setCell ⟨gb1182, 3, none⟩ (.int .i64 a0_3)).setCell ⟨gb1182, 4, none⟩ (.int .i64 a0_4)).setCell ⟨gb1182, 5, none⟩ (.slice none 0 0)).setCell ⟨gb1182, 6, none⟩ (.int .i64 0)).setCell ⟨gb1182, 7, none⟩ (.bool false)).heap[gb1182]? = some (.cells #[.int .i64 a0_0, .int .i64 a0_1, .int .i64 a0_2, .int .i64 a0_3, .int .i64 a0_4, .slice none 0 0, .int .i64 0, .bool false] 61 (0, 0))) := ⟨by refine bz_ ?_; refine blk_put (cs := #[.int .i64 a0_0, .int .i64 a0_1, .int .i64 a0_2, .int .i64 a0_3, .int .i64 a0_4, .slice none 0 0, .int .i64 0, .bool false]) ?_ 7 _ rfl; refine bz_ ?_; refine blk_put (cs := #[.int .i64 a0_0, .int .i64 a0_1, .int .i64 a0_2, .int .i64 a0_3, .int .i64 a0_4, .slice none 0 0, .int .i64 0, .bool false]) ?_ 6 _ rfl; refine bz_ ?_; refine blk_put (cs := #[.int .i64 a0_0, .int .i64 a0_1, .int .i64 a0_2, .int .i64 a0_3, .int .i64 a0_4, .slice none 0 0, .int .i64 0, .bool false]) ?_ 5 _ rfl; refine bz_ ?_; refine blk_put (cs := #[.int .i64 a0_0, .int .i64 a0_1, .int .i64 a0_2, .int .i64 a0_3, .int .i64 0, .slice none 0 0, .int .i64 0, .bool false]) ?_ 4 _ rfl; refine bz_ ?_; refine blk_put (cs := #[.int .i64 a0_0, .int .i64 a0_1, .int .i64 a0_2, .int .i64 0, .int .i64 0, .slice none 0 0, .int .i64 0, .bool false]) ?_ 3 _ rfl; refine bz_ ?_; refine blk_put (cs := #[.int .i64 a0_0, .int .i64 a0_1, .int .i64 0, .int .i64 0, .int .i64 0, .slice none 0 0, .int .i64 0, .bool false]) ?_ 2 _ rfl; refine bz_ ?_; refine blk_put (cs := #[.int .i64 a0_0, .int .i64 0, .int .i64 0, .int .i64 0, .int .i64 0, .slice none 0 0, .int .i64 0, .bool false]) ?_ 1 _ rfl; refine bz_ ?_; refine blk_put (cs := #[.int .i64 0, .int .i64 0, .int .i64 0, .int .i64 0, .int .i64 0, .slice none 0 0, .int .i64 0, .bool false]) ?_ 0 _ rfl; refine bz_ ?_; exact BK1182.out⟩
 have n3_ : Aside0 (Below w.heap.size w ((((((((w7.setCell ⟨gb1182, 0, none⟩ (.int .i64 a0_0)).setCell ⟨gb1182, 1, none⟩ (.int .i64 a0_1)).setCell ⟨gb1182, 2, none⟩ (.int .i64 a0_2)).setCell ⟨gb1182, 3, none⟩ (.int .i64 a0_3)).setCell ⟨gb1182, 4, none⟩ (.int .i64 a0_4)).setCell ⟨gb1182, 5, none⟩ (.slice none 0 0)).setCell ⟨gb1182, 6, none⟩ (.int .i64 0)).setCell ⟨gb1182, 7, none⟩ (.bool false))) := ⟨bw_q HB⟩
 (try clear BK1180)
 (try clear BK1181)
 (try clear BK1182)
 (try clear HB)
 generalize ((((((((w7.setCell ⟨gb1182, 0, none⟩ (.int .i64 a0_0)).setCell ⟨gb1182, 1, none⟩ (.int .i64 a0_1)).setCell ⟨gb1182, 2, none⟩ (.int .i64 a0_2)).setCell ⟨gb1182, 3, none⟩ (.int .i64 a0_3)).setCell ⟨gb1182, 4, none⟩ (.int .i64 a0_4)).setCell ⟨gb1182, 5, none⟩ (.slice none 0 0)).setCell ⟨gb1182, 6, none⟩ (.int .i64 0)).setCell ⟨gb1182, 7, none⟩ (.bool false)) = w12 at n0_ n1_ n2_ n3_ ⊢
 have BK1180 := n0_
 have BK1181 := n1_
 have BK1182 := n2_
 have HB := n3_
 clear n0_ n1_ n2_ n3_
 have H := HC2.out
 clear HC2
 by_cases c13 : a0_1 = 3
 ·rw [if_pos c13] at H
  have c13b0 : (a0_1 == 3) = true := beq_iff_eq.mpr c13
  have c13b1 : (a0_1 != 3) = false := bne_eq_false_iff_eq.mpr c13
  clear c13
  (first | rw [c13b0] | rw [c13b1] | (simp only [i64_w, i32_w]; first | rw [c13b0] | rw [c13b1]) | skip)
  simp only [Option.some.injEq, Prod.mk.injEq] at H
  obtain ⟨rfl, rfl, rfl, rfl, rfl, rfl, rfl, rfl⟩ := H
  have hnb14 := NB1182_1180.out
  have hnc14 := NB1180_1182.out
  have hnb15 := NB1182_1181.out
  have hnc15 := NB1181_1182.out
  obtain ⟨hcz16_0, hcz16_1, hcz16_2, hcz16_3, hcz16_4, hcz16_5, hcz16_6, hcz16_7⟩ := cz8_ BK1182
  obtain ⟨hfz16_0, hfz16_1, hfz16_2, hfz16_3, hfz16_4, hfz16_5, hfz16_6, hfz16_7⟩ := fz8_ BK1182
  have hnb17 := NB1181_1180.out
  have hnc17 := NB1180_1181.out
  obtain ⟨hcz18_0, hcz18_1, hcz18_2, hcz18_3, hcz18_4, hcz18_5, hcz18_6, hcz18_7⟩ := cz8_ BK1181
  obtain ⟨hfz18_0, hfz18_1, hfz18_2, hfz18_3, hfz18_4, hfz18_5, hfz18_6, hfz18_7⟩ := fz8_ BK1181
  go_wp2
  refine bodyPost_ret (results_cell_row rfl _ _ gb1181 61 #[.int .i64 a0_0, .int .i64 a0_1, .int .i64 a0_2, .int .i64 a0_3, .int .i64 a0_4, .slice none 0 0, .int .i64 1, .bool false] (0, 0) _ rfl (by refine bz_ ?_; refine blk_put (cs := #[.int .i64 a0_0, .int .i64 a0_1, .int .i64 a0_2, .int .i64 a0_3, .int .i64 a0_4, .slice none 0 0, .int .i64 1, .bool false]) ?_ 7 _ rfl; refine bz_ ?_; refine blk_put (cs := #[.int .i64 a0_0, .int .i64 a0_1, .int .i64 a0_2, .int .i64 a0_3, .int .i64 a0_4, .slice none 0 0, .int .i64 0, .bool false]) ?_ 6 _ rfl; refine bz_ ?_; refine blk_put (cs := #[.int .i64 a0_0, .int .i64 a0_1, .int .i64 a0_2, .int .i64 a0_3, .int .i64 a0_4, .slice none 0 0, .int .i64 0, .bool false]) ?_ 5 _ rfl; refine bz_ ?_; refine blk_put (cs := #[.int .i64 a0_0, .int .i64 a0_1, .int .i64 a0_2, .int .i64 a0_3, .int .i64 0, .slice none 0 0, .int .i64 0, .bool false]) ?_ 4 _ rfl; refine bz_ ?_; refine blk_put (cs := #[.int .i64 a0_0, .int .i64 a0_1, .int .i64 a0_2, .int .i64 0, .int .i64 0, .slice none 0 0, .int .i64 0, .bool false]) ?_ 3 _ rfl; refine bz_ ?_; refine blk_put (cs := #[.int .i64 a0_0, .int .i64 a0_1, .int .i64 0, .int .i64 0, .int .i64 0, .slice none 0 0, .int .i64 0, .bool false]) ?_ 2 _ rfl; refine bz_ ?_; refine blk_put (cs := #[.int .i64 a0_0, .int .i64 0, .int .i64 0, .int .i64 0, .int .i64 0, .slice none 0 0, .int .i64 0, .bool false]) ?_ 1 _ rfl; refine bz_ ?_; refine blk_put (cs := #[.int .i64 0, .int .i64 0, .int .i64 0, .int .i64 0, .int .i64 0, .slice none 0 0, .int .i64 0, .bool false]) ?_ 0 _ rfl; refine bz_ ?_; refine blk_far ?_ NB1181_1182.out _; refine bz_ ?_; exact BK1181.out) Try.underlying61 rfl (by kernel_rfl)) rfl ?_
  exact ⟨_, er_q, by first | exact Kd.R_nil _ _ _ _ _ | exact Kd.N_nil _ _ _ _ _ | exact Kd.V_nil _ _ _ _ _ | exact Kd.Q_nil _ _ _ _ _ | exact Kd.S_nil _ _ _ _ _, bw_q HB⟩
 ·rw [if_neg c13] at H
  have c13b0 : (a0_1 == 3) = false := beq_eq_false_iff_ne.mpr c13
  have c13b1 : (a0_1 != 3) = true := bne_iff_ne.mpr c13
  (first | rw [c13b0] | rw [c13b1] | (simp only [i64_w, i32_w]; first | rw [c13b0] | rw [c13b1]) | skip)
  simp only [Option.some.injEq, Prod.mk.injEq] at H
  obtain ⟨rfl, rfl, rfl, rfl, rfl, rfl, rfl, rfl⟩ := H
  have hnb19 := NB1182_1180.out
  have hnc19 := NB1180_1182.out
  have hnb20 := NB1182_1181.out
  have hnc20 := NB1181_1182.out
  obtain ⟨hcz21_0, hcz21_1, hcz21_2, hcz21_3, hcz21_4, hcz21_5, hcz21_6, hcz21_7⟩ := cz8_ BK1182
  obtain ⟨hfz21_0, hfz21_1, hfz21_2, hfz21_3, hfz21_4, hfz21_5, hfz21_6, hfz21_7⟩ := fz8_ BK1182
  have hnb22 := NB1181_1180.out
  have hnc22 := NB1180_1181.out
  obtain ⟨hcz23_0, hcz23_1, hcz23_2, hcz23_3, hcz23_4, hcz23_5, hcz23_6, hcz23_7⟩ := cz8_ BK1181
  obtain ⟨hfz23_0, hfz23_1, hfz23_2, hfz23_3, hfz23_4, hfz23_5, hfz23_6, hfz23_7⟩ := fz8_ BK1181
  go_wp2
  refine bodyPost_ret (results_cell_row rfl _ _ gb1181 61 #[.int .i64 a0_0, .int .i64 a0_1, .int .i64 a0_2, .int .i64 a0_3, .int .i64 a0_4, .slice none 0 0, .int .i64 0, .bool false] (0, 0) _ rfl (by refine bz_ ?_; refine blk_put (cs := #[.int .i64 a0_0, .int .i64 a0_1, .int .i64 a0_2, .int .i64 a0_3, .int .i64 a0_4, .slice none 0 0, .int .i64 0, .bool false]) ?_ 7 _ rfl; refine bz_ ?_; refine blk_put (cs := #[.int .i64 a0_0, .int .i64 a0_1, .int .i64 a0_2, .int .i64 a0_3, .int .i64 a0_4, .slice none 0 0, .int .i64 0, .bool false]) ?_ 6 _ rfl; refine bz_ ?_; refine blk_put (cs := #[.int .i64 a0_0, .int .i64 a0_1, .int .i64 a0_2, .int .i64 a0_3, .int .i64 a0_4, .slice none 0 0, .int .i64 0, .bool false]) ?_ 5 _ rfl; refine bz_ ?_; refine blk_put (cs := #[.int .i64 a0_0, .int .i64 a0_1, .int .i64 a0_2, .int .i64 a0_3, .int .i64 0, .slice none 0 0, .int .i64 0, .bool false]) ?_ 4 _ rfl; refine bz_ ?_; refine blk_put (cs := #[.int .i64 a0_0, .int .i64 a0_1, .int .i64 a0_2, .int .i64 0, .int .i64 0, .slice none 0 0, .int .i64 0, .bool false]) ?_ 3 _ rfl; refine bz_ ?_; refine blk_put (cs := #[.int .i64 a0_0, .int .i64 a0_1, .int .i64 0, .int .i64 0, .int .i64 0, .slice none 0 0, .int .i64 0, .bool false]) ?_ 2 _ rfl; refine bz_ ?_; refine blk_put (cs := #[.int .i64 a0_0, .int .i64 0, .int .i64 0, .int .i64 0, .int .i64 0, .slice none 0 0, .int .i64 0, .bool false]) ?_ 1 _ rfl; refine bz_ ?_; refine blk_put (cs := #[.int .i64 0, .int .i64 0, .int .i64 0, .int .i64 0, .int .i64 0, .slice none 0 0, .int .i64 0, .bool false]) ?_ 0 _ rfl; refine bz_ ?_; exact BK1181.out) Try.underlying61 rfl (by kernel_rfl)) rfl ?_
  exact ⟨_, er_q, by first | exact Kd.R_nil _ _ _ _ _ | exact Kd.N_nil _ _ _ _ _ | exact Kd.V_nil _ _ _ _ _ | exact Kd.Q_nil _ _ _ _ _ | exact Kd.S_nil _ _ _ _ _, bw_q HB⟩

end Go.Proofs.Ythjmdiggglkeaaa.Q

/- A Go function as a Lean function, and its contract: for every input the Go code comes to what the Lean function tells. -/



namespace Go.Proofs.Ythjmdiggglkeaaa.Q
open Go.RowKit Go.Proofs.YthjmdiggglkeaaaW.PrintWords Go.Proofs.YthjmdiggglkeaaaW.PrintLast Go.Proofs.YthjmdiggglkeaaaW.PrintMore
attribute [local go_sem] max2_int min2_int max_two min_two max_three min_three max_four min_four   -- for this text's walks alone
set_option linter.unusedVariables false
set_option linter.unusedSimpArgs false

/-! ### impl_Headers: function 46 -/
def impl_Headers.l0 : Nat → List (S61) → List (S61) → Int → Int → Option ((List (S61)))
 | 0, _, _, _, _ => none
 | k + 1, x5, x10, x11, x12 => if x12 < x11 then (if 0 ≤ x12 then (if x12 < (x10.length : Int) then ((impl_header.f ((rd_T61 x10 x12).f0) ((rd_T61 x10 x12).f1) ((rd_T61 x10 x12).f2) ((rd_T61 x10 x12).f3) ((rd_T61 x10 x12).f4) ((rd_T61 x10 x12).f5) ((rd_T61 x10 x12).f6) ((rd_T61 x10 x12).f7)).bind fun bt1188 => (if x5.length < 1759218604441 then (impl_Headers.l0 k (x5 ++ [(⟨bt1188.1, bt1188.2.1, bt1188.2.2.1, bt1188.2.2.2.1, bt1188.2.2.2.2.1, bt1188.2.2.2.2.2.1, bt1188.2.2.2.2.2.2.1, bt1188.2.2.2.2.2.2.2⟩ : S61)]) x10 x11 (wrap64 (x12 + 1))) else (none))) else (none)) else (none)) else (some x5)
def impl_Headers.f (k : Nat) (l0 : List (S61)) (a1 : Int) : Option ((List (S61))) := (impl_Scope.f k l0 a1).bind fun t1183 => (impl_Headers.l0 k ([] : List (S61)) t1183 (t1183.length : Int) 0)
theorem impl_Headers.mono_l : ∀ k, (∀ y0 y1 y2 y3, LeO (impl_Headers.l0 k y0 y1 y2 y3) (impl_Headers.l0 (k + 1) y0 y1 y2 y3))
 | 0 => fun _ _ _ _ r h => by simp [impl_Headers.l0] at h
 | k + 1 => by
  have ih0 := impl_Headers.mono_l k
  ·intro y0 y1 y2 y3
   unfold impl_Headers.l0
   repeat' first
   | (with_reducible exact ih0 _ _ _ _)
   | (with_reducible exact impl_Scope.mono _ _ _)
   | (with_reducible exact LeO.refl _)
   | (with_reducible exact LeO.none _)
   | (with_reducible refine LeO.ite ?_ ?_)
   | (with_reducible refine LeO.bind ?_ (fun _ => ?_))
   | exact ih0 _ _ _ _
   | exact impl_Scope.mono _ _ _
   | exact LeO.none _
   | refine LeO.ite ?_ ?_
   | refine LeO.bind ?_ (fun _ => ?_)
theorem impl_Headers.mono : ∀ a0 a1 k, LeO (impl_Headers.f k a0 a1) (impl_Headers.f (k + 1) a0 a1) := by
 intro a0 a1 k
 have ih0 := impl_Headers.mono_l k
 unfold impl_Headers.f
 repeat' first
   | (with_reducible exact ih0 _ _ _ _)
   | (with_reducible exact impl_Scope.mono _ _ _)
   | (with_reducible exact LeO.refl _)
   | (with_reducible exact LeO.none _)
   | (with_reducible refine LeO.ite ?_ ?_)
   | (with_reducible refine LeO.bind ?_ (fun _ => ?_))
   | exact ih0 _ _ _ _
   | exact impl_Scope.mono _ _ _
   | exact LeO.none _
   | refine LeO.ite ?_ ?_
   | refine LeO.bind ?_ (fun _ => ?_)
set_option maxHeartbeats 8000000 in
set_option maxRecDepth 100000 in
theorem impl_Headers.calls (k : Nat) (A0 : Option Addr) (c0 : Nat) (l0 : List (S61)) (a1 : Int) (r : List (S61)) (w : World) (hr0 : Kd.C k61 w A0 l0.length l0) (hc0 : l0.length ≤ c0) (h : impl_Headers.f k l0 a1 = some r) :
  Calls Try.prog 46 #[.slice A0 l0.length c0, .int .i64 a1] w fun e w' => ∃ v0_ : Value, e = .returned (v0_) ∧ Kd.S k61 61 w' w.heap.size (fun _ => True) v0_ r ∧ Below w.heap.size w w' := by
 have hu61 := Try.underlying61
 have HR0 := Aside0.mk hr0
 have HC0 := Aside0.mk hc0
 clear hr0 hc0
 have HB := Aside0.mk (Below.refl w.heap.size w)
 have H : ((impl_Scope.f k l0 a1).bind fun t1183 => (impl_Headers.l0 k ([] : List (S61)) t1183 (t1183.length : Int) 0)) = some r := h
 clear h
 replace H := Option.bind_eq_some_iff.mp H
 obtain ⟨t1183, A30, H⟩ := H
 replace H : (impl_Headers.l0 k ([] : List (S61)) t1183 (t1183.length : Int) 0) = some r := H
 have A3 := Aside0.mk A30
 clear A30
 have H' := Aside0.mk H
 clear H
 go_enter Try.func46, Try.ntmps46
 go_wp2_with (first | ((with_reducible refine gate_callee (f := 56) rfl ?_); refine goesL_ (some 10) rfl rfl Try.func56 (by kernel_rfl) rfl #[.slice A0 l0.length c0, .int .i64 a1] rfl mp_q ?_; (with_reducible refine (impl_Scope.calls k _ _ l0 a1 t1183 _ ?side1 ?side2 A3.out).mono ?_); (case side1 => repeat (first | exact HR0.out | (with_reducible refine Kd.C_alloc ?_ _) | (with_reducible refine Kd.C_drewN ?_ _) | (with_reducible refine Kd.C_drew ?_))); (case side2 => exact HC0.out); rintro e w4 ⟨v1184, rfl, ho0, hb⟩; refine ⟨_, rfl, ?_⟩; have HO1185 := Aside0.mk (Kd.S_lower ho0 (below_size (bw_q HB))); replace HB := Aside0.mk (below_step (bw_q HB) hb); (try clear hb); (try clear hb2); (try clear hk); (try clear hi); (try clear ho0); obtain ⟨Ao5, co5, eo5⟩ := Kd.S_slice HO1185.out; subst eo5))
 go_loopg [5, 12] k (fun kq v5 v12 w' => ∃ (x5_1 : List (S61)) (x12_1 : Int), v12 = .int .i64 x12_1 ∧ Aside0 (impl_Headers.l0 kq x5_1 t1183 (t1183.length : Int) x12_1 = some r) ∧ Aside0 (kq ≤ k) ∧ Aside0 (Kd.S k61 61 w' w.heap.size (fun k_ => some k_ ≠ ((.slice Ao5 t1183.length co5) : Value).ownBlock) v5 x5_1) ∧ Aside0 (Kd.S k61 61 w' w.heap.size (fun k_ => some k_ ≠ (v5 : Value).ownBlock) (.slice Ao5 t1183.length co5) t1183) ∧ Aside0 (Below w.heap.size w w'))
 case atStart => exact ⟨(([] : List (S61))), (0), (by first | rfl | (simp; done) | (simp [*]; done)), H', ⟨Nat.le_refl _⟩, ⟨by first | exact Kd.S_nil _ _ _ _ _ | exact Kd.N_nil _ _ _ _ _ | exact Kd.V_nil _ _ _ _ _ | exact Kd.Q_nil _ _ _ _ _ | exact Kd.R_nil _ _ _ _ _⟩, ⟨by (with_reducible repeat (first | apply Kd.S_alloc | apply Kd.S_drewN | apply Kd.S_drew)); exact Kd.S_mono HO1185.out (fun _ hk => (by simp [Value.ownBlock]))⟩, ⟨bw_q HB⟩⟩
 case round =>
  clear H'
  try clear p2
  try clear c4
  try clear c5
  obtain ⟨x5_1, x12_1, rfl, HA, HK1, HO_5, HO_10, HB⟩ := hrel
  cases gk with
  | zero => exact absurd HA.out (by simp [impl_Headers.l0])
  | succ k1 =>
   have H := HA.out
   clear HA
   simp only [impl_Headers.l0] at H
   by_cases c6 : x12_1 < (t1183.length : Int)
   ·rw [if_pos c6] at H
    have c6b0 : decide (x12_1 < (t1183.length : Int)) = true := decide_eq_true c6
    clear c6
    by_cases c7 : 0 ≤ x12_1
    ·rw [if_pos c7] at H
     have c7b0 : decide (0 ≤ x12_1) = true := decide_eq_true c7
     clear c7
     by_cases c8 : x12_1 < (t1183.length : Int)
     ·rw [if_pos c8] at H
      have c8b0 : decide (x12_1 < (t1183.length : Int)) = true := decide_eq_true c8
      clear c8
      replace H := Option.bind_eq_some_iff.mp H
      obtain ⟨⟨t1188, t1189, t1190, t1191, t1192, t1193, t1196, t1197⟩, A90, H⟩ := H
      replace H : (if x5_1.length < 1759218604441 then (impl_Headers.l0 k1 (x5_1 ++ [(⟨t1188, t1189, t1190, t1191, t1192, t1193, t1196, t1197⟩ : S61)]) t1183 (t1183.length : Int) (wrap64 (x12_1 + 1))) else (none)) = some r := H
      have A9 := Aside0.mk A90
      clear A90
      by_cases c10 : x5_1.length < 1759218604441
      ·rw [if_pos c10] at H
       have LMc10 := Aside0.mk c10
       clear c10
       obtain ⟨y1198, hy1198⟩ : ∃ y_ : List (S61), y_ = (x5_1 ++ [(⟨t1188, t1189, t1190, t1191, t1192, t1193, t1196, t1197⟩ : S61)]) := ⟨_, rfl⟩
       replace H : (impl_Headers.l0 k1 y1198 t1183 (t1183.length : Int) (wrap64 (x12_1 + 1))) = some r := by first | (rw [hy1198]; with_reducible exact H) | (have H2_ := (Option.bind_some _ _).symm.trans H; rw [hy1198]; with_reducible exact H2_) | (have H2_ := (Option.bind_some _ _).symm.trans H; with_reducible exact H2_) | with_reducible exact H | (rw [hy1198]; exact H) | exact H
       have Ny1198 := Aside0.mk hy1198
       clear hy1198
       have H' := Aside0.mk H
       clear H
       have p1186 : 0 ≤ (x12_1 : Int) := of_decide_eq_true as_q
       have q1186 : x12_1 < (t1183.length : Int) := of_decide_eq_true as_q
       obtain ⟨ad1186, A1186_5, c1186_5, e1186, hx1186_0, hx1186_1, hx1186_2, hx1186_3, hx1186_4, hx1186_5, hx1186_6, hx1186_7, hl1186_5, hi1186_5⟩ := at_T61 (Kd.S_reads' HO_10.out).2.2 x12_1 p1186 q1186
       cases e1186
       obtain ⟨ce1186, hce1186, hMe1186, hcc1186⟩ := Kd.S_get HO_10.out z61 x12_1 p1186 (by first | exact q1186 | exact of_decide_eq_true as_q | (have e_ := (Kd.S_reads' HO_10.out).1; omega))
       obtain ⟨ve1186_5, rfl, ge1186_5⟩ := k61_openM hMe1186
       have hv1186_5 := hcc1186 5 _ rfl
       rw [add_field _ _ 5 (by omega)] at hv1186_5
       replace hv1186_5 := Option.some.inj (hv1186_5.symm.trans hx1186_5)
       rw [hv1186_5] at ge1186_5
       have HL1186_5 := Aside0.mk (show Kd.R k127 127 _ _ _ _ ((rd_T61 t1183 x12_1).f5) from ge1186_5)
       clear hv1186_5 ge1186_5
       clear hcc1186 hce1186
       have HR1186_5 := Aside0.mk hi1186_5
       have HC1186_5 := Aside0.mk hl1186_5
       clear hi1186_5 hl1186_5
       replace p1186 := eq_true p1186
       replace q1186 := eq_true q1186
       go_wp2_with (first | ((with_reducible refine gate_dst (N := 7) rfl ?_); refine box_q 7 #[.int .i64 0, .int .i64 0, .int .i64 0, .int .i64 0, .int .i64 0, .slice none 0 0, .int .i64 0, .bool false] 61 ?_; intro gb1187 hg w11 hbox hb; replace HO_5 := Aside0.mk (Kd.S_below (Kd.S_elderB (kS_q HO_5) gb1187 (Nat.le_of_eq hg.symm)) hb); replace HO_10 := Aside0.mk (Kd.S_below (Kd.S_elderB (kS_q HO_10) gb1187 (Nat.le_of_eq hg.symm)) hb); replace HL1186_5 := Aside0.mk (Kd.R_below (kR_q HL1186_5) hb); replace HR1186_5 := Aside0.mk (Kd.C_below (by repeat (first | (with_reducible exact HR1186_5.out) | (with_reducible refine Kd.C_alloc ?_ _) | (with_reducible refine Kd.C_drewN ?_ _) | (with_reducible refine Kd.C_drew ?_) | exact HR1186_5.out)) hb); have BK1187 := Aside0.mk (hbox); have GW1187 := Aside0.mk ((by rw [hg]; exact (below_size (bw_q HB)) : w.heap.size ≤ gb1187)); have GE1187 := Aside0.mk ((by rw [hg]; exact (below_size (bw_q HB)) : w.heap.size ≤ gb1187)); replace HB := Aside0.mk (below_step (bw_q HB) hb); clear hb hbox hg; have hcz12_0 : w11.cell? ⟨gb1187, 0, none⟩ = some (.int .i64 0) := (blk_cell BK1187.out 0).trans rfl; have hcz12_1 : w11.cell? ⟨gb1187, 1, none⟩ = some (.int .i64 0) := (blk_cell BK1187.out 1).trans rfl; have hcz12_2 : w11.cell? ⟨gb1187, 2, none⟩ = some (.int .i64 0) := (blk_cell BK1187.out 2).trans rfl; have hcz12_3 : w11.cell? ⟨gb1187, 3, none⟩ = some (.int .i64 0) := (blk_cell BK1187.out 3).trans rfl; have hcz12_4 : w11.cell? ⟨gb1187, 4, none⟩ = some (.int .i64 0) := (blk_cell BK1187.out 4).trans rfl; have hcz12_5 : w11.cell? ⟨gb1187, 5, none⟩ = some (.slice none 0 0) := (blk_cell BK1187.out 5).trans rfl; have hcz12_6 : w11.cell? ⟨gb1187, 6, none⟩ = some (.int .i64 0) := (blk_cell BK1187.out 6).trans rfl; have hcz12_7 : w11.cell? ⟨gb1187, 7, none⟩ = some (.bool false) := (blk_cell BK1187.out 7).trans rfl; have hfz12_0 := blk_frozen BK1187.out 0; have hfz12_1 := blk_frozen BK1187.out 1; have hfz12_2 := blk_frozen BK1187.out 2; have hfz12_3 := blk_frozen BK1187.out 3; have hfz12_4 := blk_frozen BK1187.out 4; have hfz12_5 := blk_frozen BK1187.out 5; have hfz12_6 := blk_frozen BK1187.out 6; have hfz12_7 := blk_frozen BK1187.out 7) | ((with_reducible refine gate_callee (f := 113) rfl ?_); refine goesL_ (some 18) rfl rfl Try.func113 (by kernel_rfl) rfl #[.agg #[.int .i64 ((rd_T61 t1183 x12_1).f0), .int .i64 ((rd_T61 t1183 x12_1).f1), .int .i64 ((rd_T61 t1183 x12_1).f2), .int .i64 ((rd_T61 t1183 x12_1).f3), .int .i64 ((rd_T61 t1183 x12_1).f4), .slice A1186_5 ((rd_T61 t1183 x12_1).f5).length c1186_5, .int .i64 ((rd_T61 t1183 x12_1).f6), .bool ((rd_T61 t1183 x12_1).f7)]] rfl mp_q ?_; (with_reducible refine (impl_header.calls ((rd_T61 t1183 x12_1).f0) ((rd_T61 t1183 x12_1).f1) ((rd_T61 t1183 x12_1).f2) ((rd_T61 t1183 x12_1).f3) ((rd_T61 t1183 x12_1).f4) _ _ ((rd_T61 t1183 x12_1).f5) ((rd_T61 t1183 x12_1).f6) ((rd_T61 t1183 x12_1).f7) t1188 t1189 t1190 t1191 t1192 t1193 t1196 t1197 _ ?side1 ?side2 A9.out).mono ?_); (case side1 => repeat (first | exact ((Kd.R_reads' (by (with_reducible repeat (first | apply Kd.R_alloc | apply Kd.R_drewN | apply Kd.R_drew)); exact (Kd.R_mono (Kd.R_far (p := ⟨gb1187, 7, none⟩) (Kd.R_far (p := ⟨gb1187, 6, none⟩) (Kd.R_far (p := ⟨gb1187, 5, none⟩) (Kd.R_far (p := ⟨gb1187, 4, none⟩) (Kd.R_far (p := ⟨gb1187, 3, none⟩) (Kd.R_far (p := ⟨gb1187, 2, none⟩) (Kd.R_far (p := ⟨gb1187, 1, none⟩) (Kd.R_far (p := ⟨gb1187, 0, none⟩) (Kd.R_types HL1186_5.out BK1187.out (by decide)) (fun _ hk => hk.2) (.int .i64 ((rd_T61 t1183 x12_1).f0))) (fun _ hk => hk.2) (.int .i64 ((rd_T61 t1183 x12_1).f1))) (fun _ hk => hk.2) (.int .i64 ((rd_T61 t1183 x12_1).f2))) (fun _ hk => hk.2) (.int .i64 ((rd_T61 t1183 x12_1).f3))) (fun _ hk => hk.2) (.int .i64 ((rd_T61 t1183 x12_1).f4))) (fun _ hk => hk.2) (.slice A1186_5 ((rd_T61 t1183 x12_1).f5).length c1186_5)) (fun _ hk => hk.2) (.int .i64 ((rd_T61 t1183 x12_1).f6))) (fun _ hk => hk.2) (.bool ((rd_T61 t1183 x12_1).f7))) (fun _ h_ => h_.1)))).2.2) | (with_reducible refine Kd.C_alloc ?_ _) | (with_reducible refine Kd.C_drewN ?_ _) | (with_reducible refine Kd.C_drew ?_))); (case side2 => exact HC1186_5.out); rintro e w13 ⟨v1194, rfl, ho0, hb⟩; refine ⟨_, rfl, ?_⟩; have hs_v1194 : (v1194 : Value).oneCell' = true := (by first | (obtain ⟨A_, c_, e_⟩ := Kd.R_slice ho0; simp [e_, Value.oneCell']) | (obtain ⟨A_, c_, e_⟩ := Kd.S_slice ho0; simp [e_, Value.oneCell']) | (obtain ⟨A_, c_, e_⟩ := Kd.N_slice ho0; simp [e_, Value.oneCell']) | (obtain ⟨A_, c_, e_⟩ := Kd.V_slice ho0; simp [e_, Value.oneCell'])); have hst_v1194 := fun (w_ : World) (a_ : Addr) m_ => run_store Try.prog w_ a_ v1194 m_ hs_v1194; replace HO_5 := Aside0.mk (Kd.S_elder' (by (with_reducible repeat (first | apply Kd.S_alloc | apply Kd.S_drewN | apply Kd.S_drew)); exact (Kd.S_mono (Kd.S_far (p := ⟨gb1187, 7, none⟩) (Kd.S_far (p := ⟨gb1187, 6, none⟩) (Kd.S_far (p := ⟨gb1187, 5, none⟩) (Kd.S_far (p := ⟨gb1187, 4, none⟩) (Kd.S_far (p := ⟨gb1187, 3, none⟩) (Kd.S_far (p := ⟨gb1187, 2, none⟩) (Kd.S_far (p := ⟨gb1187, 1, none⟩) (Kd.S_far (p := ⟨gb1187, 0, none⟩) (Kd.S_mono HO_5.out (fun k_ hk => (⟨hk, hk.2⟩ : _ ∧ k_ ≠ gb1187))) (fun _ hk => hk.2) (.int .i64 ((rd_T61 t1183 x12_1).f0))) (fun _ hk => hk.2) (.int .i64 ((rd_T61 t1183 x12_1).f1))) (fun _ hk => hk.2) (.int .i64 ((rd_T61 t1183 x12_1).f2))) (fun _ hk => hk.2) (.int .i64 ((rd_T61 t1183 x12_1).f3))) (fun _ hk => hk.2) (.int .i64 ((rd_T61 t1183 x12_1).f4))) (fun _ hk => hk.2) (.slice A1186_5 ((rd_T61 t1183 x12_1).f5).length c1186_5)) (fun _ hk => hk.2) (.int .i64 ((rd_T61 t1183 x12_1).f6))) (fun _ hk => hk.2) (.bool ((rd_T61 t1183 x12_1).f7))) (fun _ h_ => h_.1))) (Kd.R_base ho0) hb); replace HO_10 := Aside0.mk (Kd.S_elder' (by (with_reducible repeat (first | apply Kd.S_alloc | apply Kd.S_drewN | apply Kd.S_drew)); exact (Kd.S_mono (Kd.S_far (p := ⟨gb1187, 7, none⟩) (Kd.S_far (p := ⟨gb1187, 6, none⟩) (Kd.S_far (p := ⟨gb1187, 5, none⟩) (Kd.S_far (p := ⟨gb1187, 4, none⟩) (Kd.S_far (p := ⟨gb1187, 3, none⟩) (Kd.S_far (p := ⟨gb1187, 2, none⟩) (Kd.S_far (p := ⟨gb1187, 1, none⟩) (Kd.S_far (p := ⟨gb1187, 0, none⟩) (Kd.S_mono HO_10.out (fun k_ hk => (⟨hk, hk.2⟩ : _ ∧ k_ ≠ gb1187))) (fun _ hk => hk.2) (.int .i64 ((rd_T61 t1183 x12_1).f0))) (fun _ hk => hk.2) (.int .i64 ((rd_T61 t1183 x12_1).f1))) (fun _ hk => hk.2) (.int .i64 ((rd_T61 t1183 x12_1).f2))) (fun _ hk => hk.2) (.int .i64 ((rd_T61 t1183 x12_1).f3))) (fun _ hk => hk.2) (.int .i64 ((rd_T61 t1183 x12_1).f4))) (fun _ hk => hk.2) (.slice A1186_5 ((rd_T61 t1183 x12_1).f5).length c1186_5)) (fun _ hk => hk.2) (.int .i64 ((rd_T61 t1183 x12_1).f6))) (fun _ hk => hk.2) (.bool ((rd_T61 t1183 x12_1).f7))) (fun _ h_ => h_.1))) (Kd.R_base ho0) hb); have HO1195 := Aside0.mk (Kd.R_lower (Kd.R_new' ho0 (Kd.R_lt (by (with_reducible repeat (first | apply Kd.R_alloc | apply Kd.R_drewN | apply Kd.R_drew)); exact (Kd.R_mono (Kd.R_far (p := ⟨gb1187, 7, none⟩) (Kd.R_far (p := ⟨gb1187, 6, none⟩) (Kd.R_far (p := ⟨gb1187, 5, none⟩) (Kd.R_far (p := ⟨gb1187, 4, none⟩) (Kd.R_far (p := ⟨gb1187, 3, none⟩) (Kd.R_far (p := ⟨gb1187, 2, none⟩) (Kd.R_far (p := ⟨gb1187, 1, none⟩) (Kd.R_far (p := ⟨gb1187, 0, none⟩) (Kd.R_types HL1186_5.out BK1187.out (by decide)) (fun _ hk => hk.2) (.int .i64 ((rd_T61 t1183 x12_1).f0))) (fun _ hk => hk.2) (.int .i64 ((rd_T61 t1183 x12_1).f1))) (fun _ hk => hk.2) (.int .i64 ((rd_T61 t1183 x12_1).f2))) (fun _ hk => hk.2) (.int .i64 ((rd_T61 t1183 x12_1).f3))) (fun _ hk => hk.2) (.int .i64 ((rd_T61 t1183 x12_1).f4))) (fun _ hk => hk.2) (.slice A1186_5 ((rd_T61 t1183 x12_1).f5).length c1186_5)) (fun _ hk => hk.2) (.int .i64 ((rd_T61 t1183 x12_1).f6))) (fun _ hk => hk.2) (.bool ((rd_T61 t1183 x12_1).f7))) (fun _ h_ => h_.1))))) (below_size (bw_q HB))); replace HR1186_5 := Aside0.mk (Kd.C_below ((Kd.R_reads' (by (with_reducible repeat (first | apply Kd.R_alloc | apply Kd.R_drewN | apply Kd.R_drew)); exact (Kd.R_mono (Kd.R_far (p := ⟨gb1187, 7, none⟩) (Kd.R_far (p := ⟨gb1187, 6, none⟩) (Kd.R_far (p := ⟨gb1187, 5, none⟩) (Kd.R_far (p := ⟨gb1187, 4, none⟩) (Kd.R_far (p := ⟨gb1187, 3, none⟩) (Kd.R_far (p := ⟨gb1187, 2, none⟩) (Kd.R_far (p := ⟨gb1187, 1, none⟩) (Kd.R_far (p := ⟨gb1187, 0, none⟩) (Kd.R_types HL1186_5.out BK1187.out (by decide)) (fun _ hk => hk.2) (.int .i64 ((rd_T61 t1183 x12_1).f0))) (fun _ hk => hk.2) (.int .i64 ((rd_T61 t1183 x12_1).f1))) (fun _ hk => hk.2) (.int .i64 ((rd_T61 t1183 x12_1).f2))) (fun _ hk => hk.2) (.int .i64 ((rd_T61 t1183 x12_1).f3))) (fun _ hk => hk.2) (.int .i64 ((rd_T61 t1183 x12_1).f4))) (fun _ hk => hk.2) (.slice A1186_5 ((rd_T61 t1183 x12_1).f5).length c1186_5)) (fun _ hk => hk.2) (.int .i64 ((rd_T61 t1183 x12_1).f6))) (fun _ hk => hk.2) (.bool ((rd_T61 t1183 x12_1).f7))) (fun _ h_ => h_.1)))).2.2) hb); replace HL1186_5 := Aside0.mk (Kd.R_elder' (by (with_reducible repeat (first | apply Kd.R_alloc | apply Kd.R_drewN | apply Kd.R_drew)); exact (Kd.R_mono (Kd.R_far (p := ⟨gb1187, 7, none⟩) (Kd.R_far (p := ⟨gb1187, 6, none⟩) (Kd.R_far (p := ⟨gb1187, 5, none⟩) (Kd.R_far (p := ⟨gb1187, 4, none⟩) (Kd.R_far (p := ⟨gb1187, 3, none⟩) (Kd.R_far (p := ⟨gb1187, 2, none⟩) (Kd.R_far (p := ⟨gb1187, 1, none⟩) (Kd.R_far (p := ⟨gb1187, 0, none⟩) (Kd.R_types HL1186_5.out BK1187.out (by decide)) (fun _ hk => hk.2) (.int .i64 ((rd_T61 t1183 x12_1).f0))) (fun _ hk => hk.2) (.int .i64 ((rd_T61 t1183 x12_1).f1))) (fun _ hk => hk.2) (.int .i64 ((rd_T61 t1183 x12_1).f2))) (fun _ hk => hk.2) (.int .i64 ((rd_T61 t1183 x12_1).f3))) (fun _ hk => hk.2) (.int .i64 ((rd_T61 t1183 x12_1).f4))) (fun _ hk => hk.2) (.slice A1186_5 ((rd_T61 t1183 x12_1).f5).length c1186_5)) (fun _ hk => hk.2) (.int .i64 ((rd_T61 t1183 x12_1).f6))) (fun _ hk => hk.2) (.bool ((rd_T61 t1183 x12_1).f7))) (fun _ h_ => h_.1))) (Kd.R_base ho0) hb); replace BK1187 := Aside0.mk (blk_below (g := gb1187) (o := .cells #[.int .i64 ((rd_T61 t1183 x12_1).f0), .int .i64 ((rd_T61 t1183 x12_1).f1), .int .i64 ((rd_T61 t1183 x12_1).f2), .int .i64 ((rd_T61 t1183 x12_1).f3), .int .i64 ((rd_T61 t1183 x12_1).f4), .slice A1186_5 ((rd_T61 t1183 x12_1).f5).length c1186_5, .int .i64 ((rd_T61 t1183 x12_1).f6), .bool ((rd_T61 t1183 x12_1).f7)] 61 (0, 0)) (by refine bz_ ?_; refine blk_put (cs := #[.int .i64 ((rd_T61 t1183 x12_1).f0), .int .i64 ((rd_T61 t1183 x12_1).f1), .int .i64 ((rd_T61 t1183 x12_1).f2), .int .i64 ((rd_T61 t1183 x12_1).f3), .int .i64 ((rd_T61 t1183 x12_1).f4), .slice A1186_5 ((rd_T61 t1183 x12_1).f5).length c1186_5, .int .i64 ((rd_T61 t1183 x12_1).f6), .bool false]) ?_ 7 _ rfl; refine bz_ ?_; refine blk_put (cs := #[.int .i64 ((rd_T61 t1183 x12_1).f0), .int .i64 ((rd_T61 t1183 x12_1).f1), .int .i64 ((rd_T61 t1183 x12_1).f2), .int .i64 ((rd_T61 t1183 x12_1).f3), .int .i64 ((rd_T61 t1183 x12_1).f4), .slice A1186_5 ((rd_T61 t1183 x12_1).f5).length c1186_5, .int .i64 0, .bool false]) ?_ 6 _ rfl; refine bz_ ?_; refine blk_put (cs := #[.int .i64 ((rd_T61 t1183 x12_1).f0), .int .i64 ((rd_T61 t1183 x12_1).f1), .int .i64 ((rd_T61 t1183 x12_1).f2), .int .i64 ((rd_T61 t1183 x12_1).f3), .int .i64 ((rd_T61 t1183 x12_1).f4), .slice none 0 0, .int .i64 0, .bool false]) ?_ 5 _ rfl; refine bz_ ?_; refine blk_put (cs := #[.int .i64 ((rd_T61 t1183 x12_1).f0), .int .i64 ((rd_T61 t1183 x12_1).f1), .int .i64 ((rd_T61 t1183 x12_1).f2), .int .i64 ((rd_T61 t1183 x12_1).f3), .int .i64 0, .slice none 0 0, .int .i64 0, .bool false]) ?_ 4 _ rfl; refine bz_ ?_; refine blk_put (cs := #[.int .i64 ((rd_T61 t1183 x12_1).f0), .int .i64 ((rd_T61 t1183 x12_1).f1), .int .i64 ((rd_T61 t1183 x12_1).f2), .int .i64 0, .int .i64 0, .slice none 0 0, .int .i64 0, .bool false]) ?_ 3 _ rfl; refine bz_ ?_; refine blk_put (cs := #[.int .i64 ((rd_T61 t1183 x12_1).f0), .int .i64 ((rd_T61 t1183 x12_1).f1), .int .i64 0, .int .i64 0, .int .i64 0, .slice none 0 0, .int .i64 0, .bool false]) ?_ 2 _ rfl; refine bz_ ?_; refine blk_put (cs := #[.int .i64 ((rd_T61 t1183 x12_1).f0), .int .i64 0, .int .i64 0, .int .i64 0, .int .i64 0, .slice none 0 0, .int .i64 0, .bool false]) ?_ 1 _ rfl; refine bz_ ?_; refine blk_put (cs := #[.int .i64 0, .int .i64 0, .int .i64 0, .int .i64 0, .int .i64 0, .slice none 0 0, .int .i64 0, .bool false]) ?_ 0 _ rfl; refine bz_ ?_; exact BK1187.out) hb); replace HB := Aside0.mk (below_step (bw_q HB) hb); (try clear hb); (try clear hb2); (try clear hk); (try clear hi); (try clear ho0); obtain ⟨Ao15, co15, eo15⟩ := Kd.R_slice HO1195.out; subst eo15) | ((with_reducible refine gate_builtin (b := .append) (xs := #[.tmp 16, .tmp 19]) rfl ?_); at_builtin; refine Kd.S_append k61 (w0 := w) w.heap.size rfl (.tmp 16) (.tmp 19) 41 61 (.agg #[(.int .i64 0), (.int .i64 0), (.int .i64 0), (.int .i64 0), (.int .i64 0), (.slice none 0 0), (.int .i64 0), (.bool false)]) 80 rfl Try.underlying41 info61 rfl (by decide) (by omega) u5 x5_1 (⟨t1188, t1189, t1190, t1191, t1192, t1193, t1196, t1197⟩ : S61) [.int .i64 t1188, .int .i64 t1189, .int .i64 t1190, .int .i64 t1191, .int .i64 t1192, .slice Ao15 t1193.length co15, .int .i64 t1196, .bool t1197] (fun k_ => some k_ ≠ (.slice (some ad1186) t1183.length co5 : Value).ownBlock ∧ k_ ≠ gb1187) (fun k_ => some k_ = (.slice Ao15 t1193.length co15 : Value).ownBlock) rfl rfl ?aP (fun k_ hk_ => ((Kd.R_mono (ok' := fun k_ => ((fun k_ => some k_ ≠ (.slice (some ad1186) t1183.length co5 : Value).ownBlock ∧ k_ ≠ gb1187)) k_ ∧ some k_ ≠ (u5 : Value).ownBlock) (Kd.R_types (Kd.R_apart' (Kd.R_apart' (HO1195.out) (Kd.S_typed HO_10.out) (by decide)) (Kd.S_typed HO_5.out) (by decide)) BK1187.out (by decide)) (fun k_ hk => ⟨⟨hk.1.1.2, hk.2⟩, hk.1.2⟩))).1 k_ hk_.symm) ?aF ?aO ?aB ?aS ?aL ?_; (case aP => exact k61_mkM _ _ _ (⟨t1188, t1189, t1190, t1191, t1192, t1193, t1196, t1197⟩ : S61) (Kd.R_mono (Kd.R_tight rfl (Kd.R_mono (ok' := fun k_ => ((fun k_ => some k_ ≠ (.slice (some ad1186) t1183.length co5 : Value).ownBlock ∧ k_ ≠ gb1187)) k_ ∧ some k_ ≠ (u5 : Value).ownBlock) (Kd.R_types (Kd.R_apart' (Kd.R_apart' (HO1195.out) (Kd.S_typed HO_10.out) (by decide)) (Kd.S_typed HO_5.out) (by decide)) BK1187.out (by decide)) (fun k_ hk => ⟨⟨hk.1.1.2, hk.2⟩, hk.1.2⟩))) (fun _ h_ => h_))); (case aB => exact (bw_q HB)); (case aF => exact (fun k_ hk => ⟨Kd.fresh' (Kd.S_lt (kS_q HO_10)) k_ hk, Kd.freshB (g := gb1187) (o := .cells #[.int .i64 ((rd_T61 t1183 x12_1).f0), .int .i64 ((rd_T61 t1183 x12_1).f1), .int .i64 ((rd_T61 t1183 x12_1).f2), .int .i64 ((rd_T61 t1183 x12_1).f3), .int .i64 ((rd_T61 t1183 x12_1).f4), .slice A1186_5 ((rd_T61 t1183 x12_1).f5).length c1186_5, .int .i64 ((rd_T61 t1183 x12_1).f6), .bool ((rd_T61 t1183 x12_1).f7)] 61 (0, 0)) (bk_q BK1187) k_ hk⟩)); (case aO => exact (by (with_reducible repeat (first | apply Kd.S_alloc | apply Kd.S_drewN | apply Kd.S_drew)); exact Kd.S_mono HO_5.out (fun k_ hk => ⟨⟨hk.1.1, hk.1.2⟩, fun e_ => hk.2 e_⟩))); (case aS => exact (below_size (bw_q HB))); (case aL => have := LMc10.out; omega); intro v1199 w14 ho hb hg hat; rw [← Ny1198.out] at ho; replace HO_10 := Aside0.mk (Kd.S_after (ok := (fun k_ => some k_ ≠ (.slice Ao15 t1193.length co15 : Value).ownBlock ∧ k_ ≠ gb1187)) (by (with_reducible repeat (first | apply Kd.S_alloc | apply Kd.S_drewN | apply Kd.S_drew)); exact Kd.S_mono HO_10.out (fun _ hk => ⟨⟨hk.2, hk.1.2⟩, hk.1.1⟩)) hg hat); replace HL1186_5 := Aside0.mk (Kd.R_after (ok := (fun k_ => some k_ ≠ (.slice (some ad1186) t1183.length co5 : Value).ownBlock ∧ some k_ ≠ (.slice Ao15 t1193.length co15 : Value).ownBlock)) (by (with_reducible repeat (first | apply Kd.R_alloc | apply Kd.R_drewN | apply Kd.R_drew)); exact Kd.R_mono HL1186_5.out (fun _ hk => ⟨⟨hk.1.2, hk.2⟩, hk.1.1⟩)) hg hat); replace BK1187 := Aside0.mk (blk_grown (g := gb1187) (o := .cells #[.int .i64 ((rd_T61 t1183 x12_1).f0), .int .i64 ((rd_T61 t1183 x12_1).f1), .int .i64 ((rd_T61 t1183 x12_1).f2), .int .i64 ((rd_T61 t1183 x12_1).f3), .int .i64 ((rd_T61 t1183 x12_1).f4), .slice A1186_5 ((rd_T61 t1183 x12_1).f5).length c1186_5, .int .i64 ((rd_T61 t1183 x12_1).f6), .bool ((rd_T61 t1183 x12_1).f7)] 61 (0, 0)) (bk_q BK1187) hg (Kd.S_away HO_5.out (fun _ hk => hk.1.2))); replace HB := Aside0.mk (hb); have HO1200 := Aside0.mk (ho); clear HO_5 HO1195; clear ho hb hg hat))
       go_roundg k1
       case measure => have := HK1.out; omega
       case rel => exact ⟨(y1198), (wrap64 (x12_1 + 1)), (by first | rfl | (simp; done) | (simp [*]; done)), H', ⟨by have := HK1.out; omega⟩, ⟨by (with_reducible repeat (first | apply Kd.S_alloc | apply Kd.S_drewN | apply Kd.S_drew)); exact Kd.S_mono HO1200.out (fun _ hk => hk.1)⟩, ⟨by (with_reducible repeat (first | apply Kd.S_alloc | apply Kd.S_drewN | apply Kd.S_drew)); exact Kd.S_mono HO_10.out (fun _ hk => hk.2)⟩, ⟨bw_q HB⟩⟩
      ·rw [if_neg c10] at H
       exact absurd H (by simp)
     ·rw [if_neg c8] at H
      exact absurd H (by simp)
    ·rw [if_neg c7] at H
     exact absurd H (by simp)
   ·rw [if_neg c6] at H
    have c6b0 : decide (x12_1 < (t1183.length : Int)) = false := decide_eq_false c6
    clear c6
    obtain rfl := Option.some.inj H
    go_wp2
    go_ret
    exact ⟨_, er_q, by (with_reducible repeat (first | apply Kd.S_alloc | apply Kd.S_drewN | apply Kd.S_drew)); exact Kd.S_mono HO_5.out (fun _ hk => trivial), bw_q HB⟩

end Go.Proofs.Ythjmdiggglkeaaa.Q

/- A Go function as a Lean function, and its contract: for every input the Go code comes to what the Lean function tells. -/

namespace Go.Proofs.Ythjmdiggglkeaaa.Q
open Go.RowKit Go.Proofs.YthjmdiggglkeaaaW.PrintWords Go.Proofs.YthjmdiggglkeaaaW.PrintLast Go.Proofs.YthjmdiggglkeaaaW.PrintMore
attribute [local go_sem] max2_int min2_int max_two min_two max_three min_three max_four min_four   -- for this text's walks alone
set_option linter.unusedVariables false
set_option linter.unusedSimpArgs false

/-! ### laws_big: function 47 -/
def laws_big.f (l0 : List Int) : Option (Bool) := some (decide ((l0.length : Int) > 1048576))
set_option maxHeartbeats 8000000 in
set_option maxRecDepth 100000 in
theorem laws_big.calls (A0 : Option Addr) (c0 : Nat) (l0 : List Int) (r : Bool) (w : World) (hr0 : Kd.C (Kd.int .u8) w A0 l0.length l0) (hc0 : l0.length ≤ c0) (h : laws_big.f l0 = some r) :
  Calls Try.prog 47 #[.slice A0 l0.length c0] w fun e w' => e = .returned (.bool r) ∧ Drawn0 w w' := by
 have HR0 := Aside0.mk hr0
 have HC0 := Aside0.mk hc0
 clear hr0 hc0
 have H : (some (decide ((l0.length : Int) > 1048576))) = some r := h
 clear h
 obtain rfl := Option.some.inj H
 go_enter Try.func47, Try.ntmps47
 go_wp2
 go_ret
 exact ⟨by first | rfl | (simp; done) | (simp [*]; done), by repeat (first | exact Drawn0.refl _ | apply Drawn0.step)⟩

end Go.Proofs.Ythjmdiggglkeaaa.Q
