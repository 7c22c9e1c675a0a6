/- A Go function as a Lean function, and its contract: for every input the Go code comes to what the Lean function tells. -/
import Derived.Test.YtjkjhaiemephdabQk
import Derived.Test.YtjkjhaiemephdabQspecl06Node
namespace Go.Proofs.Ytjkjhaiemephdab.Q
open Go.RowKit Go.Proofs.YtjkjhaiemephdabW.PrintWords Go.Proofs.YtjkjhaiemephdabW.PrintLast Go.Proofs.YtjkjhaiemephdabW.PrintMore
attribute [local go_sem] max2_int min2_int max_two min_two max_three min_three max_four min_four   -- for this text's walks alone
set_option linter.unusedVariables false
set_option linter.unusedSimpArgs false

/-! ### spec_l06Tells: function 66 -/
def spec_l06Tells.l0 : Nat → Int → Int → Int → Int → Int → Int → Int → List (S99) → Int → Bool → Option (Int)
  | 0, _, _, _, _, _, _, _, _, _, _ => none
  | k + 1, x3, x11, x211000, x211001, x211002, x211003, x211004, x211005, x211006, x211007 => if x11 < (x211005.length : Int) then (if 0 ≤ x11 then (if ((rd_T99 x211005 x11).f0) = x3 then (some ((rd_T99 x211005 x11).f1)) else (spec_l06Tells.l0 k x3 (wrap64 (x11 + 1)) x211000 x211001 x211002 x211003 x211004 x211005 x211006 x211007)) else (none)) else (some 0)
def spec_l06Tells.f (k : Nat) (l0 : List (S52)) (a1 : Int) (a2 : Int) (a3 : Int) : Option (Int) := (spec_l06Node.f k l0 a1 a2).bind fun bt199 => (spec_l06Tells.l0 k a3 0 bt199.1 bt199.2.1 bt199.2.2.1 bt199.2.2.2.1 bt199.2.2.2.2.1 bt199.2.2.2.2.2.1 bt199.2.2.2.2.2.2.1 bt199.2.2.2.2.2.2.2.1)
theorem spec_l06Tells.mono_l : ∀ k, (∀ y0 y1 y2 y3 y4 y5 y6 y7 y8 y9, LeO (spec_l06Tells.l0 k y0 y1 y2 y3 y4 y5 y6 y7 y8 y9) (spec_l06Tells.l0 (k + 1) y0 y1 y2 y3 y4 y5 y6 y7 y8 y9))
  | 0 => fun _ _ _ _ _ _ _ _ _ _ r h => by simp [spec_l06Tells.l0] at h
  | k + 1 => by
    have ih0 := spec_l06Tells.mono_l k
    · intro y0 y1 y2 y3 y4 y5 y6 y7 y8 y9
      unfold spec_l06Tells.l0
      repeat' first
      | (with_reducible exact ih0 _ _ _ _ _ _ _ _ _ _)
      | (with_reducible exact spec_l06Node.mono _ _ _ _)
      | (with_reducible exact LeO.refl _)
      | (with_reducible exact LeO.none _)
      | (with_reducible refine LeO.ite ?_ ?_)
      | (with_reducible refine LeO.bind ?_ (fun _ => ?_))
      | exact ih0 _ _ _ _ _ _ _ _ _ _
      | exact spec_l06Node.mono _ _ _ _
      | exact LeO.none _
      | refine LeO.ite ?_ ?_
      | refine LeO.bind ?_ (fun _ => ?_)
theorem spec_l06Tells.mono : ∀ a0 a1 a2 a3 k, LeO (spec_l06Tells.f k a0 a1 a2 a3) (spec_l06Tells.f (k + 1) a0 a1 a2 a3) := by
  intro a0 a1 a2 a3 k
  have ih0 := spec_l06Tells.mono_l k
  unfold spec_l06Tells.f
  repeat' first
      | (with_reducible exact ih0 _ _ _ _ _ _ _ _ _ _)
      | (with_reducible exact spec_l06Node.mono _ _ _ _)
      | (with_reducible exact LeO.refl _)
      | (with_reducible exact LeO.none _)
      | (with_reducible refine LeO.ite ?_ ?_)
      | (with_reducible refine LeO.bind ?_ (fun _ => ?_))
      | exact ih0 _ _ _ _ _ _ _ _ _ _
      | exact spec_l06Node.mono _ _ _ _
      | exact LeO.none _
      | refine LeO.ite ?_ ?_
      | refine LeO.bind ?_ (fun _ => ?_)
set_option maxHeartbeats 8000000 in
set_option maxRecDepth 100000 in
theorem spec_l06Tells.calls (k : Nat) (A0 : Option Addr) (c0 : Nat) (l0 : List (S52)) (a1 : Int) (a2 : Int) (a3 : Int) (r : Int) (w : World) (hr0 : Kd.C k52 w A0 l0.length l0) (hc0 : l0.length ≤ c0) (h : spec_l06Tells.f k l0 a1 a2 a3 = some r) :
    Calls Try.prog 66 #[.slice A0 l0.length c0, .int .i64 a1, .int .i64 a2, .int .i64 a3] w fun e w' => e = .returned (.int .i64 r) ∧ Below w.heap.size w w' := by
  have hu52 := Try.underlying52
  have HR0 := Aside0.mk hr0
  have HC0 := Aside0.mk hc0
  clear hr0 hc0
  have HB := Aside0.mk (Below.refl w.heap.size w)
  have H : ((spec_l06Node.f k l0 a1 a2).bind fun bt199 => (spec_l06Tells.l0 k a3 0 bt199.1 bt199.2.1 bt199.2.2.1 bt199.2.2.2.1 bt199.2.2.2.2.1 bt199.2.2.2.2.2.1 bt199.2.2.2.2.2.2.1 bt199.2.2.2.2.2.2.2.1)) = some r := h
  clear h
  replace H := Option.bind_eq_some_iff.mp H
  obtain ⟨⟨t199, t200, t201, t202, t203, t204, t207, t208, t209⟩, A50, H⟩ := H
  replace H : (spec_l06Tells.l0 k a3 0 t199 t200 t201 t202 t203 t204 t207 t208) = some r := H
  have A5 := Aside0.mk A50
  clear A50
  have H' := Aside0.mk H
  clear H
  go_enter Try.func66, Try.ntmps66
  go_wp2_with (first | ((with_reducible refine gate_callee (f := 106) rfl ?_); refine goesL_ (some 16) rfl rfl Try.func106 (by kernel_rfl) rfl #[.slice A0 l0.length c0, .int .i64 a1, .int .i64 a2] rfl (by (try simp only [List.map_toArray, List.map_cons, List.map_nil]); first | done | rfl | (simp only [List.length_drop, List.length_take]; rfl)) ?_; (with_reducible refine (spec_l06Node.calls k (fun k_ => k_ < w.heap.size) _ _ l0 a1 a2 t199 t200 t201 t202 t203 t204 t207 t208 t209 _ ?side1 A5.out).mono ?_); (case side1 => exact Kd.V_mk HC0.out (Kd.F_below (Kd.C_F k52_heap HR0.out) (by repeat (first | (with_reducible first | exact HB.out | apply below_alloc | apply pw_below_drewN | apply below_drew1) | exact HB.out)))); rintro e w6 ⟨v205, rfl, ho0, hb⟩; refine ⟨_, rfl, ?_⟩; have hs_v205 : (v205 : Value).oneCell' = true := (by first | (obtain ⟨A_, c_, e_⟩ := Kd.R_slice ho0; simp [e_, Value.oneCell']) | (obtain ⟨A_, c_, e_⟩ := Kd.S_slice ho0; simp [e_, Value.oneCell']) | (obtain ⟨A_, c_, e_⟩ := Kd.N_slice ho0; simp [e_, Value.oneCell']) | (obtain ⟨A_, c_, e_⟩ := Kd.V_slice ho0; simp [e_, Value.oneCell'])); have hst_v205 := fun (w_ : World) (a_ : Addr) m_ => run_store Try.prog w_ a_ v205 m_ hs_v205; have n0_ := Aside0.mk (Kd.V_lower (Kd.V_mono (ok' := fun k_ => True) ho0 (fun k_ hk_ => trivial)) (below_size (by repeat (first | (with_reducible first | exact HB.out | apply below_alloc | apply pw_below_drewN | apply below_drew1) | exact HB.out)))); have n1_ := Aside0.mk (below_step (by repeat (first | (with_reducible first | exact HB.out | apply below_alloc | apply pw_below_drewN | apply below_drew1) | exact HB.out)) hb); clear HB; have HO206 := n0_; have HB := n1_; clear n0_ n1_; (try clear hb); (try clear hb2); (try clear hk); (try clear hi); (try clear ho0)) | ((with_reducible refine gate_dst (N := 9) rfl ?_); refine box_event ?hg (N := 9) ?hd (cs := #[.int .i64 0, .int .i64 0, .int .i64 0, .int .i64 0, .int .i64 0, .slice none 0 0, .int .i64 0, .bool false]) (t := 52) ?hr ?_; (case hd => rfl); (case hg => rfl); (case hr => first | (go_simp; done) | (go_simp; rfl)); intro gb210 hg w7 hbox hb; have n0_ := Aside0.mk (Kd.V_below (Kd.V_elderB (by (with_reducible repeat (first | apply Kd.V_alloc | apply Kd.V_drewN | apply Kd.V_drew)); exact HO206.out) gb210 (Nat.le_of_eq hg.symm)) hb); have n1_ := Aside0.mk (below_step (by repeat (first | (with_reducible first | exact HB.out | apply below_alloc | apply pw_below_drewN | apply below_drew1) | exact HB.out)) hb); have n2_ := Aside0.mk (hbox); have n3_ := Aside0.mk ((by rw [hg]; exact (below_size (by repeat (first | (with_reducible first | exact HB.out | apply below_alloc | apply pw_below_drewN | apply below_drew1) | exact HB.out))) : w.heap.size ≤ gb210)); have n4_ := Aside0.mk ((by rw [hg]; exact (below_size (by repeat (first | (with_reducible first | exact HB.out | apply below_alloc | apply pw_below_drewN | apply below_drew1) | exact HB.out))) : w.heap.size ≤ gb210)); clear HO206; clear HB; have HO206 := n0_; have HB := n1_; have BK210 := n2_; have GW210 := n3_; have GE210 := n4_; clear n0_ n1_ n2_ n3_ n4_; clear hb hbox hg; have hcz8_0 : w7.cell? ⟨gb210, 0, none⟩ = some (.int .i64 0) := (blk_cell BK210.out 0).trans rfl; have hcz8_1 : w7.cell? ⟨gb210, 1, none⟩ = some (.int .i64 0) := (blk_cell BK210.out 1).trans rfl; have hcz8_2 : w7.cell? ⟨gb210, 2, none⟩ = some (.int .i64 0) := (blk_cell BK210.out 2).trans rfl; have hcz8_3 : w7.cell? ⟨gb210, 3, none⟩ = some (.int .i64 0) := (blk_cell BK210.out 3).trans rfl; have hcz8_4 : w7.cell? ⟨gb210, 4, none⟩ = some (.int .i64 0) := (blk_cell BK210.out 4).trans rfl; have hcz8_5 : w7.cell? ⟨gb210, 5, none⟩ = some (.slice none 0 0) := (blk_cell BK210.out 5).trans rfl; have hcz8_6 : w7.cell? ⟨gb210, 6, none⟩ = some (.int .i64 0) := (blk_cell BK210.out 6).trans rfl; have hcz8_7 : w7.cell? ⟨gb210, 7, none⟩ = some (.bool false) := (blk_cell BK210.out 7).trans rfl; have hfz8_0 := blk_frozen BK210.out 0; have hfz8_1 := blk_frozen BK210.out 1; have hfz8_2 := blk_frozen BK210.out 2; have hfz8_3 := blk_frozen BK210.out 3; have hfz8_4 := blk_frozen BK210.out 4; have hfz8_5 := blk_frozen BK210.out 5; have hfz8_6 := blk_frozen BK210.out 6; have hfz8_7 := blk_frozen BK210.out 7; obtain ⟨Ao9, co9, eo9⟩ := Kd.V_slice HO206.out; subst eo9))
  go_loopg [11] k (fun kq v11 w' => ∃ (x11_1 : Int), v11 = .int .i64 x11_1 ∧ Aside0 (spec_l06Tells.l0 kq a3 x11_1 t199 t200 t201 t202 t203 t204 t207 t208 = some r) ∧ Aside0 (kq ≤ k) ∧ Aside0 (Kd.V k99 99 w' w.heap.size (fun k_ => k_ ≠ gb210) (.slice Ao9 t204.length co9) t204) ∧ Aside0 (w'.heap[gb210]? = some (.cells #[.int .i64 t199, .int .i64 t200, .int .i64 t201, .int .i64 t202, .int .i64 t203, (.slice Ao9 t204.length co9), .int .i64 t207, .bool t208] 52 (0, 0))) ∧ Aside0 (Below w.heap.size w w'))
  case atStart => exact ⟨(0), (by first | rfl | (simp; done) | (simp [*]; done)), H', ⟨Nat.le_refl _⟩, ⟨by (with_reducible repeat (first | apply Kd.V_alloc | apply Kd.V_drewN | apply Kd.V_drew)); exact Kd.V_mono (Kd.V_far (p := ⟨gb210, 7, none⟩) (Kd.V_far (p := ⟨gb210, 6, none⟩) (Kd.V_far (p := ⟨gb210, 5, none⟩) (Kd.V_far (p := ⟨gb210, 4, none⟩) (Kd.V_far (p := ⟨gb210, 3, none⟩) (Kd.V_far (p := ⟨gb210, 2, none⟩) (Kd.V_far (p := ⟨gb210, 1, none⟩) (Kd.V_far (p := ⟨gb210, 0, none⟩) (Kd.V_mono HO206.out (fun k_ hk => (⟨hk, hk.2⟩ : _ ∧ k_ ≠ gb210))) (fun _ hk => hk.2) (.int .i64 t199)) (fun _ hk => hk.2) (.int .i64 t200)) (fun _ hk => hk.2) (.int .i64 t201)) (fun _ hk => hk.2) (.int .i64 t202)) (fun _ hk => hk.2) (.int .i64 t203)) (fun _ hk => hk.2) (.slice Ao9 t204.length co9)) (fun _ hk => hk.2) (.int .i64 t207)) (fun _ hk => hk.2) (.bool t208)) (fun _ hk => hk.1.2)⟩, ⟨by (with_reducible repeat (first | refine blk_drewN ?_ _ | refine blk_drew ?_ | refine blk_alloc ?_ _)); refine blk_put (cs := #[.int .i64 t199, .int .i64 t200, .int .i64 t201, .int .i64 t202, .int .i64 t203, .slice Ao9 t204.length co9, .int .i64 t207, .bool false]) ?_ 7 _ rfl; (with_reducible repeat (first | refine blk_drewN ?_ _ | refine blk_drew ?_ | refine blk_alloc ?_ _)); refine blk_put (cs := #[.int .i64 t199, .int .i64 t200, .int .i64 t201, .int .i64 t202, .int .i64 t203, .slice Ao9 t204.length co9, .int .i64 0, .bool false]) ?_ 6 _ rfl; (with_reducible repeat (first | refine blk_drewN ?_ _ | refine blk_drew ?_ | refine blk_alloc ?_ _)); refine blk_put (cs := #[.int .i64 t199, .int .i64 t200, .int .i64 t201, .int .i64 t202, .int .i64 t203, .slice none 0 0, .int .i64 0, .bool false]) ?_ 5 _ rfl; (with_reducible repeat (first | refine blk_drewN ?_ _ | refine blk_drew ?_ | refine blk_alloc ?_ _)); refine blk_put (cs := #[.int .i64 t199, .int .i64 t200, .int .i64 t201, .int .i64 t202, .int .i64 0, .slice none 0 0, .int .i64 0, .bool false]) ?_ 4 _ rfl; (with_reducible repeat (first | refine blk_drewN ?_ _ | refine blk_drew ?_ | refine blk_alloc ?_ _)); refine blk_put (cs := #[.int .i64 t199, .int .i64 t200, .int .i64 t201, .int .i64 0, .int .i64 0, .slice none 0 0, .int .i64 0, .bool false]) ?_ 3 _ rfl; (with_reducible repeat (first | refine blk_drewN ?_ _ | refine blk_drew ?_ | refine blk_alloc ?_ _)); refine blk_put (cs := #[.int .i64 t199, .int .i64 t200, .int .i64 0, .int .i64 0, .int .i64 0, .slice none 0 0, .int .i64 0, .bool false]) ?_ 2 _ rfl; (with_reducible repeat (first | refine blk_drewN ?_ _ | refine blk_drew ?_ | refine blk_alloc ?_ _)); refine blk_put (cs := #[.int .i64 t199, .int .i64 0, .int .i64 0, .int .i64 0, .int .i64 0, .slice none 0 0, .int .i64 0, .bool false]) ?_ 1 _ rfl; (with_reducible repeat (first | refine blk_drewN ?_ _ | refine blk_drew ?_ | refine blk_alloc ?_ _)); refine blk_put (cs := #[.int .i64 0, .int .i64 0, .int .i64 0, .int .i64 0, .int .i64 0, .slice none 0 0, .int .i64 0, .bool false]) ?_ 0 _ rfl; (with_reducible repeat (first | refine blk_drewN ?_ _ | refine blk_drew ?_ | refine blk_alloc ?_ _)); exact BK210.out⟩, ⟨by repeat (first | (with_reducible first | exact HB.out | apply below_alloc | apply pw_below_drewN | apply below_drew1 | refine below_set ?_ GE210.out) | exact HB.out)⟩⟩
  case round =>
    clear H'
    try clear c1
    try clear p2
    try clear c6
    try clear hcz8_0
    try clear hcz8_1
    try clear hcz8_2
    try clear hcz8_3
    try clear hcz8_4
    try clear hcz8_5
    try clear hcz8_6
    try clear hcz8_7
    try clear hfz8_0
    try clear hfz8_1
    try clear hfz8_2
    try clear hfz8_3
    try clear hfz8_4
    try clear hfz8_5
    try clear hfz8_6
    try clear hfz8_7
    obtain ⟨x11_1, rfl, HA, HK1, HO_211005, BK210, HB⟩ := hrel
    cases gk with
    | zero => exact absurd HA.out (by simp [spec_l06Tells.l0])
    | succ k1 =>
      have H := HA.out
      clear HA
      simp only [spec_l06Tells.l0] at H
      by_cases c10 : x11_1 < (t204.length : Int)
      · rw [if_pos c10] at H
        have c10b0 : decide (x11_1 < (t204.length : Int)) = true := decide_eq_true c10
        clear c10
        by_cases c11 : 0 ≤ x11_1
        · rw [if_pos c11] at H
          have c11b0 : decide (0 ≤ x11_1) = true := decide_eq_true c11
          clear c11
          by_cases c12 : ((rd_T99 t204 x11_1).f0) = a3
          · rw [if_pos c12] at H
            have c12b0 : (((rd_T99 t204 x11_1).f0) == a3) = true := beq_iff_eq.mpr c12
            have c12b1 : (((rd_T99 t204 x11_1).f0) != a3) = false := bne_eq_false_iff_eq.mpr c12
            clear c12
            obtain rfl := Option.some.inj H
            have hcz13_0 : wr.cell? ⟨gb210, 0, none⟩ = some (.int .i64 t199) := (blk_cell BK210.out 0).trans rfl
            have hcz13_1 : wr.cell? ⟨gb210, 1, none⟩ = some (.int .i64 t200) := (blk_cell BK210.out 1).trans rfl
            have hcz13_2 : wr.cell? ⟨gb210, 2, none⟩ = some (.int .i64 t201) := (blk_cell BK210.out 2).trans rfl
            have hcz13_3 : wr.cell? ⟨gb210, 3, none⟩ = some (.int .i64 t202) := (blk_cell BK210.out 3).trans rfl
            have hcz13_4 : wr.cell? ⟨gb210, 4, none⟩ = some (.int .i64 t203) := (blk_cell BK210.out 4).trans rfl
            have hcz13_5 : wr.cell? ⟨gb210, 5, none⟩ = some (.slice Ao9 t204.length co9) := (blk_cell BK210.out 5).trans rfl
            have hcz13_6 : wr.cell? ⟨gb210, 6, none⟩ = some (.int .i64 t207) := (blk_cell BK210.out 6).trans rfl
            have hcz13_7 : wr.cell? ⟨gb210, 7, none⟩ = some (.bool t208) := (blk_cell BK210.out 7).trans rfl
            have hfz13_0 := blk_frozen BK210.out 0
            have hfz13_1 := blk_frozen BK210.out 1
            have hfz13_2 := blk_frozen BK210.out 2
            have hfz13_3 := blk_frozen BK210.out 3
            have hfz13_4 := blk_frozen BK210.out 4
            have hfz13_5 := blk_frozen BK210.out 5
            have hfz13_6 := blk_frozen BK210.out 6
            have hfz13_7 := blk_frozen BK210.out 7
            have p211 : 0 ≤ (x11_1 : Int) := of_decide_eq_true (by first | (with_reducible assumption) | assumption)
            have q211 : x11_1 < (t204.length : Int) := of_decide_eq_true (by first | (with_reducible assumption) | assumption)
            obtain ⟨ad211, e211, hx211_0, hx211_1⟩ := at_T99 (Kd.V_reads' HO_211005.out).2.2 x11_1 p211 q211
            cases e211
            replace p211 := eq_true p211
            replace q211 := eq_true q211
            have p212 : 0 ≤ (x11_1 : Int) := of_decide_eq_true (by first | (with_reducible assumption) | assumption)
            have q212 : x11_1 < (t204.length : Int) := of_decide_eq_true (by first | (with_reducible assumption) | assumption)
            obtain ⟨ad212, e212, hx212_0, hx212_1⟩ := at_T99 (Kd.V_reads' HO_211005.out).2.2 x11_1 p212 q212
            obtain rfl : ad211 = ad212 := (by injection e212)
            replace p212 := eq_true p212
            replace q212 := eq_true q212
            go_wp2
            go_ret
            exact ⟨by first | rfl | (simp [errW_none, errW_some] <;> rfl) | (simp [*, errW_none, errW_some] <;> rfl), by repeat (first | (with_reducible first | exact HB.out | apply below_alloc | apply pw_below_drewN | apply below_drew1 | refine below_set ?_ GE210.out) | exact HB.out)⟩
          · rw [if_neg c12] at H
            have c12b0 : (((rd_T99 t204 x11_1).f0) == a3) = false := beq_eq_false_iff_ne.mpr c12
            have c12b1 : (((rd_T99 t204 x11_1).f0) != a3) = true := bne_iff_ne.mpr c12
            have H' := Aside0.mk H
            clear H
            have hcz14_0 : wr.cell? ⟨gb210, 0, none⟩ = some (.int .i64 t199) := (blk_cell BK210.out 0).trans rfl
            have hcz14_1 : wr.cell? ⟨gb210, 1, none⟩ = some (.int .i64 t200) := (blk_cell BK210.out 1).trans rfl
            have hcz14_2 : wr.cell? ⟨gb210, 2, none⟩ = some (.int .i64 t201) := (blk_cell BK210.out 2).trans rfl
            have hcz14_3 : wr.cell? ⟨gb210, 3, none⟩ = some (.int .i64 t202) := (blk_cell BK210.out 3).trans rfl
            have hcz14_4 : wr.cell? ⟨gb210, 4, none⟩ = some (.int .i64 t203) := (blk_cell BK210.out 4).trans rfl
            have hcz14_5 : wr.cell? ⟨gb210, 5, none⟩ = some (.slice Ao9 t204.length co9) := (blk_cell BK210.out 5).trans rfl
            have hcz14_6 : wr.cell? ⟨gb210, 6, none⟩ = some (.int .i64 t207) := (blk_cell BK210.out 6).trans rfl
            have hcz14_7 : wr.cell? ⟨gb210, 7, none⟩ = some (.bool t208) := (blk_cell BK210.out 7).trans rfl
            have hfz14_0 := blk_frozen BK210.out 0
            have hfz14_1 := blk_frozen BK210.out 1
            have hfz14_2 := blk_frozen BK210.out 2
            have hfz14_3 := blk_frozen BK210.out 3
            have hfz14_4 := blk_frozen BK210.out 4
            have hfz14_5 := blk_frozen BK210.out 5
            have hfz14_6 := blk_frozen BK210.out 6
            have hfz14_7 := blk_frozen BK210.out 7
            have p211 : 0 ≤ (x11_1 : Int) := of_decide_eq_true (by first | (with_reducible assumption) | assumption)
            have q211 : x11_1 < (t204.length : Int) := of_decide_eq_true (by first | (with_reducible assumption) | assumption)
            obtain ⟨ad211, e211, hx211_0, hx211_1⟩ := at_T99 (Kd.V_reads' HO_211005.out).2.2 x11_1 p211 q211
            cases e211
            replace p211 := eq_true p211
            replace q211 := eq_true q211
            go_wp2
            go_roundg k1
            case measure => have := HK1.out; omega
            case rel => exact ⟨(wrap64 (x11_1 + 1)), (by first | rfl | (simp; done) | (simp [*]; done)), H', ⟨by have := HK1.out; omega⟩, ⟨by (with_reducible repeat (first | apply Kd.V_alloc | apply Kd.V_drewN | apply Kd.V_drew)); exact HO_211005.out⟩, ⟨by (with_reducible repeat (first | refine blk_drewN ?_ _ | refine blk_drew ?_ | refine blk_alloc ?_ _)); exact BK210.out⟩, ⟨by repeat (first | (with_reducible first | exact HB.out | apply below_alloc | apply pw_below_drewN | apply below_drew1 | refine below_set ?_ GE210.out) | exact HB.out)⟩⟩
        · rw [if_neg c11] at H
          exact absurd H (by simp)
      · rw [if_neg c10] at H
        have c10b0 : decide (x11_1 < (t204.length : Int)) = false := decide_eq_false c10
        clear c10
        obtain rfl := Option.some.inj H
        have hcz15_0 : wr.cell? ⟨gb210, 0, none⟩ = some (.int .i64 t199) := (blk_cell BK210.out 0).trans rfl
        have hcz15_1 : wr.cell? ⟨gb210, 1, none⟩ = some (.int .i64 t200) := (blk_cell BK210.out 1).trans rfl
        have hcz15_2 : wr.cell? ⟨gb210, 2, none⟩ = some (.int .i64 t201) := (blk_cell BK210.out 2).trans rfl
        have hcz15_3 : wr.cell? ⟨gb210, 3, none⟩ = some (.int .i64 t202) := (blk_cell BK210.out 3).trans rfl
        have hcz15_4 : wr.cell? ⟨gb210, 4, none⟩ = some (.int .i64 t203) := (blk_cell BK210.out 4).trans rfl
        have hcz15_5 : wr.cell? ⟨gb210, 5, none⟩ = some (.slice Ao9 t204.length co9) := (blk_cell BK210.out 5).trans rfl
        have hcz15_6 : wr.cell? ⟨gb210, 6, none⟩ = some (.int .i64 t207) := (blk_cell BK210.out 6).trans rfl
        have hcz15_7 : wr.cell? ⟨gb210, 7, none⟩ = some (.bool t208) := (blk_cell BK210.out 7).trans rfl
        have hfz15_0 := blk_frozen BK210.out 0
        have hfz15_1 := blk_frozen BK210.out 1
        have hfz15_2 := blk_frozen BK210.out 2
        have hfz15_3 := blk_frozen BK210.out 3
        have hfz15_4 := blk_frozen BK210.out 4
        have hfz15_5 := blk_frozen BK210.out 5
        have hfz15_6 := blk_frozen BK210.out 6
        have hfz15_7 := blk_frozen BK210.out 7
        go_wp2
        go_ret
        exact ⟨by first | rfl | (simp [errW_none, errW_some] <;> rfl) | (simp [*, errW_none, errW_some] <;> rfl), by repeat (first | (with_reducible first | exact HB.out | apply below_alloc | apply pw_below_drewN | apply below_drew1 | refine below_set ?_ GE210.out) | exact HB.out)⟩

end Go.Proofs.Ytjkjhaiemephdab.Q
