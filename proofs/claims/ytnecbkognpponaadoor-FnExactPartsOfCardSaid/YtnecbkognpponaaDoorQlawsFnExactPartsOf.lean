/- A Go function as a Lean function, and its contract: for every input the Go code comes to what the Lean function tells. -/
import Derived.Test.YtnecbkognpponaaDoorQT
import Derived.Test.YtnecbkognpponaaDoorQspecPartsOf
import Derived.Test.YtnecbkognpponaaDoorQimplPartsOf
import Derived.Test.YtnecbkognpponaaDoorQlawseqStringS
import Derived.Test.YtnecbkognpponaaDoorQlawsmarkStringS
import Derived.Test.YtnecbkognpponaaDoorQlawsheldStringS
namespace Go.Proofs.YtnecbkognpponaaDoor.Q
open Go.RowKit Go.Proofs.YtnecbkognpponaaDoorW.PrintWords Go.Proofs.YtnecbkognpponaaDoorW.PrintLast Go.Proofs.YtnecbkognpponaaDoorW.PrintMore
attribute [local go_sem] max2_int min2_int max_two min_two max_three min_three max_four min_four   -- for this text's walks alone
set_option linter.unusedVariables false
set_option linter.unusedSimpArgs false

/-! ### laws_FnExactPartsOf: function 5 -/
mutual
def laws_FnExactPartsOf.j0 : Nat → ByteArray → List ByteArray → Bool → List ByteArray → Bool → Option (Bool)
 | 0, _, _, _, _, _ => none
 | k + 1, x0, x3, x4, x5, x32 => if x32 = true then (some false) else ((laws_markStringS.f k x5 1).bind fun bt140 => ((laws_heldStringS.f k bt140.2 1).bind fun t142 => (if t142 < 0 then (some false) else (if t142 = bt140.1 then ((impl_PartsOf.f k x0).bind fun bt143 => ((laws_eqStringS.f k bt143.1 x3).bind fun t147 => (if t147 = true then (laws_FnExactPartsOf.j1 k bt140.2 bt140.1 (bt143.2 != x4)) else (laws_FnExactPartsOf.j1 k bt140.2 bt140.1 true)))) else (some false)))))
def laws_FnExactPartsOf.j1 : Nat → List ByteArray → Int → Bool → Option (Bool)
 | 0, _, _, _ => none
 | k + 1, x5, x7, x57 => if x57 = true then (some false) else ((laws_heldStringS.f k x5 1).bind fun t148 => (if t148 < 0 then (some false) else (if t148 = x7 then (some true) else (some false))))
end
def laws_FnExactPartsOf.f (k : Nat) (a0 : ByteArray) : Option (Bool) := if (a0.size : Int) > 1048576 then (some true) else ((spec_PartsOf.f k a0).bind fun bt131 => ((impl_PartsOf.f k a0).bind fun bt135 => ((laws_eqStringS.f k bt135.1 bt131.1).bind fun t139 => (if t139 = true then (laws_FnExactPartsOf.j0 k a0 bt131.1 bt131.2 bt135.1 (bt135.2 != bt131.2)) else (laws_FnExactPartsOf.j0 k a0 bt131.1 bt131.2 bt135.1 true)))))
theorem laws_FnExactPartsOf.mono_l : ∀ k, (∀ y0 y1 y2 y3 y4, LeO (laws_FnExactPartsOf.j0 k y0 y1 y2 y3 y4) (laws_FnExactPartsOf.j0 (k + 1) y0 y1 y2 y3 y4)) ∧ (∀ y0 y1 y2, LeO (laws_FnExactPartsOf.j1 k y0 y1 y2) (laws_FnExactPartsOf.j1 (k + 1) y0 y1 y2))
 | 0 => ⟨fun _ _ _ _ _ r h => by simp [laws_FnExactPartsOf.j0] at h, fun _ _ _ r h => by simp [laws_FnExactPartsOf.j1] at h⟩
 | k + 1 => by
  obtain ⟨ih0, ih1⟩ := laws_FnExactPartsOf.mono_l k
  refine ⟨?_, ?_⟩
  ·intro y0 y1 y2 y3 y4
   unfold laws_FnExactPartsOf.j0
   repeat' first
   | (with_reducible exact ih0 _ _ _ _ _)
   | (with_reducible exact ih1 _ _ _)
   | (with_reducible exact impl_PartsOf.mono _ _)
   | (with_reducible exact laws_eqStringS.mono _ _ _)
   | (with_reducible exact laws_heldStringS.mono _ _ _)
   | (with_reducible exact laws_markStringS.mono _ _ _)
   | (with_reducible exact spec_PartsOf.mono _ _)
   | (with_reducible exact LeO.refl _)
   | (with_reducible exact LeO.none _)
   | (with_reducible refine LeO.ite ?_ ?_)
   | (with_reducible refine LeO.bind ?_ (fun _ => ?_))
   | exact ih0 _ _ _ _ _
   | exact ih1 _ _ _
   | exact impl_PartsOf.mono _ _
   | exact laws_eqStringS.mono _ _ _
   | exact laws_heldStringS.mono _ _ _
   | exact laws_markStringS.mono _ _ _
   | exact spec_PartsOf.mono _ _
   | exact LeO.none _
   | refine LeO.ite ?_ ?_
   | refine LeO.bind ?_ (fun _ => ?_)
  ·intro y0 y1 y2
   unfold laws_FnExactPartsOf.j1
   repeat' first
   | (with_reducible exact ih0 _ _ _ _ _)
   | (with_reducible exact ih1 _ _ _)
   | (with_reducible exact impl_PartsOf.mono _ _)
   | (with_reducible exact laws_eqStringS.mono _ _ _)
   | (with_reducible exact laws_heldStringS.mono _ _ _)
   | (with_reducible exact laws_markStringS.mono _ _ _)
   | (with_reducible exact spec_PartsOf.mono _ _)
   | (with_reducible exact LeO.refl _)
   | (with_reducible exact LeO.none _)
   | (with_reducible refine LeO.ite ?_ ?_)
   | (with_reducible refine LeO.bind ?_ (fun _ => ?_))
   | exact ih0 _ _ _ _ _
   | exact ih1 _ _ _
   | exact impl_PartsOf.mono _ _
   | exact laws_eqStringS.mono _ _ _
   | exact laws_heldStringS.mono _ _ _
   | exact laws_markStringS.mono _ _ _
   | exact spec_PartsOf.mono _ _
   | exact LeO.none _
   | refine LeO.ite ?_ ?_
   | refine LeO.bind ?_ (fun _ => ?_)
theorem laws_FnExactPartsOf.mono : ∀ a0 k, LeO (laws_FnExactPartsOf.f k a0) (laws_FnExactPartsOf.f (k + 1) a0) := by
 intro a0 k
 obtain ⟨ih0, ih1⟩ := laws_FnExactPartsOf.mono_l k
 unfold laws_FnExactPartsOf.f
 repeat' first
   | (with_reducible exact ih0 _ _ _ _ _)
   | (with_reducible exact ih1 _ _ _)
   | (with_reducible exact impl_PartsOf.mono _ _)
   | (with_reducible exact laws_eqStringS.mono _ _ _)
   | (with_reducible exact laws_heldStringS.mono _ _ _)
   | (with_reducible exact laws_markStringS.mono _ _ _)
   | (with_reducible exact spec_PartsOf.mono _ _)
   | (with_reducible exact LeO.refl _)
   | (with_reducible exact LeO.none _)
   | (with_reducible refine LeO.ite ?_ ?_)
   | (with_reducible refine LeO.bind ?_ (fun _ => ?_))
   | exact ih0 _ _ _ _ _
   | exact ih1 _ _ _
   | exact impl_PartsOf.mono _ _
   | exact laws_eqStringS.mono _ _ _
   | exact laws_heldStringS.mono _ _ _
   | exact laws_markStringS.mono _ _ _
   | exact spec_PartsOf.mono _ _
   | exact LeO.none _
   | refine LeO.ite ?_ ?_
   | refine LeO.bind ?_ (fun _ => ?_)
set_option maxHeartbeats 8000000 in
set_option maxRecDepth 100000 in
theorem laws_FnExactPartsOf.calls (k : Nat) (a0 : ByteArray) (r : Bool) (w : World) (hr_ : r = true) (h : laws_FnExactPartsOf.f k a0 = some r) (hM : MaxIs w) :
  Calls Tryd.prog 5 #[.string a0] w fun e w' => e = .returned (.bool r) ∧ Below w.heap.size w w' := by
 have HM := Aside0.mk hM
 clear hM
 have HB := Aside0.mk (Below.refl w.heap.size w)
 have H : (if (a0.size : Int) > 1048576 then (some true) else ((spec_PartsOf.f k a0).bind fun bt131 => ((impl_PartsOf.f k a0).bind fun bt135 => ((laws_eqStringS.f k bt135.1 bt131.1).bind fun t139 => (if t139 = true then (laws_FnExactPartsOf.j0 k a0 bt131.1 bt131.2 bt135.1 (bt135.2 != bt131.2)) else (laws_FnExactPartsOf.j0 k a0 bt131.1 bt131.2 bt135.1 true)))))) = some r := h
 clear h
 by_cases c2 : (a0.size : Int) > 1048576
 ·rw [if_pos c2] at H
  have c2b0 : decide (1048576 < (a0.size : Int)) = true := decide_eq_true c2
  have c2b1 : decide (1048576 < a0.size) = true := decide_eq_true (by omega)
  clear c2
  obtain rfl := Option.some.inj H
  go_enter Tryd.func5, Tryd.ntmps5
  go_wp2
  go_ret
  exact ⟨er_q, bw_q HB⟩
 ·rw [if_neg c2] at H
  have c2b0 : decide (1048576 < (a0.size : Int)) = false := decide_eq_false c2
  have c2b1 : decide (1048576 < a0.size) = false := decide_eq_false (by omega)
  clear c2
  replace H := Option.bind_eq_some_iff.mp H
  obtain ⟨⟨t131, t132⟩, A30, H⟩ := H
  replace H : ((impl_PartsOf.f k a0).bind fun bt135 => ((laws_eqStringS.f k bt135.1 t131).bind fun t139 => (if t139 = true then (laws_FnExactPartsOf.j0 k a0 t131 t132 bt135.1 (bt135.2 != t132)) else (laws_FnExactPartsOf.j0 k a0 t131 t132 bt135.1 true)))) = some r := H
  have A3 := Aside0.mk A30
  clear A30
  replace H := Option.bind_eq_some_iff.mp H
  obtain ⟨⟨t135, t136⟩, A40, H⟩ := H
  replace H : ((laws_eqStringS.f k t135 t131).bind fun t139 => (if t139 = true then (laws_FnExactPartsOf.j0 k a0 t131 t132 t135 (t136 != t132)) else (laws_FnExactPartsOf.j0 k a0 t131 t132 t135 true))) = some r := H
  have A4 := Aside0.mk A40
  clear A40
  have HC5 := Aside0.mk H
  clear H
  go_enter Tryd.func5, Tryd.ntmps5
  go_upto_region 5 with (first | ((with_reducible refine gate_callee (f := 19) rfl ?_); refine goesL_ (some 16) rfl rfl Tryd.func19 (by kernel_rfl) rfl #[.string a0] rfl mp_q ?_; (with_reducible refine (spec_PartsOf.calls k a0 t131 t132 _ A3.out).mono ?_); rintro e w6 ⟨v133, rfl, ho0, hb⟩; refine ⟨_, rfl, ?_⟩; have HO134 := Aside0.mk (Kd.R_lower ho0 (below_size (bw_q HB))); replace HB := Aside0.mk (below_step (bw_q HB) hb); (try clear hb); (try clear hb2); (try clear hk); (try clear hi); (try clear ho0)) | ((with_reducible refine gate_callee (f := 20) rfl ?_); refine goesL_ (some 21) rfl rfl Tryd.func20 (by kernel_rfl) rfl #[.string a0] rfl mp_q ?_; (with_reducible refine (impl_PartsOf.calls k a0 t135 t136 _ A4.out (MaxIs.below HM.out (bw_q HB))).mono ?_); rintro e w7 ⟨v137, rfl, ho0, hb⟩; refine ⟨_, rfl, ?_⟩; have HO138 := Aside0.mk (Kd.R_lower (Kd.R_new' ho0 (Kd.R_lt (kR_q HO134))) (below_size (bw_q HB))); replace HO134 := Aside0.mk (Kd.R_elder' (kR_q HO134) (Kd.R_base ho0) hb); replace HB := Aside0.mk (below_step (bw_q HB) hb); (try clear hb); (try clear hb2); (try clear hk); (try clear hi); (try clear ho0)))
  (try simp only [Act.put, List.setIfInBounds_toArray, List.set_cons_zero, List.set_cons_succ])
  go_cut [32] (fun v32 wc => ∃ (kq : Nat) (x32_4 : Bool), v32 = .bool x32_4 ∧ Aside0 (laws_FnExactPartsOf.j0 kq a0 t131 t132 t135 x32_4 = some r) ∧ Aside0 (kq ≤ k) ∧ Aside0 (Kd.R Kd.string 9 wc w.heap.size (fun k_ => some k_ ≠ (v137 : Value).ownBlock) v133 t131) ∧ Aside0 (Kd.R Kd.string 9 wc w.heap.size (fun k_ => some k_ ≠ (v133 : Value).ownBlock) v137 t135) ∧ Aside0 (Below w.heap.size w wc))
  case first =>
   have H := HC5.out
   clear HC5
   replace H := Option.bind_eq_some_iff.mp H
   obtain ⟨t139, A80, H⟩ := H
   replace H : (if t139 = true then (laws_FnExactPartsOf.j0 k a0 t131 t132 t135 (t136 != t132)) else (laws_FnExactPartsOf.j0 k a0 t131 t132 t135 true)) = some r := H
   have A8 := Aside0.mk A80
   clear A80
   by_cases c9 : t139 = true
   ·subst c9
    have H1 : (laws_FnExactPartsOf.j0 k a0 t131 t132 t135 (t136 != t132)) = some r := by rw [if_pos rfl] at H; exact H
    clear H
    have H := H1
    clear H1
    have H' := Aside0.mk H
    clear H
    obtain ⟨Ao10, co10, eo10⟩ := Kd.R_slice HO138.out
    subst eo10
    obtain ⟨Ao11, co11, eo11⟩ := Kd.R_slice HO134.out
    subst eo11
    go_wp2_with (first | ((with_reducible refine gate_callee (f := 21) rfl ?_); refine goesL_ (some 26) rfl rfl Tryd.func21 (by kernel_rfl) rfl #[.slice Ao10 t135.length co10, .slice Ao11 t131.length co11] rfl mp_q ?_; (with_reducible refine (laws_eqStringS.calls k _ _ t135 _ _ t131 true _ ?side1 ?side2 ?side3 ?side4 A8.out).mono ?_); (case side1 => repeat (first | exact (Kd.R_reads' HO138.out).2.2 | (with_reducible refine Kd.C_alloc ?_ _) | (with_reducible refine Kd.C_drewN ?_ _) | (with_reducible refine Kd.C_drew ?_))); (case side2 => exact (Kd.R_reads' HO138.out).2.1); (case side3 => repeat (first | exact (Kd.R_reads' HO134.out).2.2 | (with_reducible refine Kd.C_alloc ?_ _) | (with_reducible refine Kd.C_drewN ?_ _) | (with_reducible refine Kd.C_drew ?_))); (case side4 => exact (Kd.R_reads' HO134.out).2.1); rintro e w' ⟨rfl, ⟨nd, rfl⟩⟩; refine ⟨_, rfl, ?_⟩))
    go_meet
    case rel => exact ⟨_, ((t136 != t132)), (by first | rfl | (simp; done) | (simp [*]; done)), H', ⟨by first | omega | exact Nat.le_refl _⟩, ⟨by (with_reducible repeat (first | apply Kd.R_alloc | apply Kd.R_drewN | apply Kd.R_drew)); exact Kd.R_mono HO134.out (fun _ hk => hk.2)⟩, ⟨by (with_reducible repeat (first | apply Kd.R_alloc | apply Kd.R_drewN | apply Kd.R_drew)); exact Kd.R_mono HO138.out (fun _ hk => hk.2)⟩, ⟨bw_q HB⟩⟩
   ·replace c9 := Bool.eq_false_iff.mpr c9
    subst c9
    have H1 : (laws_FnExactPartsOf.j0 k a0 t131 t132 t135 true) = some r := by rw [if_neg (show ¬ (false = true) by decide)] at H; exact H
    clear H
    have H := H1
    clear H1
    have H' := Aside0.mk H
    clear H
    obtain ⟨Ao12, co12, eo12⟩ := Kd.R_slice HO138.out
    subst eo12
    obtain ⟨Ao13, co13, eo13⟩ := Kd.R_slice HO134.out
    subst eo13
    go_wp2_with (first | ((with_reducible refine gate_callee (f := 21) rfl ?_); refine goesL_ (some 26) rfl rfl Tryd.func21 (by kernel_rfl) rfl #[.slice Ao12 t135.length co12, .slice Ao13 t131.length co13] rfl mp_q ?_; (with_reducible refine (laws_eqStringS.calls k _ _ t135 _ _ t131 false _ ?side1 ?side2 ?side3 ?side4 A8.out).mono ?_); (case side1 => repeat (first | exact (Kd.R_reads' HO138.out).2.2 | (with_reducible refine Kd.C_alloc ?_ _) | (with_reducible refine Kd.C_drewN ?_ _) | (with_reducible refine Kd.C_drew ?_))); (case side2 => exact (Kd.R_reads' HO138.out).2.1); (case side3 => repeat (first | exact (Kd.R_reads' HO134.out).2.2 | (with_reducible refine Kd.C_alloc ?_ _) | (with_reducible refine Kd.C_drewN ?_ _) | (with_reducible refine Kd.C_drew ?_))); (case side4 => exact (Kd.R_reads' HO134.out).2.1); rintro e w' ⟨rfl, ⟨nd, rfl⟩⟩; refine ⟨_, rfl, ?_⟩))
    go_meet
    case rel => exact ⟨_, (true), (by first | rfl | (simp; done) | (simp [*]; done)), H', ⟨by first | omega | exact Nat.le_refl _⟩, ⟨by (with_reducible repeat (first | apply Kd.R_alloc | apply Kd.R_drewN | apply Kd.R_drew)); exact Kd.R_mono HO134.out (fun _ hk => hk.2)⟩, ⟨by (with_reducible repeat (first | apply Kd.R_alloc | apply Kd.R_drewN | apply Kd.R_drew)); exact Kd.R_mono HO138.out (fun _ hk => hk.2)⟩, ⟨bw_q HB⟩⟩
  case rest =>
   clear HC5
   try clear c1
   try clear c2
   try clear c2b0
   try clear c2b1
   try clear p2
   try clear c5
   try clear c9
   obtain ⟨kq, x32_4, rfl, HA, HJ4, HO_3, HO_5, HB⟩ := hcut
   cases kq with
   | zero => exact absurd HA.out (by simp [laws_FnExactPartsOf.j0])
   | succ kj4 =>
    have H := HA.out
    clear HA
    simp only [laws_FnExactPartsOf.j0] at H
    by_cases c14 : x32_4 = true
    ·subst c14
     have H1 : (some false) = some r := by rw [if_pos rfl] at H; exact H
     clear H
     have H := H1
     clear H1
     exact absurd (Option.some.inj H) (by rw [hr_]; decide)
    ·replace c14 := Bool.eq_false_iff.mpr c14
     subst c14
     have H1 : ((laws_markStringS.f kj4 t135 1).bind fun bt140 => ((laws_heldStringS.f kj4 bt140.2 1).bind fun t142 => (if t142 < 0 then (some false) else (if t142 = bt140.1 then ((impl_PartsOf.f kj4 a0).bind fun bt143 => ((laws_eqStringS.f kj4 bt143.1 t131).bind fun t147 => (if t147 = true then (laws_FnExactPartsOf.j1 kj4 bt140.2 bt140.1 (bt143.2 != t132)) else (laws_FnExactPartsOf.j1 kj4 bt140.2 bt140.1 true)))) else (some false))))) = some r := by rw [if_neg (show ¬ (false = true) by decide)] at H; exact H
     clear H
     have H := H1
     clear H1
     replace H := Option.bind_eq_some_iff.mp H
     obtain ⟨⟨t140, t141⟩, A150, H⟩ := H
     replace H : ((laws_heldStringS.f kj4 t141 1).bind fun t142 => (if t142 < 0 then (some false) else (if t142 = t140 then ((impl_PartsOf.f kj4 a0).bind fun bt143 => ((laws_eqStringS.f kj4 bt143.1 t131).bind fun t147 => (if t147 = true then (laws_FnExactPartsOf.j1 kj4 t141 t140 (bt143.2 != t132)) else (laws_FnExactPartsOf.j1 kj4 t141 t140 true)))) else (some false)))) = some r := H
     have A15 := Aside0.mk A150
     clear A150
     replace H := Option.bind_eq_some_iff.mp H
     obtain ⟨t142, A160, H⟩ := H
     replace H : (if t142 < 0 then (some false) else (if t142 = t140 then ((impl_PartsOf.f kj4 a0).bind fun bt143 => ((laws_eqStringS.f kj4 bt143.1 t131).bind fun t147 => (if t147 = true then (laws_FnExactPartsOf.j1 kj4 t141 t140 (bt143.2 != t132)) else (laws_FnExactPartsOf.j1 kj4 t141 t140 true)))) else (some false))) = some r := H
     have A16 := Aside0.mk A160
     clear A160
     have HC17 := Aside0.mk H
     clear H
     obtain ⟨Ao18, co18, eo18⟩ := Kd.R_slice HO_5.out
     subst eo18
     go_upto_if 40 with (first | ((with_reducible refine gate_callee (f := 22) rfl ?_); refine goesL_ (some 35) rfl rfl Tryd.func22 (by kernel_rfl) rfl #[.slice Ao18 t135.length co18, .int .i64 1] rfl mp_q ?_; (with_reducible refine (laws_markStringS.calls kj4 (fun k_ => some k_ = (.slice Ao18 t135.length co18 : Value).ownBlock) (.slice Ao18 t135.length co18) t135 1 t140 t141 w _ ?side1 ?side2 A15.out).mono ?_); (case side1 => repeat (first | (with_reducible first | exact HB.out | apply below_alloc | apply pw_below_drewN | apply below_drew1) | exact HB.out)); (case side2 => exact Kd.R_tight rfl HO_5.out); rintro e w19 ⟨rfl, hy0, hb, hkp⟩; refine ⟨_, rfl, ?_⟩; replace HO_3 := Aside0.mk (Kd.R_mono (ok' := fun k_ => some k_ ≠ (.slice Ao18 t135.length co18 : Value).ownBlock) (Kd.R_keptB (HO_3.out) hkp (fun k_ hk_ hs_ => (hk_) hs_)) (fun k_ hk_ => hk_.1)); replace HO_5 := Aside0.mk (Kd.R_reok rfl hy0 (fun k_ e_ => HO_5.out.1 k_ e_)); replace HB := Aside0.mk (hb); (try clear hb); (try clear hkp); (try clear hy0)) | ((with_reducible refine gate_callee (f := 23) rfl ?_); refine goesL_ (some 38) rfl rfl Tryd.func23 (by kernel_rfl) rfl #[.slice Ao18 t141.length co18, .int .i64 1] rfl (by (try simp only [List.map_toArray, List.map_cons, List.map_nil]); first | done | (rw [show t141.length = t135.length from (Kd.R_reads' HO_5.out).1.symm] <;> rfl) | rfl | (simp only [List.length_drop, List.length_take]; rfl)) ?_; (with_reducible refine (laws_heldStringS.calls kj4 _ _ t141 1 t142 _ ?side1 ?side2 A16.out).mono ?_); (case side1 => repeat (first | exact (Kd.R_reads' HO_5.out).2.2 | (with_reducible refine Kd.C_alloc ?_ _) | (with_reducible refine Kd.C_drewN ?_ _) | (with_reducible refine Kd.C_drew ?_))); (case side2 => rw [show t141.length = t135.length from (Kd.R_reads' HO_5.out).1.symm]; exact (Kd.R_reads' HO_5.out).2.1); rintro e w20 ⟨rfl, hb⟩; refine ⟨_, rfl, ?_⟩; replace HO_3 := Aside0.mk (Kd.R_below (kR_q HO_3) hb); replace HO_5 := Aside0.mk (Kd.R_below (kR_q HO_5) hb); replace HB := Aside0.mk (below_step (bw_q HB) hb); (try clear hb); (try clear hb2); (try clear hk); (try clear hi)))
     have H := HC17.out
     clear HC17
     by_cases c21 : t142 < 0
     ·rw [if_pos c21] at H
      have c21b0 : decide (t142 < 0) = true := decide_eq_true c21
      clear c21
      (first | rw [c21b0] | rw [c21b1] | (simp only [i64_w, i32_w]; first | rw [c21b0] | rw [c21b1]) | skip)
      exact absurd (Option.some.inj H) (by rw [hr_]; decide)
     ·rw [if_neg c21] at H
      have c21b0 : decide (t142 < 0) = false := decide_eq_false c21
      clear c21
      (first | rw [c21b0] | rw [c21b1] | (simp only [i64_w, i32_w]; first | rw [c21b0] | rw [c21b1]) | skip)
      by_cases c22 : t142 = t140
      ·rw [if_pos c22] at H
       have c22b0 : (t142 == t140) = true := beq_iff_eq.mpr c22
       have c22b1 : (t142 != t140) = false := bne_eq_false_iff_eq.mpr c22
       clear c22
       replace H := Option.bind_eq_some_iff.mp H
       obtain ⟨⟨t143, t144⟩, A230, H⟩ := H
       replace H : ((laws_eqStringS.f kj4 t143 t131).bind fun t147 => (if t147 = true then (laws_FnExactPartsOf.j1 kj4 t141 t140 (t144 != t132)) else (laws_FnExactPartsOf.j1 kj4 t141 t140 true))) = some r := H
       have A23 := Aside0.mk A230
       clear A230
       have HC24 := Aside0.mk H
       clear H
       go_upto_region 16 with (first | ((with_reducible refine gate_callee (f := 20) rfl ?_); refine goesL_ (some 46) rfl rfl Tryd.func20 (by kernel_rfl) rfl #[.string a0] rfl mp_q ?_; (with_reducible refine (impl_PartsOf.calls kj4 a0 t143 t144 _ A23.out (MaxIs.below HM.out (bw_q HB))).mono ?_); rintro e w25 ⟨v145, rfl, ho0, hb⟩; refine ⟨_, rfl, ?_⟩; have HO146 := Aside0.mk (Kd.R_lower (Kd.R_new' (Kd.R_new' ho0 (Kd.R_lt (kR_q HO_3))) (Kd.R_lt (kR_q HO_5))) (below_size (bw_q HB))); replace HO_3 := Aside0.mk (Kd.R_elder' (kR_q HO_3) (Kd.R_base ho0) hb); replace HO_5 := Aside0.mk (Kd.R_elder' (kR_q HO_5) (Kd.R_base ho0) hb); replace HB := Aside0.mk (below_step (bw_q HB) hb); (try clear hb); (try clear hb2); (try clear hk); (try clear hi); (try clear ho0)))
       (try simp only [Act.put, List.setIfInBounds_toArray, List.set_cons_zero, List.set_cons_succ])
       go_cut [57] (fun v57 wc => ∃ (kq : Nat) (x57_23 : Bool), v57 = .bool x57_23 ∧ Aside0 (laws_FnExactPartsOf.j1 kq t141 t140 x57_23 = some r) ∧ Aside0 (kq ≤ kj4) ∧ Aside0 (Kd.R Kd.string 9 wc w.heap.size (fun _ => True) (.slice Ao18 t135.length co18) t141) ∧ Aside0 (Below w.heap.size w wc))
       case first =>
        have H := HC24.out
        clear HC24
        replace H := Option.bind_eq_some_iff.mp H
        obtain ⟨t147, A260, H⟩ := H
        replace H : (if t147 = true then (laws_FnExactPartsOf.j1 kj4 t141 t140 (t144 != t132)) else (laws_FnExactPartsOf.j1 kj4 t141 t140 true)) = some r := H
        have A26 := Aside0.mk A260
        clear A260
        by_cases c27 : t147 = true
        ·subst c27
         have H1 : (laws_FnExactPartsOf.j1 kj4 t141 t140 (t144 != t132)) = some r := by rw [if_pos rfl] at H; exact H
         clear H
         have H := H1
         clear H1
         have H' := Aside0.mk H
         clear H
         obtain ⟨Ao28, co28, eo28⟩ := Kd.R_slice HO146.out
         subst eo28
         obtain ⟨Ao29, co29, eo29⟩ := Kd.R_slice HO_3.out
         subst eo29
         go_wp2_with (first | ((with_reducible refine gate_callee (f := 21) rfl ?_); refine goesL_ (some 51) rfl rfl Tryd.func21 (by kernel_rfl) rfl #[.slice Ao28 t143.length co28, .slice Ao29 t131.length co29] rfl mp_q ?_; (with_reducible refine (laws_eqStringS.calls kj4 _ _ t143 _ _ t131 true _ ?side1 ?side2 ?side3 ?side4 A26.out).mono ?_); (case side1 => repeat (first | exact (Kd.R_reads' HO146.out).2.2 | (with_reducible refine Kd.C_alloc ?_ _) | (with_reducible refine Kd.C_drewN ?_ _) | (with_reducible refine Kd.C_drew ?_))); (case side2 => exact (Kd.R_reads' HO146.out).2.1); (case side3 => repeat (first | exact (Kd.R_reads' HO_3.out).2.2 | (with_reducible refine Kd.C_alloc ?_ _) | (with_reducible refine Kd.C_drewN ?_ _) | (with_reducible refine Kd.C_drew ?_))); (case side4 => exact (Kd.R_reads' HO_3.out).2.1); rintro e w' ⟨rfl, ⟨nd, rfl⟩⟩; refine ⟨_, rfl, ?_⟩))
         go_meet
         case rel => exact ⟨_, ((t144 != t132)), (by first | rfl | (simp; done) | (simp [*]; done)), H', ⟨by have := HJ4.out; first | omega | exact Nat.le_refl _⟩, ⟨by (with_reducible repeat (first | apply Kd.R_alloc | apply Kd.R_drewN | apply Kd.R_drew)); exact Kd.R_mono HO_5.out (fun _ hk => trivial)⟩, ⟨bw_q HB⟩⟩
        ·replace c27 := Bool.eq_false_iff.mpr c27
         subst c27
         have H1 : (laws_FnExactPartsOf.j1 kj4 t141 t140 true) = some r := by rw [if_neg (show ¬ (false = true) by decide)] at H; exact H
         clear H
         have H := H1
         clear H1
         have H' := Aside0.mk H
         clear H
         obtain ⟨Ao30, co30, eo30⟩ := Kd.R_slice HO146.out
         subst eo30
         obtain ⟨Ao31, co31, eo31⟩ := Kd.R_slice HO_3.out
         subst eo31
         go_wp2_with (first | ((with_reducible refine gate_callee (f := 21) rfl ?_); refine goesL_ (some 51) rfl rfl Tryd.func21 (by kernel_rfl) rfl #[.slice Ao30 t143.length co30, .slice Ao31 t131.length co31] rfl mp_q ?_; (with_reducible refine (laws_eqStringS.calls kj4 _ _ t143 _ _ t131 false _ ?side1 ?side2 ?side3 ?side4 A26.out).mono ?_); (case side1 => repeat (first | exact (Kd.R_reads' HO146.out).2.2 | (with_reducible refine Kd.C_alloc ?_ _) | (with_reducible refine Kd.C_drewN ?_ _) | (with_reducible refine Kd.C_drew ?_))); (case side2 => exact (Kd.R_reads' HO146.out).2.1); (case side3 => repeat (first | exact (Kd.R_reads' HO_3.out).2.2 | (with_reducible refine Kd.C_alloc ?_ _) | (with_reducible refine Kd.C_drewN ?_ _) | (with_reducible refine Kd.C_drew ?_))); (case side4 => exact (Kd.R_reads' HO_3.out).2.1); rintro e w' ⟨rfl, ⟨nd, rfl⟩⟩; refine ⟨_, rfl, ?_⟩))
         go_meet
         case rel => exact ⟨_, (true), (by first | rfl | (simp; done) | (simp [*]; done)), H', ⟨by have := HJ4.out; first | omega | exact Nat.le_refl _⟩, ⟨by (with_reducible repeat (first | apply Kd.R_alloc | apply Kd.R_drewN | apply Kd.R_drew)); exact Kd.R_mono HO_5.out (fun _ hk => trivial)⟩, ⟨bw_q HB⟩⟩
       case rest =>
        clear HC24
        try clear c1
        try clear c2
        try clear c2b0
        try clear c2b1
        try clear p2
        try clear c5
        try clear c9
        try clear c14
        try clear c19
        try clear c20
        try clear c21
        try clear c21b0
        try clear c21b1
        try clear c22
        try clear c22b0
        try clear c22b1
        try clear c23
        try clear c27
        try clear p2
        obtain ⟨kq, x57_23, rfl, HA, HJ23, HO_5, HB⟩ := hcut
        have hl5_23 := (Kd.R_reads' HO_5.out).1
        rw [hl5_23] at HO_5
        (try simp only [hl5_23])
        cases kq with
        | zero => exact absurd HA.out (by simp [laws_FnExactPartsOf.j1])
        | succ kj23 =>
         have H := HA.out
         clear HA
         simp only [laws_FnExactPartsOf.j1] at H
         by_cases c32 : x57_23 = true
         ·subst c32
          have H1 : (some false) = some r := by rw [if_pos rfl] at H; exact H
          clear H
          have H := H1
          clear H1
          exact absurd (Option.some.inj H) (by rw [hr_]; decide)
         ·replace c32 := Bool.eq_false_iff.mpr c32
          subst c32
          have H1 : ((laws_heldStringS.f kj23 t141 1).bind fun t148 => (if t148 < 0 then (some false) else (if t148 = t140 then (some true) else (some false)))) = some r := by rw [if_neg (show ¬ (false = true) by decide)] at H; exact H
          clear H
          have H := H1
          clear H1
          replace H := Option.bind_eq_some_iff.mp H
          obtain ⟨t148, A330, H⟩ := H
          replace H : (if t148 < 0 then (some false) else (if t148 = t140 then (some true) else (some false))) = some r := H
          have A33 := Aside0.mk A330
          clear A330
          have HC34 := Aside0.mk H
          clear H
          go_upto_if 62 with (first | ((with_reducible refine gate_callee (f := 23) rfl ?_); refine goesL_ (some 60) rfl rfl Tryd.func23 (by kernel_rfl) rfl #[.slice Ao18 t141.length co18, .int .i64 1] rfl mp_q ?_; (with_reducible refine (laws_heldStringS.calls kj23 _ _ t141 1 t148 _ ?side1 ?side2 A33.out).mono ?_); (case side1 => repeat (first | exact (Kd.R_reads' HO_5.out).2.2 | (with_reducible refine Kd.C_alloc ?_ _) | (with_reducible refine Kd.C_drewN ?_ _) | (with_reducible refine Kd.C_drew ?_))); (case side2 => exact (Kd.R_reads' HO_5.out).2.1); rintro e w35 ⟨rfl, hb⟩; refine ⟨_, rfl, ?_⟩; replace HO_5 := Aside0.mk (Kd.R_below (kR_q HO_5) hb); replace HB := Aside0.mk (below_step (bw_q HB) hb); (try clear hb); (try clear hb2); (try clear hk); (try clear hi)))
          have H := HC34.out
          clear HC34
          by_cases c36 : t148 < 0
          ·rw [if_pos c36] at H
           have c36b0 : decide (t148 < 0) = true := decide_eq_true c36
           clear c36
           (first | rw [c36b0] | rw [c36b1] | (simp only [i64_w, i32_w]; first | rw [c36b0] | rw [c36b1]) | skip)
           exact absurd (Option.some.inj H) (by rw [hr_]; decide)
          ·rw [if_neg c36] at H
           have c36b0 : decide (t148 < 0) = false := decide_eq_false c36
           clear c36
           (first | rw [c36b0] | rw [c36b1] | (simp only [i64_w, i32_w]; first | rw [c36b0] | rw [c36b1]) | skip)
           by_cases c37 : t148 = t140
           ·rw [if_pos c37] at H
            have c37b0 : (t148 == t140) = true := beq_iff_eq.mpr c37
            have c37b1 : (t148 != t140) = false := bne_eq_false_iff_eq.mpr c37
            clear c37
            obtain rfl := Option.some.inj H
            go_wp2
            go_ret
            exact ⟨er_q, bw_q HB⟩
           ·rw [if_neg c37] at H
            have c37b0 : (t148 == t140) = false := beq_eq_false_iff_ne.mpr c37
            have c37b1 : (t148 != t140) = true := bne_iff_ne.mpr c37
            exact absurd (Option.some.inj H) (by rw [hr_]; decide)
      ·rw [if_neg c22] at H
       have c22b0 : (t142 == t140) = false := beq_eq_false_iff_ne.mpr c22
       have c22b1 : (t142 != t140) = true := bne_iff_ne.mpr c22
       exact absurd (Option.some.inj H) (by rw [hr_]; decide)

/-- THE ONE PURE STATEMENT of laws_FnExactPartsOf: yours. -/
def laws_FnExactPartsOf.Pure : Prop := ∀ (a0 : ByteArray), a0.size ≤ 140737488351232 → ∃ k, laws_FnExactPartsOf.f k a0 = some true
end Go.Proofs.YtnecbkognpponaaDoor.Q
