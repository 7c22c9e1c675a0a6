/- A Go function as a Lean function, and its contract: for every input the Go code comes to what the Lean function tells. -/
import Derived.Test.YtnecbkognpponaaQT
import Derived.Test.YtnecbkognpponaaQspecReadRecord
import Derived.Test.YtnecbkognpponaaQimplReadRecord
import Derived.Test.YtnecbkognpponaaQlawseqRecord
import Derived.Test.YtnecbkognpponaaQlawsmarkRecord
import Derived.Test.YtnecbkognpponaaQlawsheldRecord
namespace Go.Proofs.Ytnecbkognpponaa.Q
open Go.RowKit Go.Proofs.YtnecbkognpponaaW.PrintWords Go.Proofs.YtnecbkognpponaaW.PrintLast Go.Proofs.YtnecbkognpponaaW.PrintMore
attribute [local go_sem] max2_int min2_int max_two min_two max_three min_three max_four min_four   -- for this text's walks alone
set_option linter.unusedVariables false
set_option linter.unusedSimpArgs false

/-! ### laws_FnExactReadRecord: function 3 -/
mutual
def laws_FnExactReadRecord.j0 : Nat → ByteArray → Bool → Bool → Int → Int → Int → Int → Int → List (S63) → Int → Bool → Int → Int → Int → Int → Int → List (S63) → Int → Bool → Option (Bool)
 | 0, _, _, _, _, _, _, _, _, _, _, _, _, _, _, _, _, _, _, _ => none
 | k + 1, x0, x4, x32, x292000, x292001, x292002, x292003, x292004, x292005, x292006, x292007, x304000, x304001, x304002, x304003, x304004, x304005, x304006, x304007 => if x32 = true then (some false) else ((laws_markRecord.f k x304000 x304001 x304002 x304003 x304004 x304005 x304006 x304007 1).bind fun bt305 => ((laws_heldRecord.f k x304000 x304001 x304002 x304003 x304004 bt305.2 x304006 x304007 1).bind fun t307 => (if t307 < 0 then (some false) else (if t307 = bt305.1 then ((impl_ReadRecord.f k x0).bind fun bt308 => ((laws_eqRecord.f k bt308.1 bt308.2.1 bt308.2.2.1 bt308.2.2.2.1 bt308.2.2.2.2.1 bt308.2.2.2.2.2.1 bt308.2.2.2.2.2.2.1 bt308.2.2.2.2.2.2.2.1 x292000 x292001 x292002 x292003 x292004 x292005 x292006 x292007).bind fun t320 => (if t320 = true then (laws_FnExactReadRecord.j1 k bt305.1 (bt308.2.2.2.2.2.2.2.2 != x4) x304000 x304001 x304002 x304003 x304004 bt305.2 x304006 x304007) else (laws_FnExactReadRecord.j1 k bt305.1 true x304000 x304001 x304002 x304003 x304004 bt305.2 x304006 x304007)))) else (some false)))))
def laws_FnExactReadRecord.j1 : Nat → Int → Bool → Int → Int → Int → Int → Int → List (S63) → Int → Bool → Option (Bool)
 | 0, _, _, _, _, _, _, _, _, _, _ => none
 | k + 1, x7, x57, x304000, x304001, x304002, x304003, x304004, x304005, x304006, x304007 => if x57 = true then (some false) else ((laws_heldRecord.f k x304000 x304001 x304002 x304003 x304004 x304005 x304006 x304007 1).bind fun t321 => (if t321 < 0 then (some false) else (if t321 = x7 then (some true) else (some false))))
end
def laws_FnExactReadRecord.f (k : Nat) (a0 : ByteArray) : Option (Bool) := if (a0.size : Int) > 1048576 then (some true) else ((spec_ReadRecord.f k a0).bind fun bt280 => ((impl_ReadRecord.f k a0).bind fun bt292 => ((laws_eqRecord.f k bt292.1 bt292.2.1 bt292.2.2.1 bt292.2.2.2.1 bt292.2.2.2.2.1 bt292.2.2.2.2.2.1 bt292.2.2.2.2.2.2.1 bt292.2.2.2.2.2.2.2.1 bt280.1 bt280.2.1 bt280.2.2.1 bt280.2.2.2.1 bt280.2.2.2.2.1 bt280.2.2.2.2.2.1 bt280.2.2.2.2.2.2.1 bt280.2.2.2.2.2.2.2.1).bind fun t304 => (if t304 = true then (laws_FnExactReadRecord.j0 k a0 bt280.2.2.2.2.2.2.2.2 (bt292.2.2.2.2.2.2.2.2 != bt280.2.2.2.2.2.2.2.2) bt280.1 bt280.2.1 bt280.2.2.1 bt280.2.2.2.1 bt280.2.2.2.2.1 bt280.2.2.2.2.2.1 bt280.2.2.2.2.2.2.1 bt280.2.2.2.2.2.2.2.1 bt292.1 bt292.2.1 bt292.2.2.1 bt292.2.2.2.1 bt292.2.2.2.2.1 bt292.2.2.2.2.2.1 bt292.2.2.2.2.2.2.1 bt292.2.2.2.2.2.2.2.1) else (laws_FnExactReadRecord.j0 k a0 bt280.2.2.2.2.2.2.2.2 true bt280.1 bt280.2.1 bt280.2.2.1 bt280.2.2.2.1 bt280.2.2.2.2.1 bt280.2.2.2.2.2.1 bt280.2.2.2.2.2.2.1 bt280.2.2.2.2.2.2.2.1 bt292.1 bt292.2.1 bt292.2.2.1 bt292.2.2.2.1 bt292.2.2.2.2.1 bt292.2.2.2.2.2.1 bt292.2.2.2.2.2.2.1 bt292.2.2.2.2.2.2.2.1)))))
theorem laws_FnExactReadRecord.mono_l : ∀ k, (∀ y0 y1 y2 y3 y4 y5 y6 y7 y8 y9 y10 y11 y12 y13 y14 y15 y16 y17 y18, LeO (laws_FnExactReadRecord.j0 k y0 y1 y2 y3 y4 y5 y6 y7 y8 y9 y10 y11 y12 y13 y14 y15 y16 y17 y18) (laws_FnExactReadRecord.j0 (k + 1) y0 y1 y2 y3 y4 y5 y6 y7 y8 y9 y10 y11 y12 y13 y14 y15 y16 y17 y18)) ∧ (∀ y0 y1 y2 y3 y4 y5 y6 y7 y8 y9, LeO (laws_FnExactReadRecord.j1 k y0 y1 y2 y3 y4 y5 y6 y7 y8 y9) (laws_FnExactReadRecord.j1 (k + 1) y0 y1 y2 y3 y4 y5 y6 y7 y8 y9))
 | 0 => ⟨fun _ _ _ _ _ _ _ _ _ _ _ _ _ _ _ _ _ _ _ r h => by simp [laws_FnExactReadRecord.j0] at h, fun _ _ _ _ _ _ _ _ _ _ r h => by simp [laws_FnExactReadRecord.j1] at h⟩
 | k + 1 => by
  obtain ⟨ih0, ih1⟩ := laws_FnExactReadRecord.mono_l k
  refine ⟨?_, ?_⟩
  ·intro y0 y1 y2 y3 y4 y5 y6 y7 y8 y9 y10 y11 y12 y13 y14 y15 y16 y17 y18
   unfold laws_FnExactReadRecord.j0
   repeat' first
   | (with_reducible exact ih0 _ _ _ _ _ _ _ _ _ _ _ _ _ _ _ _ _ _ _)
   | (with_reducible exact ih1 _ _ _ _ _ _ _ _ _ _)
   | (with_reducible exact impl_ReadRecord.mono _ _)
   | (with_reducible exact laws_eqRecord.mono _ _ _ _ _ _ _ _ _ _ _ _ _ _ _ _ _)
   | (with_reducible exact laws_heldRecord.mono _ _ _ _ _ _ _ _ _ _)
   | (with_reducible exact laws_markRecord.mono _ _ _ _ _ _ _ _ _ _)
   | (with_reducible exact spec_ReadRecord.mono _ _)
   | (with_reducible exact LeO.refl _)
   | (with_reducible exact LeO.none _)
   | (with_reducible refine LeO.ite ?_ ?_)
   | (with_reducible refine LeO.bind ?_ (fun _ => ?_))
   | exact ih0 _ _ _ _ _ _ _ _ _ _ _ _ _ _ _ _ _ _ _
   | exact ih1 _ _ _ _ _ _ _ _ _ _
   | exact impl_ReadRecord.mono _ _
   | exact laws_eqRecord.mono _ _ _ _ _ _ _ _ _ _ _ _ _ _ _ _ _
   | exact laws_heldRecord.mono _ _ _ _ _ _ _ _ _ _
   | exact laws_markRecord.mono _ _ _ _ _ _ _ _ _ _
   | exact spec_ReadRecord.mono _ _
   | exact LeO.none _
   | refine LeO.ite ?_ ?_
   | refine LeO.bind ?_ (fun _ => ?_)
  ·intro y0 y1 y2 y3 y4 y5 y6 y7 y8 y9
   unfold laws_FnExactReadRecord.j1
   repeat' first
   | (with_reducible exact ih0 _ _ _ _ _ _ _ _ _ _ _ _ _ _ _ _ _ _ _)
   | (with_reducible exact ih1 _ _ _ _ _ _ _ _ _ _)
   | (with_reducible exact impl_ReadRecord.mono _ _)
   | (with_reducible exact laws_eqRecord.mono _ _ _ _ _ _ _ _ _ _ _ _ _ _ _ _ _)
   | (with_reducible exact laws_heldRecord.mono _ _ _ _ _ _ _ _ _ _)
   | (with_reducible exact laws_markRecord.mono _ _ _ _ _ _ _ _ _ _)
   | (with_reducible exact spec_ReadRecord.mono _ _)
   | (with_reducible exact LeO.refl _)
   | (with_reducible exact LeO.none _)
   | (with_reducible refine LeO.ite ?_ ?_)
   | (with_reducible refine LeO.bind ?_ (fun _ => ?_))
   | exact ih0 _ _ _ _ _ _ _ _ _ _ _ _ _ _ _ _ _ _ _
   | exact ih1 _ _ _ _ _ _ _ _ _ _
   | exact impl_ReadRecord.mono _ _
   | exact laws_eqRecord.mono _ _ _ _ _ _ _ _ _ _ _ _ _ _ _ _ _
   | exact laws_heldRecord.mono _ _ _ _ _ _ _ _ _ _
   | exact laws_markRecord.mono _ _ _ _ _ _ _ _ _ _
   | exact spec_ReadRecord.mono _ _
   | exact LeO.none _
   | refine LeO.ite ?_ ?_
   | refine LeO.bind ?_ (fun _ => ?_)
theorem laws_FnExactReadRecord.mono : ∀ a0 k, LeO (laws_FnExactReadRecord.f k a0) (laws_FnExactReadRecord.f (k + 1) a0) := by
 intro a0 k
 obtain ⟨ih0, ih1⟩ := laws_FnExactReadRecord.mono_l k
 unfold laws_FnExactReadRecord.f
 repeat' first
   | (with_reducible exact ih0 _ _ _ _ _ _ _ _ _ _ _ _ _ _ _ _ _ _ _)
   | (with_reducible exact ih1 _ _ _ _ _ _ _ _ _ _)
   | (with_reducible exact impl_ReadRecord.mono _ _)
   | (with_reducible exact laws_eqRecord.mono _ _ _ _ _ _ _ _ _ _ _ _ _ _ _ _ _)
   | (with_reducible exact laws_heldRecord.mono _ _ _ _ _ _ _ _ _ _)
   | (with_reducible exact laws_markRecord.mono _ _ _ _ _ _ _ _ _ _)
   | (with_reducible exact spec_ReadRecord.mono _ _)
   | (with_reducible exact LeO.refl _)
   | (with_reducible exact LeO.none _)
   | (with_reducible refine LeO.ite ?_ ?_)
   | (with_reducible refine LeO.bind ?_ (fun _ => ?_))
   | exact ih0 _ _ _ _ _ _ _ _ _ _ _ _ _ _ _ _ _ _ _
   | exact ih1 _ _ _ _ _ _ _ _ _ _
   | exact impl_ReadRecord.mono _ _
   | exact laws_eqRecord.mono _ _ _ _ _ _ _ _ _ _ _ _ _ _ _ _ _
   | exact laws_heldRecord.mono _ _ _ _ _ _ _ _ _ _
   | exact laws_markRecord.mono _ _ _ _ _ _ _ _ _ _
   | exact spec_ReadRecord.mono _ _
   | exact LeO.none _
   | refine LeO.ite ?_ ?_
   | refine LeO.bind ?_ (fun _ => ?_)
set_option maxHeartbeats 8000000 in
set_option maxRecDepth 100000 in
theorem laws_FnExactReadRecord.calls (k : Nat) (a0 : ByteArray) (r : Bool) (w : World) (hr_ : r = true) (h : laws_FnExactReadRecord.f k a0 = some r) :
  Calls Try.prog 3 #[.string a0] w fun e w' => e = .returned (.bool r) ∧ Below w.heap.size w w' := by
 have hu24 := Try.underlying24
 have HB := Aside0.mk (Below.refl w.heap.size w)
 have H : (if (a0.size : Int) > 1048576 then (some true) else ((spec_ReadRecord.f k a0).bind fun bt280 => ((impl_ReadRecord.f k a0).bind fun bt292 => ((laws_eqRecord.f k bt292.1 bt292.2.1 bt292.2.2.1 bt292.2.2.2.1 bt292.2.2.2.2.1 bt292.2.2.2.2.2.1 bt292.2.2.2.2.2.2.1 bt292.2.2.2.2.2.2.2.1 bt280.1 bt280.2.1 bt280.2.2.1 bt280.2.2.2.1 bt280.2.2.2.2.1 bt280.2.2.2.2.2.1 bt280.2.2.2.2.2.2.1 bt280.2.2.2.2.2.2.2.1).bind fun t304 => (if t304 = true then (laws_FnExactReadRecord.j0 k a0 bt280.2.2.2.2.2.2.2.2 (bt292.2.2.2.2.2.2.2.2 != bt280.2.2.2.2.2.2.2.2) bt280.1 bt280.2.1 bt280.2.2.1 bt280.2.2.2.1 bt280.2.2.2.2.1 bt280.2.2.2.2.2.1 bt280.2.2.2.2.2.2.1 bt280.2.2.2.2.2.2.2.1 bt292.1 bt292.2.1 bt292.2.2.1 bt292.2.2.2.1 bt292.2.2.2.2.1 bt292.2.2.2.2.2.1 bt292.2.2.2.2.2.2.1 bt292.2.2.2.2.2.2.2.1) else (laws_FnExactReadRecord.j0 k a0 bt280.2.2.2.2.2.2.2.2 true bt280.1 bt280.2.1 bt280.2.2.1 bt280.2.2.2.1 bt280.2.2.2.2.1 bt280.2.2.2.2.2.1 bt280.2.2.2.2.2.2.1 bt280.2.2.2.2.2.2.2.1 bt292.1 bt292.2.1 bt292.2.2.1 bt292.2.2.2.1 bt292.2.2.2.2.1 bt292.2.2.2.2.2.1 bt292.2.2.2.2.2.2.1 bt292.2.2.2.2.2.2.2.1)))))) = some r := h
 clear h
 by_cases c2 : (a0.size : Int) > 1048576
 ·rw [if_pos c2] at H
  have c2b0 : decide (1048576 < (a0.size : Int)) = true := decide_eq_true c2
  have c2b1 : decide (1048576 < a0.size) = true := decide_eq_true (by omega)
  clear c2
  obtain rfl := Option.some.inj H
  go_enter Try.func3, Try.ntmps3
  go_wp2
  go_ret
  exact ⟨er_q, bw_q HB⟩
 ·rw [if_neg c2] at H
  have c2b0 : decide (1048576 < (a0.size : Int)) = false := decide_eq_false c2
  have c2b1 : decide (1048576 < a0.size) = false := decide_eq_false (by omega)
  clear c2
  replace H := Option.bind_eq_some_iff.mp H
  obtain ⟨⟨t280, t281, t282, t283, t284, t285, t288, t289, t290⟩, A30, H⟩ := H
  replace H : ((impl_ReadRecord.f k a0).bind fun bt292 => ((laws_eqRecord.f k bt292.1 bt292.2.1 bt292.2.2.1 bt292.2.2.2.1 bt292.2.2.2.2.1 bt292.2.2.2.2.2.1 bt292.2.2.2.2.2.2.1 bt292.2.2.2.2.2.2.2.1 t280 t281 t282 t283 t284 t285 t288 t289).bind fun t304 => (if t304 = true then (laws_FnExactReadRecord.j0 k a0 t290 (bt292.2.2.2.2.2.2.2.2 != t290) t280 t281 t282 t283 t284 t285 t288 t289 bt292.1 bt292.2.1 bt292.2.2.1 bt292.2.2.2.1 bt292.2.2.2.2.1 bt292.2.2.2.2.2.1 bt292.2.2.2.2.2.2.1 bt292.2.2.2.2.2.2.2.1) else (laws_FnExactReadRecord.j0 k a0 t290 true t280 t281 t282 t283 t284 t285 t288 t289 bt292.1 bt292.2.1 bt292.2.2.1 bt292.2.2.2.1 bt292.2.2.2.2.1 bt292.2.2.2.2.2.1 bt292.2.2.2.2.2.2.1 bt292.2.2.2.2.2.2.2.1)))) = some r := H
  have A3 := Aside0.mk A30
  clear A30
  replace H := Option.bind_eq_some_iff.mp H
  obtain ⟨⟨t292, t293, t294, t295, t296, t297, t300, t301, t302⟩, A40, H⟩ := H
  replace H : ((laws_eqRecord.f k t292 t293 t294 t295 t296 t297 t300 t301 t280 t281 t282 t283 t284 t285 t288 t289).bind fun t304 => (if t304 = true then (laws_FnExactReadRecord.j0 k a0 t290 (t302 != t290) t280 t281 t282 t283 t284 t285 t288 t289 t292 t293 t294 t295 t296 t297 t300 t301) else (laws_FnExactReadRecord.j0 k a0 t290 true t280 t281 t282 t283 t284 t285 t288 t289 t292 t293 t294 t295 t296 t297 t300 t301))) = some r := H
  have A4 := Aside0.mk A40
  clear A40
  have HC5 := Aside0.mk H
  clear H
  go_enter Try.func3, Try.ntmps3
  go_upto_region 5 with (first | ((with_reducible refine gate_callee (f := 9) rfl ?_); refine goesL_ (some 16) rfl rfl Try.func9 (by kernel_rfl) rfl #[.string a0] rfl mp_q ?_; (with_reducible refine (spec_ReadRecord.calls k a0 t280 t281 t282 t283 t284 t285 t288 t289 t290 _ A3.out).mono ?_); rintro e w6 ⟨v286, rfl, ho0, hb⟩; refine ⟨_, rfl, ?_⟩; have hs_v286 : (v286 : Value).oneCell' = true := (by first | (have h_ := Kd.R_slice ho0; obtain ⟨A_, c_, e_⟩ := h_; simp [e_, Value.oneCell']) | (have h_ := Kd.S_slice ho0; obtain ⟨A_, c_, e_⟩ := h_; simp [e_, Value.oneCell']) | (have h_ := Kd.N_slice ho0; obtain ⟨A_, c_, e_⟩ := h_; simp [e_, Value.oneCell']) | (have h_ := Kd.V_slice ho0; obtain ⟨A_, c_, e_⟩ := h_; simp [e_, Value.oneCell'])); have hst_v286 := fun (w_ : World) (a_ : Addr) m_ => run_store Try.prog w_ a_ v286 m_ hs_v286; have HO287 := Aside0.mk (Kd.R_lower ho0 (below_size (bw_q HB))); replace HB := Aside0.mk (below_step (bw_q HB) hb); (try clear hb); (try clear hb2); (try clear hk); (try clear hi); (try clear ho0)) | ((with_reducible refine gate_dst (N := 3) rfl ?_); refine box_q 3 #[.int .i64 0, .int .i64 0, .int .i64 0, .int .i64 0, .int .i64 0, .slice none 0 0, .int .i64 0, .bool false] 24 ?_; intro gb291 hg w7 hbox hb; replace HO287 := Aside0.mk (Kd.R_below (kR_q HO287) hb); have BK291 := Aside0.mk (hbox); have GW291 := Aside0.mk ((by rw [hg]; exact (below_size (bw_q HB)) : w.heap.size ≤ gb291)); have GE291 := Aside0.mk ((by rw [hg]; exact (below_size (bw_q HB)) : w.heap.size ≤ gb291)); replace HB := Aside0.mk (below_step (bw_q HB) hb); clear hb hbox hg; have hcz8_0 : w7.cell? ⟨gb291, 0, none⟩ = some (.int .i64 0) := (blk_cell BK291.out 0).trans rfl; have hcz8_1 : w7.cell? ⟨gb291, 1, none⟩ = some (.int .i64 0) := (blk_cell BK291.out 1).trans rfl; have hcz8_2 : w7.cell? ⟨gb291, 2, none⟩ = some (.int .i64 0) := (blk_cell BK291.out 2).trans rfl; have hcz8_3 : w7.cell? ⟨gb291, 3, none⟩ = some (.int .i64 0) := (blk_cell BK291.out 3).trans rfl; have hcz8_4 : w7.cell? ⟨gb291, 4, none⟩ = some (.int .i64 0) := (blk_cell BK291.out 4).trans rfl; have hcz8_5 : w7.cell? ⟨gb291, 5, none⟩ = some (.slice none 0 0) := (blk_cell BK291.out 5).trans rfl; have hcz8_6 : w7.cell? ⟨gb291, 6, none⟩ = some (.int .i64 0) := (blk_cell BK291.out 6).trans rfl; have hcz8_7 : w7.cell? ⟨gb291, 7, none⟩ = some (.bool false) := (blk_cell BK291.out 7).trans rfl; have hfz8_0 := blk_frozen BK291.out 0; have hfz8_1 := blk_frozen BK291.out 1; have hfz8_2 := blk_frozen BK291.out 2; have hfz8_3 := blk_frozen BK291.out 3; have hfz8_4 := blk_frozen BK291.out 4; have hfz8_5 := blk_frozen BK291.out 5; have hfz8_6 := blk_frozen BK291.out 6; have hfz8_7 := blk_frozen BK291.out 7; obtain ⟨Ao9, co9, eo9⟩ := Kd.R_slice HO287.out; subst eo9) | ((with_reducible refine gate_callee (f := 10) rfl ?_); refine goesL_ (some 21) rfl rfl Try.func10 (by kernel_rfl) rfl #[.string a0] rfl mp_q ?_; (with_reducible refine (impl_ReadRecord.calls k a0 t292 t293 t294 t295 t296 t297 t300 t301 t302 _ A4.out).mono ?_); rintro e w10 ⟨v298, rfl, ho0, hb⟩; refine ⟨_, rfl, ?_⟩; have hs_v298 : (v298 : Value).oneCell' = true := (by first | (have h_ := Kd.R_slice ho0; obtain ⟨A_, c_, e_⟩ := h_; simp [e_, Value.oneCell']) | (have h_ := Kd.S_slice ho0; obtain ⟨A_, c_, e_⟩ := h_; simp [e_, Value.oneCell']) | (have h_ := Kd.N_slice ho0; obtain ⟨A_, c_, e_⟩ := h_; simp [e_, Value.oneCell']) | (have h_ := Kd.V_slice ho0; obtain ⟨A_, c_, e_⟩ := h_; simp [e_, Value.oneCell'])); have hst_v298 := fun (w_ : World) (a_ : Addr) m_ => run_store Try.prog w_ a_ v298 m_ hs_v298; have HO299 := Aside0.mk (Kd.R_lower (Kd.R_new' ho0 (Kd.R_lt (by (with_reducible repeat (first | apply Kd.R_alloc | apply Kd.R_drewN | apply Kd.R_drew)); exact (Kd.R_mono (Kd.R_far (p := ⟨gb291, 7, none⟩) (Kd.R_far (p := ⟨gb291, 6, none⟩) (Kd.R_far (p := ⟨gb291, 5, none⟩) (Kd.R_far (p := ⟨gb291, 4, none⟩) (Kd.R_far (p := ⟨gb291, 3, none⟩) (Kd.R_far (p := ⟨gb291, 2, none⟩) (Kd.R_far (p := ⟨gb291, 1, none⟩) (Kd.R_far (p := ⟨gb291, 0, none⟩) (Kd.R_types HO287.out BK291.out (by decide)) (fun _ hk => hk.2) (.int .i64 t280)) (fun _ hk => hk.2) (.int .i64 t281)) (fun _ hk => hk.2) (.int .i64 t282)) (fun _ hk => hk.2) (.int .i64 t283)) (fun _ hk => hk.2) (.int .i64 t284)) (fun _ hk => hk.2) (.slice Ao9 t285.length co9)) (fun _ hk => hk.2) (.int .i64 t288)) (fun _ hk => hk.2) (.bool t289)) (fun _ h_ => h_.1))))) (below_size (bw_q HB))); replace HO287 := Aside0.mk (Kd.R_elder' (by (with_reducible repeat (first | apply Kd.R_alloc | apply Kd.R_drewN | apply Kd.R_drew)); exact (Kd.R_mono (Kd.R_far (p := ⟨gb291, 7, none⟩) (Kd.R_far (p := ⟨gb291, 6, none⟩) (Kd.R_far (p := ⟨gb291, 5, none⟩) (Kd.R_far (p := ⟨gb291, 4, none⟩) (Kd.R_far (p := ⟨gb291, 3, none⟩) (Kd.R_far (p := ⟨gb291, 2, none⟩) (Kd.R_far (p := ⟨gb291, 1, none⟩) (Kd.R_far (p := ⟨gb291, 0, none⟩) (Kd.R_types HO287.out BK291.out (by decide)) (fun _ hk => hk.2) (.int .i64 t280)) (fun _ hk => hk.2) (.int .i64 t281)) (fun _ hk => hk.2) (.int .i64 t282)) (fun _ hk => hk.2) (.int .i64 t283)) (fun _ hk => hk.2) (.int .i64 t284)) (fun _ hk => hk.2) (.slice Ao9 t285.length co9)) (fun _ hk => hk.2) (.int .i64 t288)) (fun _ hk => hk.2) (.bool t289)) (fun _ h_ => h_.1))) (Kd.R_base ho0) hb); replace BK291 := Aside0.mk (blk_below (g := gb291) (o := .cells #[.int .i64 t280, .int .i64 t281, .int .i64 t282, .int .i64 t283, .int .i64 t284, .slice Ao9 t285.length co9, .int .i64 t288, .bool t289] 24 (0, 0)) (by refine bz_ ?_; refine blk_put (cs := #[.int .i64 t280, .int .i64 t281, .int .i64 t282, .int .i64 t283, .int .i64 t284, .slice Ao9 t285.length co9, .int .i64 t288, .bool false]) ?_ 7 _ rfl; refine bz_ ?_; refine blk_put (cs := #[.int .i64 t280, .int .i64 t281, .int .i64 t282, .int .i64 t283, .int .i64 t284, .slice Ao9 t285.length co9, .int .i64 0, .bool false]) ?_ 6 _ rfl; refine bz_ ?_; refine blk_put (cs := #[.int .i64 t280, .int .i64 t281, .int .i64 t282, .int .i64 t283, .int .i64 t284, .slice none 0 0, .int .i64 0, .bool false]) ?_ 5 _ rfl; refine bz_ ?_; refine blk_put (cs := #[.int .i64 t280, .int .i64 t281, .int .i64 t282, .int .i64 t283, .int .i64 0, .slice none 0 0, .int .i64 0, .bool false]) ?_ 4 _ rfl; refine bz_ ?_; refine blk_put (cs := #[.int .i64 t280, .int .i64 t281, .int .i64 t282, .int .i64 0, .int .i64 0, .slice none 0 0, .int .i64 0, .bool false]) ?_ 3 _ rfl; refine bz_ ?_; refine blk_put (cs := #[.int .i64 t280, .int .i64 t281, .int .i64 0, .int .i64 0, .int .i64 0, .slice none 0 0, .int .i64 0, .bool false]) ?_ 2 _ rfl; refine bz_ ?_; refine blk_put (cs := #[.int .i64 t280, .int .i64 0, .int .i64 0, .int .i64 0, .int .i64 0, .slice none 0 0, .int .i64 0, .bool false]) ?_ 1 _ rfl; refine bz_ ?_; refine blk_put (cs := #[.int .i64 0, .int .i64 0, .int .i64 0, .int .i64 0, .int .i64 0, .slice none 0 0, .int .i64 0, .bool false]) ?_ 0 _ rfl; refine bz_ ?_; exact BK291.out) hb); replace HB := Aside0.mk (below_step (bw_q HB) hb); (try clear hb); (try clear hb2); (try clear hk); (try clear hi); (try clear ho0)) | ((with_reducible refine gate_dst (N := 5) rfl ?_); refine box_q 5 #[.int .i64 0, .int .i64 0, .int .i64 0, .int .i64 0, .int .i64 0, .slice none 0 0, .int .i64 0, .bool false] 24 ?_; intro gb303 hg w11 hbox hb; replace HO287 := Aside0.mk (Kd.R_below (kR_q HO287) hb); replace HO299 := Aside0.mk (Kd.R_below (kR_q HO299) hb); have BK303 := Aside0.mk (hbox); have GW303 := Aside0.mk ((by rw [hg]; exact (below_size (bw_q HB)) : w.heap.size ≤ gb303)); have GE303 := Aside0.mk ((by rw [hg]; exact (below_size (bw_q HB)) : w.heap.size ≤ gb303)); replace HB := Aside0.mk (below_step (bw_q HB) hb); have NB291_303 := Aside0.mk ((by rw [hg]; exact Nat.ne_of_lt (blk_lt (g := gb291) (o := .cells #[.int .i64 t280, .int .i64 t281, .int .i64 t282, .int .i64 t283, .int .i64 t284, .slice Ao9 t285.length co9, .int .i64 t288, .bool t289] 24 (0, 0)) (bk_q BK291)) : gb291 ≠ gb303)); have NB303_291 := Aside0.mk ((by rw [hg]; exact Nat.ne_of_gt (blk_lt (g := gb291) (o := .cells #[.int .i64 t280, .int .i64 t281, .int .i64 t282, .int .i64 t283, .int .i64 t284, .slice Ao9 t285.length co9, .int .i64 t288, .bool t289] 24 (0, 0)) (bk_q BK291)) : gb303 ≠ gb291)); replace BK291 := Aside0.mk (blk_below (g := gb291) (bk_q BK291) hb); clear hb hbox hg; have hnb12 := NB303_291.out; have hnc12 := NB291_303.out; have hcz13_0 : w11.cell? ⟨gb303, 0, none⟩ = some (.int .i64 0) := (blk_cell BK303.out 0).trans rfl; have hcz13_1 : w11.cell? ⟨gb303, 1, none⟩ = some (.int .i64 0) := (blk_cell BK303.out 1).trans rfl; have hcz13_2 : w11.cell? ⟨gb303, 2, none⟩ = some (.int .i64 0) := (blk_cell BK303.out 2).trans rfl; have hcz13_3 : w11.cell? ⟨gb303, 3, none⟩ = some (.int .i64 0) := (blk_cell BK303.out 3).trans rfl; have hcz13_4 : w11.cell? ⟨gb303, 4, none⟩ = some (.int .i64 0) := (blk_cell BK303.out 4).trans rfl; have hcz13_5 : w11.cell? ⟨gb303, 5, none⟩ = some (.slice none 0 0) := (blk_cell BK303.out 5).trans rfl; have hcz13_6 : w11.cell? ⟨gb303, 6, none⟩ = some (.int .i64 0) := (blk_cell BK303.out 6).trans rfl; have hcz13_7 : w11.cell? ⟨gb303, 7, none⟩ = some (.bool false) := (blk_cell BK303.out 7).trans rfl; have hfz13_0 := blk_frozen BK303.out 0; have hfz13_1 := blk_frozen BK303.out 1; have hfz13_2 := blk_frozen BK303.out 2; have hfz13_3 := blk_frozen BK303.out 3; have hfz13_4 := blk_frozen BK303.out 4; have hfz13_5 := blk_frozen BK303.out 5; have hfz13_6 := blk_frozen BK303.out 6; have hfz13_7 := blk_frozen BK303.out 7; obtain ⟨Ao14, co14, eo14⟩ := Kd.R_slice HO299.out; subst eo14))
  (try simp only [Act.put, List.setIfInBounds_toArray, List.set_cons_zero, List.set_cons_succ])
  go_cut [32] (fun v32 wc => ∃ (kq : Nat) (x32_4 : Bool), v32 = .bool x32_4 ∧ Aside0 (laws_FnExactReadRecord.j0 kq a0 t290 x32_4 t280 t281 t282 t283 t284 t285 t288 t289 t292 t293 t294 t295 t296 t297 t300 t301 = some r) ∧ Aside0 (kq ≤ k) ∧ Aside0 (Kd.R k63 63 wc w.heap.size (fun k_ => some k_ ≠ ((.slice Ao14 t297.length co14) : Value).ownBlock) (.slice Ao9 t285.length co9) t285) ∧ Aside0 (Kd.R k63 63 wc w.heap.size (fun k_ => some k_ ≠ ((.slice Ao9 t285.length co9) : Value).ownBlock) (.slice Ao14 t297.length co14) t297) ∧ Aside0 (wc.heap[gb291]? = some (.cells #[.int .i64 t280, .int .i64 t281, .int .i64 t282, .int .i64 t283, .int .i64 t284, (.slice Ao9 t285.length co9), .int .i64 t288, .bool t289] 24 (0, 0))) ∧ Aside0 (wc.heap[gb303]? = some (.cells #[.int .i64 t292, .int .i64 t293, .int .i64 t294, .int .i64 t295, .int .i64 t296, (.slice Ao14 t297.length co14), .int .i64 t300, .bool t301] 24 (0, 0))) ∧ Aside0 (Below w.heap.size w wc))
  case first =>
   have H := HC5.out
   clear HC5
   replace H := Option.bind_eq_some_iff.mp H
   obtain ⟨t304, A150, H⟩ := H
   replace H : (if t304 = true then (laws_FnExactReadRecord.j0 k a0 t290 (t302 != t290) t280 t281 t282 t283 t284 t285 t288 t289 t292 t293 t294 t295 t296 t297 t300 t301) else (laws_FnExactReadRecord.j0 k a0 t290 true t280 t281 t282 t283 t284 t285 t288 t289 t292 t293 t294 t295 t296 t297 t300 t301)) = some r := H
   have A15 := Aside0.mk A150
   clear A150
   by_cases c16 : t304 = true
   ·subst c16
    have H1 : (laws_FnExactReadRecord.j0 k a0 t290 (t302 != t290) t280 t281 t282 t283 t284 t285 t288 t289 t292 t293 t294 t295 t296 t297 t300 t301) = some r := by rw [if_pos rfl] at H; exact H
    clear H
    have H := H1
    clear H1
    have H' := Aside0.mk H
    clear H
    have hnb17 := NB303_291.out
    have hnc17 := NB291_303.out
    obtain ⟨hcz18_0, hcz18_1, hcz18_2, hcz18_3, hcz18_4, hcz18_5, hcz18_6, hcz18_7⟩ := cz8_ BK303
    obtain ⟨hfz18_0, hfz18_1, hfz18_2, hfz18_3, hfz18_4, hfz18_5, hfz18_6, hfz18_7⟩ := fz8_ BK303
    obtain ⟨hcz19_0, hcz19_1, hcz19_2, hcz19_3, hcz19_4, hcz19_5, hcz19_6, hcz19_7⟩ := cz8_ BK291
    obtain ⟨hfz19_0, hfz19_1, hfz19_2, hfz19_3, hfz19_4, hfz19_5, hfz19_6, hfz19_7⟩ := fz8_ BK291
    go_wp2_with (first | ((with_reducible refine gate_callee (f := 11) rfl ?_); refine goesL_ (some 26) rfl rfl Try.func11 (by kernel_rfl) rfl #[.agg #[.int .i64 t292, .int .i64 t293, .int .i64 t294, .int .i64 t295, .int .i64 t296, .slice Ao14 t297.length co14, .int .i64 t300, .bool t301], .agg #[.int .i64 t280, .int .i64 t281, .int .i64 t282, .int .i64 t283, .int .i64 t284, .slice Ao9 t285.length co9, .int .i64 t288, .bool t289]] rfl mp_q ?_; (with_reducible refine (laws_eqRecord.calls k t292 t293 t294 t295 t296 _ _ t297 t300 t301 t280 t281 t282 t283 t284 _ _ t285 t288 t289 true _ ?side1 ?side2 ?side3 ?side4 A15.out).mono ?_); (case side1 => refine (Kd.R_reads' (e := 63) (base := w.heap.size) (ok := fun k_ => (True ∧ some k_ ≠ (.slice Ao9 t285.length co9 : Value).ownBlock)) (n := t297.length) (c := co14) ?_).2.2; exact (by (with_reducible repeat (first | apply Kd.R_alloc | apply Kd.R_drewN | apply Kd.R_drew)); exact (Kd.R_mono (Kd.R_far (p := ⟨gb303, 7, none⟩) (Kd.R_far (p := ⟨gb303, 6, none⟩) (Kd.R_far (p := ⟨gb303, 5, none⟩) (Kd.R_far (p := ⟨gb303, 4, none⟩) (Kd.R_far (p := ⟨gb303, 3, none⟩) (Kd.R_far (p := ⟨gb303, 2, none⟩) (Kd.R_far (p := ⟨gb303, 1, none⟩) (Kd.R_far (p := ⟨gb303, 0, none⟩) (Kd.R_types HO299.out BK303.out (by decide)) (fun _ hk => hk.2) (.int .i64 t292)) (fun _ hk => hk.2) (.int .i64 t293)) (fun _ hk => hk.2) (.int .i64 t294)) (fun _ hk => hk.2) (.int .i64 t295)) (fun _ hk => hk.2) (.int .i64 t296)) (fun _ hk => hk.2) (.slice Ao14 t297.length co14)) (fun _ hk => hk.2) (.int .i64 t300)) (fun _ hk => hk.2) (.bool t301)) (fun _ h_ => h_.1)))); (case side2 => exact (Kd.R_reads' HO299.out).2.1); (case side3 => refine (Kd.R_reads' (e := 63) (base := w.heap.size) (ok := fun k_ => (True ∧ some k_ ≠ (.slice Ao14 t297.length co14 : Value).ownBlock)) (n := t285.length) (c := co9) ?_).2.2; exact (by (with_reducible repeat (first | apply Kd.R_alloc | apply Kd.R_drewN | apply Kd.R_drew)); exact (Kd.R_mono (Kd.R_far (p := ⟨gb303, 7, none⟩) (Kd.R_far (p := ⟨gb303, 6, none⟩) (Kd.R_far (p := ⟨gb303, 5, none⟩) (Kd.R_far (p := ⟨gb303, 4, none⟩) (Kd.R_far (p := ⟨gb303, 3, none⟩) (Kd.R_far (p := ⟨gb303, 2, none⟩) (Kd.R_far (p := ⟨gb303, 1, none⟩) (Kd.R_far (p := ⟨gb303, 0, none⟩) (Kd.R_types HO287.out BK303.out (by decide)) (fun _ hk => hk.2) (.int .i64 t292)) (fun _ hk => hk.2) (.int .i64 t293)) (fun _ hk => hk.2) (.int .i64 t294)) (fun _ hk => hk.2) (.int .i64 t295)) (fun _ hk => hk.2) (.int .i64 t296)) (fun _ hk => hk.2) (.slice Ao14 t297.length co14)) (fun _ hk => hk.2) (.int .i64 t300)) (fun _ hk => hk.2) (.bool t301)) (fun _ h_ => h_.1)))); (case side4 => exact (Kd.R_reads' HO287.out).2.1); rintro e w20 ⟨rfl, hb⟩; refine ⟨_, rfl, ?_⟩; replace HO287 := Aside0.mk (Kd.R_below (by (with_reducible repeat (first | apply Kd.R_alloc | apply Kd.R_drewN | apply Kd.R_drew)); exact (Kd.R_mono (Kd.R_far (p := ⟨gb303, 7, none⟩) (Kd.R_far (p := ⟨gb303, 6, none⟩) (Kd.R_far (p := ⟨gb303, 5, none⟩) (Kd.R_far (p := ⟨gb303, 4, none⟩) (Kd.R_far (p := ⟨gb303, 3, none⟩) (Kd.R_far (p := ⟨gb303, 2, none⟩) (Kd.R_far (p := ⟨gb303, 1, none⟩) (Kd.R_far (p := ⟨gb303, 0, none⟩) (Kd.R_types HO287.out BK303.out (by decide)) (fun _ hk => hk.2) (.int .i64 t292)) (fun _ hk => hk.2) (.int .i64 t293)) (fun _ hk => hk.2) (.int .i64 t294)) (fun _ hk => hk.2) (.int .i64 t295)) (fun _ hk => hk.2) (.int .i64 t296)) (fun _ hk => hk.2) (.slice Ao14 t297.length co14)) (fun _ hk => hk.2) (.int .i64 t300)) (fun _ hk => hk.2) (.bool t301)) (fun _ h_ => h_.1))) hb); replace HO299 := Aside0.mk (Kd.R_below (by (with_reducible repeat (first | apply Kd.R_alloc | apply Kd.R_drewN | apply Kd.R_drew)); exact (Kd.R_mono (Kd.R_far (p := ⟨gb303, 7, none⟩) (Kd.R_far (p := ⟨gb303, 6, none⟩) (Kd.R_far (p := ⟨gb303, 5, none⟩) (Kd.R_far (p := ⟨gb303, 4, none⟩) (Kd.R_far (p := ⟨gb303, 3, none⟩) (Kd.R_far (p := ⟨gb303, 2, none⟩) (Kd.R_far (p := ⟨gb303, 1, none⟩) (Kd.R_far (p := ⟨gb303, 0, none⟩) (Kd.R_types HO299.out BK303.out (by decide)) (fun _ hk => hk.2) (.int .i64 t292)) (fun _ hk => hk.2) (.int .i64 t293)) (fun _ hk => hk.2) (.int .i64 t294)) (fun _ hk => hk.2) (.int .i64 t295)) (fun _ hk => hk.2) (.int .i64 t296)) (fun _ hk => hk.2) (.slice Ao14 t297.length co14)) (fun _ hk => hk.2) (.int .i64 t300)) (fun _ hk => hk.2) (.bool t301)) (fun _ h_ => h_.1))) hb); replace BK291 := Aside0.mk (blk_below (g := gb291) (o := .cells #[.int .i64 t280, .int .i64 t281, .int .i64 t282, .int .i64 t283, .int .i64 t284, .slice Ao9 t285.length co9, .int .i64 t288, .bool t289] 24 (0, 0)) (by refine bz_ ?_; refine blk_far ?_ NB291_303.out _; refine bz_ ?_; refine blk_far ?_ NB291_303.out _; refine bz_ ?_; refine blk_far ?_ NB291_303.out _; refine bz_ ?_; refine blk_far ?_ NB291_303.out _; refine bz_ ?_; refine blk_far ?_ NB291_303.out _; refine bz_ ?_; refine blk_far ?_ NB291_303.out _; refine bz_ ?_; refine blk_far ?_ NB291_303.out _; refine bz_ ?_; refine blk_far ?_ NB291_303.out _; refine bz_ ?_; exact BK291.out) hb); replace BK303 := Aside0.mk (blk_below (g := gb303) (o := .cells #[.int .i64 t292, .int .i64 t293, .int .i64 t294, .int .i64 t295, .int .i64 t296, .slice Ao14 t297.length co14, .int .i64 t300, .bool t301] 24 (0, 0)) (by refine bz_ ?_; refine blk_put (cs := #[.int .i64 t292, .int .i64 t293, .int .i64 t294, .int .i64 t295, .int .i64 t296, .slice Ao14 t297.length co14, .int .i64 t300, .bool false]) ?_ 7 _ rfl; refine bz_ ?_; refine blk_put (cs := #[.int .i64 t292, .int .i64 t293, .int .i64 t294, .int .i64 t295, .int .i64 t296, .slice Ao14 t297.length co14, .int .i64 0, .bool false]) ?_ 6 _ rfl; refine bz_ ?_; refine blk_put (cs := #[.int .i64 t292, .int .i64 t293, .int .i64 t294, .int .i64 t295, .int .i64 t296, .slice none 0 0, .int .i64 0, .bool false]) ?_ 5 _ rfl; refine bz_ ?_; refine blk_put (cs := #[.int .i64 t292, .int .i64 t293, .int .i64 t294, .int .i64 t295, .int .i64 0, .slice none 0 0, .int .i64 0, .bool false]) ?_ 4 _ rfl; refine bz_ ?_; refine blk_put (cs := #[.int .i64 t292, .int .i64 t293, .int .i64 t294, .int .i64 0, .int .i64 0, .slice none 0 0, .int .i64 0, .bool false]) ?_ 3 _ rfl; refine bz_ ?_; refine blk_put (cs := #[.int .i64 t292, .int .i64 t293, .int .i64 0, .int .i64 0, .int .i64 0, .slice none 0 0, .int .i64 0, .bool false]) ?_ 2 _ rfl; refine bz_ ?_; refine blk_put (cs := #[.int .i64 t292, .int .i64 0, .int .i64 0, .int .i64 0, .int .i64 0, .slice none 0 0, .int .i64 0, .bool false]) ?_ 1 _ rfl; refine bz_ ?_; refine blk_put (cs := #[.int .i64 0, .int .i64 0, .int .i64 0, .int .i64 0, .int .i64 0, .slice none 0 0, .int .i64 0, .bool false]) ?_ 0 _ rfl; refine bz_ ?_; exact BK303.out) hb); replace HB := Aside0.mk (below_step (bw_q HB) hb); (try clear hb); (try clear hb2); (try clear hk); (try clear hi)))
    go_meet
    case rel => exact ⟨_, ((t302 != t290)), (by first | rfl | (simp; done) | (simp [*]; done)), H', ⟨by first | omega | exact Nat.le_refl _⟩, ⟨by (with_reducible repeat (first | apply Kd.R_alloc | apply Kd.R_drewN | apply Kd.R_drew)); exact Kd.R_mono HO287.out (fun _ hk => hk.2)⟩, ⟨by (with_reducible repeat (first | apply Kd.R_alloc | apply Kd.R_drewN | apply Kd.R_drew)); exact Kd.R_mono HO299.out (fun _ hk => hk.2)⟩, ⟨by refine bz_ ?_; exact BK291.out⟩, ⟨by refine bz_ ?_; exact BK303.out⟩, ⟨bw_q HB⟩⟩
   ·replace c16 := Bool.eq_false_iff.mpr c16
    subst c16
    have H1 : (laws_FnExactReadRecord.j0 k a0 t290 true t280 t281 t282 t283 t284 t285 t288 t289 t292 t293 t294 t295 t296 t297 t300 t301) = some r := by rw [if_neg (show ¬ (false = true) by decide)] at H; exact H
    clear H
    have H := H1
    clear H1
    have H' := Aside0.mk H
    clear H
    have hnb21 := NB303_291.out
    have hnc21 := NB291_303.out
    obtain ⟨hcz22_0, hcz22_1, hcz22_2, hcz22_3, hcz22_4, hcz22_5, hcz22_6, hcz22_7⟩ := cz8_ BK303
    obtain ⟨hfz22_0, hfz22_1, hfz22_2, hfz22_3, hfz22_4, hfz22_5, hfz22_6, hfz22_7⟩ := fz8_ BK303
    obtain ⟨hcz23_0, hcz23_1, hcz23_2, hcz23_3, hcz23_4, hcz23_5, hcz23_6, hcz23_7⟩ := cz8_ BK291
    obtain ⟨hfz23_0, hfz23_1, hfz23_2, hfz23_3, hfz23_4, hfz23_5, hfz23_6, hfz23_7⟩ := fz8_ BK291
    go_wp2_with (first | ((with_reducible refine gate_callee (f := 11) rfl ?_); refine goesL_ (some 26) rfl rfl Try.func11 (by kernel_rfl) rfl #[.agg #[.int .i64 t292, .int .i64 t293, .int .i64 t294, .int .i64 t295, .int .i64 t296, .slice Ao14 t297.length co14, .int .i64 t300, .bool t301], .agg #[.int .i64 t280, .int .i64 t281, .int .i64 t282, .int .i64 t283, .int .i64 t284, .slice Ao9 t285.length co9, .int .i64 t288, .bool t289]] rfl mp_q ?_; (with_reducible refine (laws_eqRecord.calls k t292 t293 t294 t295 t296 _ _ t297 t300 t301 t280 t281 t282 t283 t284 _ _ t285 t288 t289 false _ ?side1 ?side2 ?side3 ?side4 A15.out).mono ?_); (case side1 => refine (Kd.R_reads' (e := 63) (base := w.heap.size) (ok := fun k_ => (True ∧ some k_ ≠ (.slice Ao9 t285.length co9 : Value).ownBlock)) (n := t297.length) (c := co14) ?_).2.2; exact (by (with_reducible repeat (first | apply Kd.R_alloc | apply Kd.R_drewN | apply Kd.R_drew)); exact (Kd.R_mono (Kd.R_far (p := ⟨gb303, 7, none⟩) (Kd.R_far (p := ⟨gb303, 6, none⟩) (Kd.R_far (p := ⟨gb303, 5, none⟩) (Kd.R_far (p := ⟨gb303, 4, none⟩) (Kd.R_far (p := ⟨gb303, 3, none⟩) (Kd.R_far (p := ⟨gb303, 2, none⟩) (Kd.R_far (p := ⟨gb303, 1, none⟩) (Kd.R_far (p := ⟨gb303, 0, none⟩) (Kd.R_types HO299.out BK303.out (by decide)) (fun _ hk => hk.2) (.int .i64 t292)) (fun _ hk => hk.2) (.int .i64 t293)) (fun _ hk => hk.2) (.int .i64 t294)) (fun _ hk => hk.2) (.int .i64 t295)) (fun _ hk => hk.2) (.int .i64 t296)) (fun _ hk => hk.2) (.slice Ao14 t297.length co14)) (fun _ hk => hk.2) (.int .i64 t300)) (fun _ hk => hk.2) (.bool t301)) (fun _ h_ => h_.1)))); (case side2 => exact (Kd.R_reads' HO299.out).2.1); (case side3 => refine (Kd.R_reads' (e := 63) (base := w.heap.size) (ok := fun k_ => (True ∧ some k_ ≠ (.slice Ao14 t297.length co14 : Value).ownBlock)) (n := t285.length) (c := co9) ?_).2.2; exact (by (with_reducible repeat (first | apply Kd.R_alloc | apply Kd.R_drewN | apply Kd.R_drew)); exact (Kd.R_mono (Kd.R_far (p := ⟨gb303, 7, none⟩) (Kd.R_far (p := ⟨gb303, 6, none⟩) (Kd.R_far (p := ⟨gb303, 5, none⟩) (Kd.R_far (p := ⟨gb303, 4, none⟩) (Kd.R_far (p := ⟨gb303, 3, none⟩) (Kd.R_far (p := ⟨gb303, 2, none⟩) (Kd.R_far (p := ⟨gb303, 1, none⟩) (Kd.R_far (p := ⟨gb303, 0, none⟩) (Kd.R_types HO287.out BK303.out (by decide)) (fun _ hk => hk.2) (.int .i64 t292)) (fun _ hk => hk.2) (.int .i64 t293)) (fun _ hk => hk.2) (.int .i64 t294)) (fun _ hk => hk.2) (.int .i64 t295)) (fun _ hk => hk.2) (.int .i64 t296)) (fun _ hk => hk.2) (.slice Ao14 t297.length co14)) (fun _ hk => hk.2) (.int .i64 t300)) (fun _ hk => hk.2) (.bool t301)) (fun _ h_ => h_.1)))); (case side4 => exact (Kd.R_reads' HO287.out).2.1); rintro e w24 ⟨rfl, hb⟩; refine ⟨_, rfl, ?_⟩; replace HO287 := Aside0.mk (Kd.R_below (by (with_reducible repeat (first | apply Kd.R_alloc | apply Kd.R_drewN | apply Kd.R_drew)); exact (Kd.R_mono (Kd.R_far (p := ⟨gb303, 7, none⟩) (Kd.R_far (p := ⟨gb303, 6, none⟩) (Kd.R_far (p := ⟨gb303, 5, none⟩) (Kd.R_far (p := ⟨gb303, 4, none⟩) (Kd.R_far (p := ⟨gb303, 3, none⟩) (Kd.R_far (p := ⟨gb303, 2, none⟩) (Kd.R_far (p := ⟨gb303, 1, none⟩) (Kd.R_far (p := ⟨gb303, 0, none⟩) (Kd.R_types HO287.out BK303.out (by decide)) (fun _ hk => hk.2) (.int .i64 t292)) (fun _ hk => hk.2) (.int .i64 t293)) (fun _ hk => hk.2) (.int .i64 t294)) (fun _ hk => hk.2) (.int .i64 t295)) (fun _ hk => hk.2) (.int .i64 t296)) (fun _ hk => hk.2) (.slice Ao14 t297.length co14)) (fun _ hk => hk.2) (.int .i64 t300)) (fun _ hk => hk.2) (.bool t301)) (fun _ h_ => h_.1))) hb); replace HO299 := Aside0.mk (Kd.R_below (by (with_reducible repeat (first | apply Kd.R_alloc | apply Kd.R_drewN | apply Kd.R_drew)); exact (Kd.R_mono (Kd.R_far (p := ⟨gb303, 7, none⟩) (Kd.R_far (p := ⟨gb303, 6, none⟩) (Kd.R_far (p := ⟨gb303, 5, none⟩) (Kd.R_far (p := ⟨gb303, 4, none⟩) (Kd.R_far (p := ⟨gb303, 3, none⟩) (Kd.R_far (p := ⟨gb303, 2, none⟩) (Kd.R_far (p := ⟨gb303, 1, none⟩) (Kd.R_far (p := ⟨gb303, 0, none⟩) (Kd.R_types HO299.out BK303.out (by decide)) (fun _ hk => hk.2) (.int .i64 t292)) (fun _ hk => hk.2) (.int .i64 t293)) (fun _ hk => hk.2) (.int .i64 t294)) (fun _ hk => hk.2) (.int .i64 t295)) (fun _ hk => hk.2) (.int .i64 t296)) (fun _ hk => hk.2) (.slice Ao14 t297.length co14)) (fun _ hk => hk.2) (.int .i64 t300)) (fun _ hk => hk.2) (.bool t301)) (fun _ h_ => h_.1))) hb); replace BK291 := Aside0.mk (blk_below (g := gb291) (o := .cells #[.int .i64 t280, .int .i64 t281, .int .i64 t282, .int .i64 t283, .int .i64 t284, .slice Ao9 t285.length co9, .int .i64 t288, .bool t289] 24 (0, 0)) (by refine bz_ ?_; refine blk_far ?_ NB291_303.out _; refine bz_ ?_; refine blk_far ?_ NB291_303.out _; refine bz_ ?_; refine blk_far ?_ NB291_303.out _; refine bz_ ?_; refine blk_far ?_ NB291_303.out _; refine bz_ ?_; refine blk_far ?_ NB291_303.out _; refine bz_ ?_; refine blk_far ?_ NB291_303.out _; refine bz_ ?_; refine blk_far ?_ NB291_303.out _; refine bz_ ?_; refine blk_far ?_ NB291_303.out _; refine bz_ ?_; exact BK291.out) hb); replace BK303 := Aside0.mk (blk_below (g := gb303) (o := .cells #[.int .i64 t292, .int .i64 t293, .int .i64 t294, .int .i64 t295, .int .i64 t296, .slice Ao14 t297.length co14, .int .i64 t300, .bool t301] 24 (0, 0)) (by refine bz_ ?_; refine blk_put (cs := #[.int .i64 t292, .int .i64 t293, .int .i64 t294, .int .i64 t295, .int .i64 t296, .slice Ao14 t297.length co14, .int .i64 t300, .bool false]) ?_ 7 _ rfl; refine bz_ ?_; refine blk_put (cs := #[.int .i64 t292, .int .i64 t293, .int .i64 t294, .int .i64 t295, .int .i64 t296, .slice Ao14 t297.length co14, .int .i64 0, .bool false]) ?_ 6 _ rfl; refine bz_ ?_; refine blk_put (cs := #[.int .i64 t292, .int .i64 t293, .int .i64 t294, .int .i64 t295, .int .i64 t296, .slice none 0 0, .int .i64 0, .bool false]) ?_ 5 _ rfl; refine bz_ ?_; refine blk_put (cs := #[.int .i64 t292, .int .i64 t293, .int .i64 t294, .int .i64 t295, .int .i64 0, .slice none 0 0, .int .i64 0, .bool false]) ?_ 4 _ rfl; refine bz_ ?_; refine blk_put (cs := #[.int .i64 t292, .int .i64 t293, .int .i64 t294, .int .i64 0, .int .i64 0, .slice none 0 0, .int .i64 0, .bool false]) ?_ 3 _ rfl; refine bz_ ?_; refine blk_put (cs := #[.int .i64 t292, .int .i64 t293, .int .i64 0, .int .i64 0, .int .i64 0, .slice none 0 0, .int .i64 0, .bool false]) ?_ 2 _ rfl; refine bz_ ?_; refine blk_put (cs := #[.int .i64 t292, .int .i64 0, .int .i64 0, .int .i64 0, .int .i64 0, .slice none 0 0, .int .i64 0, .bool false]) ?_ 1 _ rfl; refine bz_ ?_; refine blk_put (cs := #[.int .i64 0, .int .i64 0, .int .i64 0, .int .i64 0, .int .i64 0, .slice none 0 0, .int .i64 0, .bool false]) ?_ 0 _ rfl; refine bz_ ?_; exact BK303.out) hb); replace HB := Aside0.mk (below_step (bw_q HB) hb); (try clear hb); (try clear hb2); (try clear hk); (try clear hi)))
    go_meet
    case rel => exact ⟨_, (true), (by first | rfl | (simp; done) | (simp [*]; done)), H', ⟨by first | omega | exact Nat.le_refl _⟩, ⟨by (with_reducible repeat (first | apply Kd.R_alloc | apply Kd.R_drewN | apply Kd.R_drew)); exact Kd.R_mono HO287.out (fun _ hk => hk.2)⟩, ⟨by (with_reducible repeat (first | apply Kd.R_alloc | apply Kd.R_drewN | apply Kd.R_drew)); exact Kd.R_mono HO299.out (fun _ hk => hk.2)⟩, ⟨by refine bz_ ?_; exact BK291.out⟩, ⟨by refine bz_ ?_; exact BK303.out⟩, ⟨bw_q HB⟩⟩
  case rest =>
   clear HC5
   try clear c1
   try clear c2
   try clear c2b0
   try clear c2b1
   try clear p2
   try clear c3
   try clear c9
   try clear c10
   try clear c11
   try clear c12
   try clear c16
   try clear c17
   try clear c21
   try clear hcz13_0
   try clear hcz13_1
   try clear hcz13_2
   try clear hcz13_3
   try clear hcz13_4
   try clear hcz13_5
   try clear hcz13_6
   try clear hcz13_7
   try clear hcz18_0
   try clear hcz18_1
   try clear hcz18_2
   try clear hcz18_3
   try clear hcz18_4
   try clear hcz18_5
   try clear hcz18_6
   try clear hcz18_7
   try clear hcz19_0
   try clear hcz19_1
   try clear hcz19_2
   try clear hcz19_3
   try clear hcz19_4
   try clear hcz19_5
   try clear hcz19_6
   try clear hcz19_7
   try clear hcz22_0
   try clear hcz22_1
   try clear hcz22_2
   try clear hcz22_3
   try clear hcz22_4
   try clear hcz22_5
   try clear hcz22_6
   try clear hcz22_7
   try clear hcz23_0
   try clear hcz23_1
   try clear hcz23_2
   try clear hcz23_3
   try clear hcz23_4
   try clear hcz23_5
   try clear hcz23_6
   try clear hcz23_7
   try clear hcz8_0
   try clear hcz8_1
   try clear hcz8_2
   try clear hcz8_3
   try clear hcz8_4
   try clear hcz8_5
   try clear hcz8_6
   try clear hcz8_7
   try clear hfz13_0
   try clear hfz13_1
   try clear hfz13_2
   try clear hfz13_3
   try clear hfz13_4
   try clear hfz13_5
   try clear hfz13_6
   try clear hfz13_7
   try clear hfz18_0
   try clear hfz18_1
   try clear hfz18_2
   try clear hfz18_3
   try clear hfz18_4
   try clear hfz18_5
   try clear hfz18_6
   try clear hfz18_7
   try clear hfz19_0
   try clear hfz19_1
   try clear hfz19_2
   try clear hfz19_3
   try clear hfz19_4
   try clear hfz19_5
   try clear hfz19_6
   try clear hfz19_7
   try clear hfz22_0
   try clear hfz22_1
   try clear hfz22_2
   try clear hfz22_3
   try clear hfz22_4
   try clear hfz22_5
   try clear hfz22_6
   try clear hfz22_7
   try clear hfz23_0
   try clear hfz23_1
   try clear hfz23_2
   try clear hfz23_3
   try clear hfz23_4
   try clear hfz23_5
   try clear hfz23_6
   try clear hfz23_7
   try clear hfz8_0
   try clear hfz8_1
   try clear hfz8_2
   try clear hfz8_3
   try clear hfz8_4
   try clear hfz8_5
   try clear hfz8_6
   try clear hfz8_7
   obtain ⟨kq, x32_4, rfl, HA, HJ4, HO_292005, HO_304005, BK291, BK303, HB⟩ := hcut
   cases kq with
   | zero => exact absurd HA.out (by simp [laws_FnExactReadRecord.j0])
   | succ kj4 =>
    have H := HA.out
    clear HA
    simp only [laws_FnExactReadRecord.j0] at H
    by_cases c25 : x32_4 = true
    ·subst c25
     have H1 : (some false) = some r := by rw [if_pos rfl] at H; exact H
     clear H
     have H := H1
     clear H1
     exact absurd (Option.some.inj H) (by rw [hr_]; decide)
    ·replace c25 := Bool.eq_false_iff.mpr c25
     subst c25
     have H1 : ((laws_markRecord.f kj4 t292 t293 t294 t295 t296 t297 t300 t301 1).bind fun bt305 => ((laws_heldRecord.f kj4 t292 t293 t294 t295 t296 bt305.2 t300 t301 1).bind fun t307 => (if t307 < 0 then (some false) else (if t307 = bt305.1 then ((impl_ReadRecord.f kj4 a0).bind fun bt308 => ((laws_eqRecord.f kj4 bt308.1 bt308.2.1 bt308.2.2.1 bt308.2.2.2.1 bt308.2.2.2.2.1 bt308.2.2.2.2.2.1 bt308.2.2.2.2.2.2.1 bt308.2.2.2.2.2.2.2.1 t280 t281 t282 t283 t284 t285 t288 t289).bind fun t320 => (if t320 = true then (laws_FnExactReadRecord.j1 kj4 bt305.1 (bt308.2.2.2.2.2.2.2.2 != t290) t292 t293 t294 t295 t296 bt305.2 t300 t301) else (laws_FnExactReadRecord.j1 kj4 bt305.1 true t292 t293 t294 t295 t296 bt305.2 t300 t301)))) else (some false))))) = some r := by rw [if_neg (show ¬ (false = true) by decide)] at H; exact H
     clear H
     have H := H1
     clear H1
     replace H := Option.bind_eq_some_iff.mp H
     obtain ⟨⟨t305, t306⟩, A260, H⟩ := H
     replace H : ((laws_heldRecord.f kj4 t292 t293 t294 t295 t296 t306 t300 t301 1).bind fun t307 => (if t307 < 0 then (some false) else (if t307 = t305 then ((impl_ReadRecord.f kj4 a0).bind fun bt308 => ((laws_eqRecord.f kj4 bt308.1 bt308.2.1 bt308.2.2.1 bt308.2.2.2.1 bt308.2.2.2.2.1 bt308.2.2.2.2.2.1 bt308.2.2.2.2.2.2.1 bt308.2.2.2.2.2.2.2.1 t280 t281 t282 t283 t284 t285 t288 t289).bind fun t320 => (if t320 = true then (laws_FnExactReadRecord.j1 kj4 t305 (bt308.2.2.2.2.2.2.2.2 != t290) t292 t293 t294 t295 t296 t306 t300 t301) else (laws_FnExactReadRecord.j1 kj4 t305 true t292 t293 t294 t295 t296 t306 t300 t301)))) else (some false)))) = some r := H
     have A26 := Aside0.mk A260
     clear A260
     replace H := Option.bind_eq_some_iff.mp H
     obtain ⟨t307, A270, H⟩ := H
     replace H : (if t307 < 0 then (some false) else (if t307 = t305 then ((impl_ReadRecord.f kj4 a0).bind fun bt308 => ((laws_eqRecord.f kj4 bt308.1 bt308.2.1 bt308.2.2.1 bt308.2.2.2.1 bt308.2.2.2.2.1 bt308.2.2.2.2.2.1 bt308.2.2.2.2.2.2.1 bt308.2.2.2.2.2.2.2.1 t280 t281 t282 t283 t284 t285 t288 t289).bind fun t320 => (if t320 = true then (laws_FnExactReadRecord.j1 kj4 t305 (bt308.2.2.2.2.2.2.2.2 != t290) t292 t293 t294 t295 t296 t306 t300 t301) else (laws_FnExactReadRecord.j1 kj4 t305 true t292 t293 t294 t295 t296 t306 t300 t301)))) else (some false))) = some r := H
     have A27 := Aside0.mk A270
     clear A270
     have HC28 := Aside0.mk H
     clear H
     have hnb29 := NB303_291.out
     have hnc29 := NB291_303.out
     obtain ⟨hcz30_0, hcz30_1, hcz30_2, hcz30_3, hcz30_4, hcz30_5, hcz30_6, hcz30_7⟩ := cz8_ BK303
     obtain ⟨hfz30_0, hfz30_1, hfz30_2, hfz30_3, hfz30_4, hfz30_5, hfz30_6, hfz30_7⟩ := fz8_ BK303
     go_upto_if 40 with (first | ((with_reducible refine gate_callee (f := 12) rfl ?_); refine goesL_ (some 35) rfl rfl Try.func12 (by kernel_rfl) rfl #[.agg #[.int .i64 t292, .int .i64 t293, .int .i64 t294, .int .i64 t295, .int .i64 t296, .slice Ao14 t297.length co14, .int .i64 t300, .bool t301], .int .i64 1] rfl mp_q ?_; (with_reducible refine (laws_markRecord.calls kj4 t292 t293 t294 t295 t296 (fun k_ => some k_ = (.slice Ao14 t297.length co14 : Value).ownBlock) (.slice Ao14 t297.length co14) t297 t300 t301 1 t305 t306 w _ ?side1 ?side2 A26.out).mono ?_); (case side1 => repeat (first | (with_reducible first | exact HB.out | apply below_alloc | apply pw_below_drewN | apply below_drew1 | refine below_set ?_ GE291.out | refine below_set ?_ GE303.out) | exact HB.out)); (case side2 => exact Kd.R_tight rfl HO_304005.out); rintro e w31 ⟨rfl, hy0, hb, hkp⟩; refine ⟨_, rfl, ?_⟩; replace HO_292005 := Aside0.mk (Kd.R_mono (ok' := fun k_ => some k_ ≠ (.slice Ao14 t297.length co14 : Value).ownBlock) (Kd.R_keptB (HO_292005.out) hkp (fun k_ hk_ hs_ => (hk_) hs_)) (fun k_ hk_ => hk_.1)); replace BK291 := Aside0.mk (blk_kept (bk_q BK291) hkp (fun hs_ => (fun e_ => (Kd.R_ne HO_304005.out BK291.out (by decide)) e_) hs_)); replace BK303 := Aside0.mk (blk_kept (bk_q BK303) hkp (fun hs_ => (fun e_ => (Kd.R_ne HO_304005.out BK303.out (by decide)) e_) hs_)); replace HO_304005 := Aside0.mk (Kd.R_reok rfl hy0 (fun k_ e_ => HO_304005.out.1 k_ e_)); replace HB := Aside0.mk (hb); (try clear hb); (try clear hkp); (try clear hy0); have hcz32_0 : w31.cell? ⟨gb303, 0, none⟩ = some (.int .i64 t292) := (blk_cell BK303.out 0).trans rfl; have hcz32_1 : w31.cell? ⟨gb303, 1, none⟩ = some (.int .i64 t293) := (blk_cell BK303.out 1).trans rfl; have hcz32_2 : w31.cell? ⟨gb303, 2, none⟩ = some (.int .i64 t294) := (blk_cell BK303.out 2).trans rfl; have hcz32_3 : w31.cell? ⟨gb303, 3, none⟩ = some (.int .i64 t295) := (blk_cell BK303.out 3).trans rfl; have hcz32_4 : w31.cell? ⟨gb303, 4, none⟩ = some (.int .i64 t296) := (blk_cell BK303.out 4).trans rfl; have hcz32_5 : w31.cell? ⟨gb303, 5, none⟩ = some (.slice Ao14 t297.length co14) := (blk_cell BK303.out 5).trans rfl; have hcz32_6 : w31.cell? ⟨gb303, 6, none⟩ = some (.int .i64 t300) := (blk_cell BK303.out 6).trans rfl; have hcz32_7 : w31.cell? ⟨gb303, 7, none⟩ = some (.bool t301) := (blk_cell BK303.out 7).trans rfl; have hfz32_0 := blk_frozen BK303.out 0; have hfz32_1 := blk_frozen BK303.out 1; have hfz32_2 := blk_frozen BK303.out 2; have hfz32_3 := blk_frozen BK303.out 3; have hfz32_4 := blk_frozen BK303.out 4; have hfz32_5 := blk_frozen BK303.out 5; have hfz32_6 := blk_frozen BK303.out 6; have hfz32_7 := blk_frozen BK303.out 7) | ((with_reducible refine gate_callee (f := 13) rfl ?_); refine goesL_ (some 38) rfl rfl Try.func13 (by kernel_rfl) rfl #[.agg #[.int .i64 t292, .int .i64 t293, .int .i64 t294, .int .i64 t295, .int .i64 t296, .slice Ao14 t306.length co14, .int .i64 t300, .bool t301], .int .i64 1] rfl (by (try simp only [List.map_toArray, List.map_cons, List.map_nil]); first | done | (rw [show t306.length = t297.length from (Kd.R_reads' HO_304005.out).1.symm] <;> rfl) | rfl | (simp only [List.length_drop, List.length_take]; rfl)) ?_; (with_reducible refine (laws_heldRecord.calls kj4 t292 t293 t294 t295 t296 _ _ t306 t300 t301 1 t307 _ ?side1 ?side2 A27.out).mono ?_); (case side1 => repeat (first | exact (Kd.R_reads' HO_304005.out).2.2 | (with_reducible refine Kd.C_alloc ?_ _) | (with_reducible refine Kd.C_drewN ?_ _) | (with_reducible refine Kd.C_drew ?_))); (case side2 => rw [show t306.length = t297.length from (Kd.R_reads' HO_304005.out).1.symm]; exact (Kd.R_reads' HO_304005.out).2.1); rintro e w33 ⟨rfl, hb⟩; refine ⟨_, rfl, ?_⟩; replace HO_292005 := Aside0.mk (Kd.R_below (kR_q HO_292005) hb); replace HO_304005 := Aside0.mk (Kd.R_below (kR_q HO_304005) hb); replace BK291 := Aside0.mk (blk_below (g := gb291) (bk_q BK291) hb); replace BK303 := Aside0.mk (blk_below (g := gb303) (bk_q BK303) hb); replace HB := Aside0.mk (below_step (bw_q HB) hb); (try clear hb); (try clear hb2); (try clear hk); (try clear hi)))
     have H := HC28.out
     clear HC28
     by_cases c34 : t307 < 0
     ·rw [if_pos c34] at H
      have c34b0 : decide (t307 < 0) = true := decide_eq_true c34
      clear c34
      (first | rw [c34b0] | rw [c34b1] | (simp only [i64_w, i32_w]; first | rw [c34b0] | rw [c34b1]) | skip)
      exact absurd (Option.some.inj H) (by rw [hr_]; decide)
     ·rw [if_neg c34] at H
      have c34b0 : decide (t307 < 0) = false := decide_eq_false c34
      clear c34
      (first | rw [c34b0] | rw [c34b1] | (simp only [i64_w, i32_w]; first | rw [c34b0] | rw [c34b1]) | skip)
      by_cases c35 : t307 = t305
      ·rw [if_pos c35] at H
       have c35b0 : (t307 == t305) = true := beq_iff_eq.mpr c35
       have c35b1 : (t307 != t305) = false := bne_eq_false_iff_eq.mpr c35
       clear c35
       replace H := Option.bind_eq_some_iff.mp H
       obtain ⟨⟨t308, t309, t310, t311, t312, t313, t316, t317, t318⟩, A360, H⟩ := H
       replace H : ((laws_eqRecord.f kj4 t308 t309 t310 t311 t312 t313 t316 t317 t280 t281 t282 t283 t284 t285 t288 t289).bind fun t320 => (if t320 = true then (laws_FnExactReadRecord.j1 kj4 t305 (t318 != t290) t292 t293 t294 t295 t296 t306 t300 t301) else (laws_FnExactReadRecord.j1 kj4 t305 true t292 t293 t294 t295 t296 t306 t300 t301))) = some r := H
       have A36 := Aside0.mk A360
       clear A360
       have HC37 := Aside0.mk H
       clear H
       go_upto_region 16 with (first | ((with_reducible refine gate_callee (f := 10) rfl ?_); refine goesL_ (some 46) rfl rfl Try.func10 (by kernel_rfl) rfl #[.string a0] rfl mp_q ?_; (with_reducible refine (impl_ReadRecord.calls kj4 a0 t308 t309 t310 t311 t312 t313 t316 t317 t318 _ A36.out).mono ?_); rintro e w38 ⟨v314, rfl, ho0, hb⟩; refine ⟨_, rfl, ?_⟩; have hs_v314 : (v314 : Value).oneCell' = true := (by first | (have h_ := Kd.R_slice ho0; obtain ⟨A_, c_, e_⟩ := h_; simp [e_, Value.oneCell']) | (have h_ := Kd.S_slice ho0; obtain ⟨A_, c_, e_⟩ := h_; simp [e_, Value.oneCell']) | (have h_ := Kd.N_slice ho0; obtain ⟨A_, c_, e_⟩ := h_; simp [e_, Value.oneCell']) | (have h_ := Kd.V_slice ho0; obtain ⟨A_, c_, e_⟩ := h_; simp [e_, Value.oneCell'])); have hst_v314 := fun (w_ : World) (a_ : Addr) m_ => run_store Try.prog w_ a_ v314 m_ hs_v314; have HO315 := Aside0.mk (Kd.R_lower (Kd.R_new' (Kd.R_new' ho0 (Kd.R_lt (kR_q HO_292005))) (Kd.R_lt (kR_q HO_304005))) (below_size (bw_q HB))); replace HO_292005 := Aside0.mk (Kd.R_elder' (kR_q HO_292005) (Kd.R_base ho0) hb); replace HO_304005 := Aside0.mk (Kd.R_elder' (kR_q HO_304005) (Kd.R_base ho0) hb); replace BK291 := Aside0.mk (blk_below (g := gb291) (bk_q BK291) hb); replace BK303 := Aside0.mk (blk_below (g := gb303) (bk_q BK303) hb); replace HB := Aside0.mk (below_step (bw_q HB) hb); (try clear hb); (try clear hb2); (try clear hk); (try clear hi); (try clear ho0)) | ((with_reducible refine gate_dst (N := 9) rfl ?_); refine box_q 9 #[.int .i64 0, .int .i64 0, .int .i64 0, .int .i64 0, .int .i64 0, .slice none 0 0, .int .i64 0, .bool false] 24 ?_; intro gb319 hg w39 hbox hb; replace HO_292005 := Aside0.mk (Kd.R_below (kR_q HO_292005) hb); replace HO_304005 := Aside0.mk (Kd.R_below (kR_q HO_304005) hb); replace HO315 := Aside0.mk (Kd.R_below (kR_q HO315) hb); have BK319 := Aside0.mk (hbox); have GW319 := Aside0.mk ((by rw [hg]; exact (below_size (bw_q HB)) : w.heap.size ≤ gb319)); have GE319 := Aside0.mk ((by rw [hg]; exact (below_size (bw_q HB)) : w.heap.size ≤ gb319)); replace HB := Aside0.mk (below_step (bw_q HB) hb); have NB291_319 := Aside0.mk ((by rw [hg]; exact Nat.ne_of_lt (blk_lt (g := gb291) (o := .cells #[.int .i64 t280, .int .i64 t281, .int .i64 t282, .int .i64 t283, .int .i64 t284, .slice Ao9 t285.length co9, .int .i64 t288, .bool t289] 24 (0, 0)) (bk_q BK291)) : gb291 ≠ gb319)); have NB319_291 := Aside0.mk ((by rw [hg]; exact Nat.ne_of_gt (blk_lt (g := gb291) (o := .cells #[.int .i64 t280, .int .i64 t281, .int .i64 t282, .int .i64 t283, .int .i64 t284, .slice Ao9 t285.length co9, .int .i64 t288, .bool t289] 24 (0, 0)) (bk_q BK291)) : gb319 ≠ gb291)); replace BK291 := Aside0.mk (blk_below (g := gb291) (bk_q BK291) hb); have NB303_319 := Aside0.mk ((by rw [hg]; exact Nat.ne_of_lt (blk_lt (g := gb303) (o := .cells #[.int .i64 t292, .int .i64 t293, .int .i64 t294, .int .i64 t295, .int .i64 t296, .slice Ao14 t297.length co14, .int .i64 t300, .bool t301] 24 (0, 0)) (bk_q BK303)) : gb303 ≠ gb319)); have NB319_303 := Aside0.mk ((by rw [hg]; exact Nat.ne_of_gt (blk_lt (g := gb303) (o := .cells #[.int .i64 t292, .int .i64 t293, .int .i64 t294, .int .i64 t295, .int .i64 t296, .slice Ao14 t297.length co14, .int .i64 t300, .bool t301] 24 (0, 0)) (bk_q BK303)) : gb319 ≠ gb303)); replace BK303 := Aside0.mk (blk_below (g := gb303) (bk_q BK303) hb); clear hb hbox hg; have hnb40 := NB319_291.out; have hnc40 := NB291_319.out; have hnb41 := NB319_303.out; have hnc41 := NB303_319.out; have hcz42_0 : w39.cell? ⟨gb319, 0, none⟩ = some (.int .i64 0) := (blk_cell BK319.out 0).trans rfl; have hcz42_1 : w39.cell? ⟨gb319, 1, none⟩ = some (.int .i64 0) := (blk_cell BK319.out 1).trans rfl; have hcz42_2 : w39.cell? ⟨gb319, 2, none⟩ = some (.int .i64 0) := (blk_cell BK319.out 2).trans rfl; have hcz42_3 : w39.cell? ⟨gb319, 3, none⟩ = some (.int .i64 0) := (blk_cell BK319.out 3).trans rfl; have hcz42_4 : w39.cell? ⟨gb319, 4, none⟩ = some (.int .i64 0) := (blk_cell BK319.out 4).trans rfl; have hcz42_5 : w39.cell? ⟨gb319, 5, none⟩ = some (.slice none 0 0) := (blk_cell BK319.out 5).trans rfl; have hcz42_6 : w39.cell? ⟨gb319, 6, none⟩ = some (.int .i64 0) := (blk_cell BK319.out 6).trans rfl; have hcz42_7 : w39.cell? ⟨gb319, 7, none⟩ = some (.bool false) := (blk_cell BK319.out 7).trans rfl; have hfz42_0 := blk_frozen BK319.out 0; have hfz42_1 := blk_frozen BK319.out 1; have hfz42_2 := blk_frozen BK319.out 2; have hfz42_3 := blk_frozen BK319.out 3; have hfz42_4 := blk_frozen BK319.out 4; have hfz42_5 := blk_frozen BK319.out 5; have hfz42_6 := blk_frozen BK319.out 6; have hfz42_7 := blk_frozen BK319.out 7; obtain ⟨Ao43, co43, eo43⟩ := Kd.R_slice HO315.out; subst eo43))
       (try simp only [Act.put, List.setIfInBounds_toArray, List.set_cons_zero, List.set_cons_succ])
       go_cut [57] (fun v57 wc => ∃ (kq : Nat) (x57_36 : Bool), v57 = .bool x57_36 ∧ Aside0 (laws_FnExactReadRecord.j1 kq t305 x57_36 t292 t293 t294 t295 t296 t306 t300 t301 = some r) ∧ Aside0 (kq ≤ kj4) ∧ Aside0 (Kd.R k63 63 wc w.heap.size (fun k_ => some k_ ≠ ((.slice Ao14 t297.length co14) : Value).ownBlock ∧ some k_ ≠ ((.slice Ao43 t313.length co43) : Value).ownBlock) (.slice Ao9 t285.length co9) t285) ∧ Aside0 (Kd.R k63 63 wc w.heap.size (fun k_ => some k_ ≠ ((.slice Ao9 t285.length co9) : Value).ownBlock ∧ some k_ ≠ ((.slice Ao43 t313.length co43) : Value).ownBlock) (.slice Ao14 t297.length co14) t306) ∧ Aside0 (Kd.R k63 63 wc w.heap.size (fun k_ => some k_ ≠ ((.slice Ao9 t285.length co9) : Value).ownBlock ∧ some k_ ≠ ((.slice Ao14 t297.length co14) : Value).ownBlock) (.slice Ao43 t313.length co43) t313) ∧ Aside0 (wc.heap[gb291]? = some (.cells #[.int .i64 t280, .int .i64 t281, .int .i64 t282, .int .i64 t283, .int .i64 t284, (.slice Ao9 t285.length co9), .int .i64 t288, .bool t289] 24 (0, 0))) ∧ Aside0 (wc.heap[gb303]? = some (.cells #[.int .i64 t292, .int .i64 t293, .int .i64 t294, .int .i64 t295, .int .i64 t296, (.slice Ao14 t297.length co14), .int .i64 t300, .bool t301] 24 (0, 0))) ∧ Aside0 (wc.heap[gb319]? = some (.cells #[.int .i64 t308, .int .i64 t309, .int .i64 t310, .int .i64 t311, .int .i64 t312, (.slice Ao43 t313.length co43), .int .i64 t316, .bool t317] 24 (0, 0))) ∧ Aside0 (Below w.heap.size w wc))
       case first =>
        have H := HC37.out
        clear HC37
        replace H := Option.bind_eq_some_iff.mp H
        obtain ⟨t320, A440, H⟩ := H
        replace H : (if t320 = true then (laws_FnExactReadRecord.j1 kj4 t305 (t318 != t290) t292 t293 t294 t295 t296 t306 t300 t301) else (laws_FnExactReadRecord.j1 kj4 t305 true t292 t293 t294 t295 t296 t306 t300 t301)) = some r := H
        have A44 := Aside0.mk A440
        clear A440
        by_cases c45 : t320 = true
        ·subst c45
         have H1 : (laws_FnExactReadRecord.j1 kj4 t305 (t318 != t290) t292 t293 t294 t295 t296 t306 t300 t301) = some r := by rw [if_pos rfl] at H; exact H
         clear H
         have H := H1
         clear H1
         have H' := Aside0.mk H
         clear H
         have hnb46 := NB319_291.out
         have hnc46 := NB291_319.out
         have hnb47 := NB319_303.out
         have hnc47 := NB303_319.out
         obtain ⟨hcz48_0, hcz48_1, hcz48_2, hcz48_3, hcz48_4, hcz48_5, hcz48_6, hcz48_7⟩ := cz8_ BK319
         obtain ⟨hfz48_0, hfz48_1, hfz48_2, hfz48_3, hfz48_4, hfz48_5, hfz48_6, hfz48_7⟩ := fz8_ BK319
         have hnb49 := NB291_303.out
         have hnc49 := NB303_291.out
         obtain ⟨hcz50_0, hcz50_1, hcz50_2, hcz50_3, hcz50_4, hcz50_5, hcz50_6, hcz50_7⟩ := cz8_ BK291
         obtain ⟨hfz50_0, hfz50_1, hfz50_2, hfz50_3, hfz50_4, hfz50_5, hfz50_6, hfz50_7⟩ := fz8_ BK291
         go_wp2_with (first | ((with_reducible refine gate_callee (f := 11) rfl ?_); refine goesL_ (some 51) rfl rfl Try.func11 (by kernel_rfl) rfl #[.agg #[.int .i64 t308, .int .i64 t309, .int .i64 t310, .int .i64 t311, .int .i64 t312, .slice Ao43 t313.length co43, .int .i64 t316, .bool t317], .agg #[.int .i64 t280, .int .i64 t281, .int .i64 t282, .int .i64 t283, .int .i64 t284, .slice Ao9 t285.length co9, .int .i64 t288, .bool t289]] rfl mp_q ?_; (with_reducible refine (laws_eqRecord.calls kj4 t308 t309 t310 t311 t312 _ _ t313 t316 t317 t280 t281 t282 t283 t284 _ _ t285 t288 t289 true _ ?side1 ?side2 ?side3 ?side4 A44.out).mono ?_); (case side1 => refine (Kd.R_reads' (e := 63) (base := w.heap.size) (ok := fun k_ => ((True ∧ some k_ ≠ (.slice Ao9 t285.length co9 : Value).ownBlock) ∧ some k_ ≠ (.slice Ao14 t297.length co14 : Value).ownBlock)) (n := t313.length) (c := co43) ?_).2.2; exact (by (with_reducible repeat (first | apply Kd.R_alloc | apply Kd.R_drewN | apply Kd.R_drew)); exact (Kd.R_mono (Kd.R_far (p := ⟨gb319, 7, none⟩) (Kd.R_far (p := ⟨gb319, 6, none⟩) (Kd.R_far (p := ⟨gb319, 5, none⟩) (Kd.R_far (p := ⟨gb319, 4, none⟩) (Kd.R_far (p := ⟨gb319, 3, none⟩) (Kd.R_far (p := ⟨gb319, 2, none⟩) (Kd.R_far (p := ⟨gb319, 1, none⟩) (Kd.R_far (p := ⟨gb319, 0, none⟩) (Kd.R_types HO315.out BK319.out (by decide)) (fun _ hk => hk.2) (.int .i64 t308)) (fun _ hk => hk.2) (.int .i64 t309)) (fun _ hk => hk.2) (.int .i64 t310)) (fun _ hk => hk.2) (.int .i64 t311)) (fun _ hk => hk.2) (.int .i64 t312)) (fun _ hk => hk.2) (.slice Ao43 t313.length co43)) (fun _ hk => hk.2) (.int .i64 t316)) (fun _ hk => hk.2) (.bool t317)) (fun _ h_ => h_.1)))); (case side2 => exact (Kd.R_reads' HO315.out).2.1); (case side3 => refine (Kd.R_reads' (e := 63) (base := w.heap.size) (ok := fun k_ => (some k_ ≠ (.slice Ao14 t297.length co14 : Value).ownBlock ∧ some k_ ≠ (.slice Ao43 t313.length co43 : Value).ownBlock)) (n := t285.length) (c := co9) ?_).2.2; exact (by (with_reducible repeat (first | apply Kd.R_alloc | apply Kd.R_drewN | apply Kd.R_drew)); exact (Kd.R_mono (Kd.R_far (p := ⟨gb319, 7, none⟩) (Kd.R_far (p := ⟨gb319, 6, none⟩) (Kd.R_far (p := ⟨gb319, 5, none⟩) (Kd.R_far (p := ⟨gb319, 4, none⟩) (Kd.R_far (p := ⟨gb319, 3, none⟩) (Kd.R_far (p := ⟨gb319, 2, none⟩) (Kd.R_far (p := ⟨gb319, 1, none⟩) (Kd.R_far (p := ⟨gb319, 0, none⟩) (Kd.R_types HO_292005.out BK319.out (by decide)) (fun _ hk => hk.2) (.int .i64 t308)) (fun _ hk => hk.2) (.int .i64 t309)) (fun _ hk => hk.2) (.int .i64 t310)) (fun _ hk => hk.2) (.int .i64 t311)) (fun _ hk => hk.2) (.int .i64 t312)) (fun _ hk => hk.2) (.slice Ao43 t313.length co43)) (fun _ hk => hk.2) (.int .i64 t316)) (fun _ hk => hk.2) (.bool t317)) (fun _ h_ => h_.1)))); (case side4 => exact (Kd.R_reads' HO_292005.out).2.1); rintro e w51 ⟨rfl, hb⟩; refine ⟨_, rfl, ?_⟩; replace HO_292005 := Aside0.mk (Kd.R_below (by (with_reducible repeat (first | apply Kd.R_alloc | apply Kd.R_drewN | apply Kd.R_drew)); exact (Kd.R_mono (Kd.R_far (p := ⟨gb319, 7, none⟩) (Kd.R_far (p := ⟨gb319, 6, none⟩) (Kd.R_far (p := ⟨gb319, 5, none⟩) (Kd.R_far (p := ⟨gb319, 4, none⟩) (Kd.R_far (p := ⟨gb319, 3, none⟩) (Kd.R_far (p := ⟨gb319, 2, none⟩) (Kd.R_far (p := ⟨gb319, 1, none⟩) (Kd.R_far (p := ⟨gb319, 0, none⟩) (Kd.R_types HO_292005.out BK319.out (by decide)) (fun _ hk => hk.2) (.int .i64 t308)) (fun _ hk => hk.2) (.int .i64 t309)) (fun _ hk => hk.2) (.int .i64 t310)) (fun _ hk => hk.2) (.int .i64 t311)) (fun _ hk => hk.2) (.int .i64 t312)) (fun _ hk => hk.2) (.slice Ao43 t313.length co43)) (fun _ hk => hk.2) (.int .i64 t316)) (fun _ hk => hk.2) (.bool t317)) (fun _ h_ => h_.1))) hb); replace HO_304005 := Aside0.mk (Kd.R_below (by (with_reducible repeat (first | apply Kd.R_alloc | apply Kd.R_drewN | apply Kd.R_drew)); exact (Kd.R_mono (Kd.R_far (p := ⟨gb319, 7, none⟩) (Kd.R_far (p := ⟨gb319, 6, none⟩) (Kd.R_far (p := ⟨gb319, 5, none⟩) (Kd.R_far (p := ⟨gb319, 4, none⟩) (Kd.R_far (p := ⟨gb319, 3, none⟩) (Kd.R_far (p := ⟨gb319, 2, none⟩) (Kd.R_far (p := ⟨gb319, 1, none⟩) (Kd.R_far (p := ⟨gb319, 0, none⟩) (Kd.R_types HO_304005.out BK319.out (by decide)) (fun _ hk => hk.2) (.int .i64 t308)) (fun _ hk => hk.2) (.int .i64 t309)) (fun _ hk => hk.2) (.int .i64 t310)) (fun _ hk => hk.2) (.int .i64 t311)) (fun _ hk => hk.2) (.int .i64 t312)) (fun _ hk => hk.2) (.slice Ao43 t313.length co43)) (fun _ hk => hk.2) (.int .i64 t316)) (fun _ hk => hk.2) (.bool t317)) (fun _ h_ => h_.1))) hb); replace HO315 := Aside0.mk (Kd.R_below (by (with_reducible repeat (first | apply Kd.R_alloc | apply Kd.R_drewN | apply Kd.R_drew)); exact (Kd.R_mono (Kd.R_far (p := ⟨gb319, 7, none⟩) (Kd.R_far (p := ⟨gb319, 6, none⟩) (Kd.R_far (p := ⟨gb319, 5, none⟩) (Kd.R_far (p := ⟨gb319, 4, none⟩) (Kd.R_far (p := ⟨gb319, 3, none⟩) (Kd.R_far (p := ⟨gb319, 2, none⟩) (Kd.R_far (p := ⟨gb319, 1, none⟩) (Kd.R_far (p := ⟨gb319, 0, none⟩) (Kd.R_types HO315.out BK319.out (by decide)) (fun _ hk => hk.2) (.int .i64 t308)) (fun _ hk => hk.2) (.int .i64 t309)) (fun _ hk => hk.2) (.int .i64 t310)) (fun _ hk => hk.2) (.int .i64 t311)) (fun _ hk => hk.2) (.int .i64 t312)) (fun _ hk => hk.2) (.slice Ao43 t313.length co43)) (fun _ hk => hk.2) (.int .i64 t316)) (fun _ hk => hk.2) (.bool t317)) (fun _ h_ => h_.1))) hb); replace BK291 := Aside0.mk (blk_below (g := gb291) (o := .cells #[.int .i64 t280, .int .i64 t281, .int .i64 t282, .int .i64 t283, .int .i64 t284, .slice Ao9 t285.length co9, .int .i64 t288, .bool t289] 24 (0, 0)) (by refine bz_ ?_; refine blk_far ?_ NB291_319.out _; refine bz_ ?_; refine blk_far ?_ NB291_319.out _; refine bz_ ?_; refine blk_far ?_ NB291_319.out _; refine bz_ ?_; refine blk_far ?_ NB291_319.out _; refine bz_ ?_; refine blk_far ?_ NB291_319.out _; refine bz_ ?_; refine blk_far ?_ NB291_319.out _; refine bz_ ?_; refine blk_far ?_ NB291_319.out _; refine bz_ ?_; refine blk_far ?_ NB291_319.out _; refine bz_ ?_; exact BK291.out) hb); replace BK303 := Aside0.mk (blk_below (g := gb303) (o := .cells #[.int .i64 t292, .int .i64 t293, .int .i64 t294, .int .i64 t295, .int .i64 t296, .slice Ao14 t297.length co14, .int .i64 t300, .bool t301] 24 (0, 0)) (by refine bz_ ?_; refine blk_far ?_ NB303_319.out _; refine bz_ ?_; refine blk_far ?_ NB303_319.out _; refine bz_ ?_; refine blk_far ?_ NB303_319.out _; refine bz_ ?_; refine blk_far ?_ NB303_319.out _; refine bz_ ?_; refine blk_far ?_ NB303_319.out _; refine bz_ ?_; refine blk_far ?_ NB303_319.out _; refine bz_ ?_; refine blk_far ?_ NB303_319.out _; refine bz_ ?_; refine blk_far ?_ NB303_319.out _; refine bz_ ?_; exact BK303.out) hb); replace BK319 := Aside0.mk (blk_below (g := gb319) (o := .cells #[.int .i64 t308, .int .i64 t309, .int .i64 t310, .int .i64 t311, .int .i64 t312, .slice Ao43 t313.length co43, .int .i64 t316, .bool t317] 24 (0, 0)) (by refine bz_ ?_; refine blk_put (cs := #[.int .i64 t308, .int .i64 t309, .int .i64 t310, .int .i64 t311, .int .i64 t312, .slice Ao43 t313.length co43, .int .i64 t316, .bool false]) ?_ 7 _ rfl; refine bz_ ?_; refine blk_put (cs := #[.int .i64 t308, .int .i64 t309, .int .i64 t310, .int .i64 t311, .int .i64 t312, .slice Ao43 t313.length co43, .int .i64 0, .bool false]) ?_ 6 _ rfl; refine bz_ ?_; refine blk_put (cs := #[.int .i64 t308, .int .i64 t309, .int .i64 t310, .int .i64 t311, .int .i64 t312, .slice none 0 0, .int .i64 0, .bool false]) ?_ 5 _ rfl; refine bz_ ?_; refine blk_put (cs := #[.int .i64 t308, .int .i64 t309, .int .i64 t310, .int .i64 t311, .int .i64 0, .slice none 0 0, .int .i64 0, .bool false]) ?_ 4 _ rfl; refine bz_ ?_; refine blk_put (cs := #[.int .i64 t308, .int .i64 t309, .int .i64 t310, .int .i64 0, .int .i64 0, .slice none 0 0, .int .i64 0, .bool false]) ?_ 3 _ rfl; refine bz_ ?_; refine blk_put (cs := #[.int .i64 t308, .int .i64 t309, .int .i64 0, .int .i64 0, .int .i64 0, .slice none 0 0, .int .i64 0, .bool false]) ?_ 2 _ rfl; refine bz_ ?_; refine blk_put (cs := #[.int .i64 t308, .int .i64 0, .int .i64 0, .int .i64 0, .int .i64 0, .slice none 0 0, .int .i64 0, .bool false]) ?_ 1 _ rfl; refine bz_ ?_; refine blk_put (cs := #[.int .i64 0, .int .i64 0, .int .i64 0, .int .i64 0, .int .i64 0, .slice none 0 0, .int .i64 0, .bool false]) ?_ 0 _ rfl; refine bz_ ?_; exact BK319.out) hb); replace HB := Aside0.mk (below_step (bw_q HB) hb); (try clear hb); (try clear hb2); (try clear hk); (try clear hi)))
         go_meet
         case rel => exact ⟨_, ((t318 != t290)), (by first | rfl | (simp; done) | (simp [*]; done)), H', ⟨by have := HJ4.out; first | omega | exact Nat.le_refl _⟩, ⟨by (with_reducible repeat (first | apply Kd.R_alloc | apply Kd.R_drewN | apply Kd.R_drew)); exact HO_292005.out⟩, ⟨by (with_reducible repeat (first | apply Kd.R_alloc | apply Kd.R_drewN | apply Kd.R_drew)); exact HO_304005.out⟩, ⟨by (with_reducible repeat (first | apply Kd.R_alloc | apply Kd.R_drewN | apply Kd.R_drew)); exact Kd.R_mono HO315.out (fun _ hk => ⟨hk.1.2, hk.2⟩)⟩, ⟨by refine bz_ ?_; exact BK291.out⟩, ⟨by refine bz_ ?_; exact BK303.out⟩, ⟨by refine bz_ ?_; exact BK319.out⟩, ⟨bw_q HB⟩⟩
        ·replace c45 := Bool.eq_false_iff.mpr c45
         subst c45
         have H1 : (laws_FnExactReadRecord.j1 kj4 t305 true t292 t293 t294 t295 t296 t306 t300 t301) = some r := by rw [if_neg (show ¬ (false = true) by decide)] at H; exact H
         clear H
         have H := H1
         clear H1
         have H' := Aside0.mk H
         clear H
         have hnb52 := NB319_291.out
         have hnc52 := NB291_319.out
         have hnb53 := NB319_303.out
         have hnc53 := NB303_319.out
         obtain ⟨hcz54_0, hcz54_1, hcz54_2, hcz54_3, hcz54_4, hcz54_5, hcz54_6, hcz54_7⟩ := cz8_ BK319
         obtain ⟨hfz54_0, hfz54_1, hfz54_2, hfz54_3, hfz54_4, hfz54_5, hfz54_6, hfz54_7⟩ := fz8_ BK319
         have hnb55 := NB291_303.out
         have hnc55 := NB303_291.out
         obtain ⟨hcz56_0, hcz56_1, hcz56_2, hcz56_3, hcz56_4, hcz56_5, hcz56_6, hcz56_7⟩ := cz8_ BK291
         obtain ⟨hfz56_0, hfz56_1, hfz56_2, hfz56_3, hfz56_4, hfz56_5, hfz56_6, hfz56_7⟩ := fz8_ BK291
         go_wp2_with (first | ((with_reducible refine gate_callee (f := 11) rfl ?_); refine goesL_ (some 51) rfl rfl Try.func11 (by kernel_rfl) rfl #[.agg #[.int .i64 t308, .int .i64 t309, .int .i64 t310, .int .i64 t311, .int .i64 t312, .slice Ao43 t313.length co43, .int .i64 t316, .bool t317], .agg #[.int .i64 t280, .int .i64 t281, .int .i64 t282, .int .i64 t283, .int .i64 t284, .slice Ao9 t285.length co9, .int .i64 t288, .bool t289]] rfl mp_q ?_; (with_reducible refine (laws_eqRecord.calls kj4 t308 t309 t310 t311 t312 _ _ t313 t316 t317 t280 t281 t282 t283 t284 _ _ t285 t288 t289 false _ ?side1 ?side2 ?side3 ?side4 A44.out).mono ?_); (case side1 => refine (Kd.R_reads' (e := 63) (base := w.heap.size) (ok := fun k_ => ((True ∧ some k_ ≠ (.slice Ao9 t285.length co9 : Value).ownBlock) ∧ some k_ ≠ (.slice Ao14 t297.length co14 : Value).ownBlock)) (n := t313.length) (c := co43) ?_).2.2; exact (by (with_reducible repeat (first | apply Kd.R_alloc | apply Kd.R_drewN | apply Kd.R_drew)); exact (Kd.R_mono (Kd.R_far (p := ⟨gb319, 7, none⟩) (Kd.R_far (p := ⟨gb319, 6, none⟩) (Kd.R_far (p := ⟨gb319, 5, none⟩) (Kd.R_far (p := ⟨gb319, 4, none⟩) (Kd.R_far (p := ⟨gb319, 3, none⟩) (Kd.R_far (p := ⟨gb319, 2, none⟩) (Kd.R_far (p := ⟨gb319, 1, none⟩) (Kd.R_far (p := ⟨gb319, 0, none⟩) (Kd.R_types HO315.out BK319.out (by decide)) (fun _ hk => hk.2) (.int .i64 t308)) (fun _ hk => hk.2) (.int .i64 t309)) (fun _ hk => hk.2) (.int .i64 t310)) (fun _ hk => hk.2) (.int .i64 t311)) (fun _ hk => hk.2) (.int .i64 t312)) (fun _ hk => hk.2) (.slice Ao43 t313.length co43)) (fun _ hk => hk.2) (.int .i64 t316)) (fun _ hk => hk.2) (.bool t317)) (fun _ h_ => h_.1)))); (case side2 => exact (Kd.R_reads' HO315.out).2.1); (case side3 => refine (Kd.R_reads' (e := 63) (base := w.heap.size) (ok := fun k_ => (some k_ ≠ (.slice Ao14 t297.length co14 : Value).ownBlock ∧ some k_ ≠ (.slice Ao43 t313.length co43 : Value).ownBlock)) (n := t285.length) (c := co9) ?_).2.2; exact (by (with_reducible repeat (first | apply Kd.R_alloc | apply Kd.R_drewN | apply Kd.R_drew)); exact (Kd.R_mono (Kd.R_far (p := ⟨gb319, 7, none⟩) (Kd.R_far (p := ⟨gb319, 6, none⟩) (Kd.R_far (p := ⟨gb319, 5, none⟩) (Kd.R_far (p := ⟨gb319, 4, none⟩) (Kd.R_far (p := ⟨gb319, 3, none⟩) (Kd.R_far (p := ⟨gb319, 2, none⟩) (Kd.R_far (p := ⟨gb319, 1, none⟩) (Kd.R_far (p := ⟨gb319, 0, none⟩) (Kd.R_types HO_292005.out BK319.out (by decide)) (fun _ hk => hk.2) (.int .i64 t308)) (fun _ hk => hk.2) (.int .i64 t309)) (fun _ hk => hk.2) (.int .i64 t310)) (fun _ hk => hk.2) (.int .i64 t311)) (fun _ hk => hk.2) (.int .i64 t312)) (fun _ hk => hk.2) (.slice Ao43 t313.length co43)) (fun _ hk => hk.2) (.int .i64 t316)) (fun _ hk => hk.2) (.bool t317)) (fun _ h_ => h_.1)))); (case side4 => exact (Kd.R_reads' HO_292005.out).2.1); rintro e w57 ⟨rfl, hb⟩; refine ⟨_, rfl, ?_⟩; replace HO_292005 := Aside0.mk (Kd.R_below (by (with_reducible repeat (first | apply Kd.R_alloc | apply Kd.R_drewN | apply Kd.R_drew)); exact (Kd.R_mono (Kd.R_far (p := ⟨gb319, 7, none⟩) (Kd.R_far (p := ⟨gb319, 6, none⟩) (Kd.R_far (p := ⟨gb319, 5, none⟩) (Kd.R_far (p := ⟨gb319, 4, none⟩) (Kd.R_far (p := ⟨gb319, 3, none⟩) (Kd.R_far (p := ⟨gb319, 2, none⟩) (Kd.R_far (p := ⟨gb319, 1, none⟩) (Kd.R_far (p := ⟨gb319, 0, none⟩) (Kd.R_types HO_292005.out BK319.out (by decide)) (fun _ hk => hk.2) (.int .i64 t308)) (fun _ hk => hk.2) (.int .i64 t309)) (fun _ hk => hk.2) (.int .i64 t310)) (fun _ hk => hk.2) (.int .i64 t311)) (fun _ hk => hk.2) (.int .i64 t312)) (fun _ hk => hk.2) (.slice Ao43 t313.length co43)) (fun _ hk => hk.2) (.int .i64 t316)) (fun _ hk => hk.2) (.bool t317)) (fun _ h_ => h_.1))) hb); replace HO_304005 := Aside0.mk (Kd.R_below (by (with_reducible repeat (first | apply Kd.R_alloc | apply Kd.R_drewN | apply Kd.R_drew)); exact (Kd.R_mono (Kd.R_far (p := ⟨gb319, 7, none⟩) (Kd.R_far (p := ⟨gb319, 6, none⟩) (Kd.R_far (p := ⟨gb319, 5, none⟩) (Kd.R_far (p := ⟨gb319, 4, none⟩) (Kd.R_far (p := ⟨gb319, 3, none⟩) (Kd.R_far (p := ⟨gb319, 2, none⟩) (Kd.R_far (p := ⟨gb319, 1, none⟩) (Kd.R_far (p := ⟨gb319, 0, none⟩) (Kd.R_types HO_304005.out BK319.out (by decide)) (fun _ hk => hk.2) (.int .i64 t308)) (fun _ hk => hk.2) (.int .i64 t309)) (fun _ hk => hk.2) (.int .i64 t310)) (fun _ hk => hk.2) (.int .i64 t311)) (fun _ hk => hk.2) (.int .i64 t312)) (fun _ hk => hk.2) (.slice Ao43 t313.length co43)) (fun _ hk => hk.2) (.int .i64 t316)) (fun _ hk => hk.2) (.bool t317)) (fun _ h_ => h_.1))) hb); replace HO315 := Aside0.mk (Kd.R_below (by (with_reducible repeat (first | apply Kd.R_alloc | apply Kd.R_drewN | apply Kd.R_drew)); exact (Kd.R_mono (Kd.R_far (p := ⟨gb319, 7, none⟩) (Kd.R_far (p := ⟨gb319, 6, none⟩) (Kd.R_far (p := ⟨gb319, 5, none⟩) (Kd.R_far (p := ⟨gb319, 4, none⟩) (Kd.R_far (p := ⟨gb319, 3, none⟩) (Kd.R_far (p := ⟨gb319, 2, none⟩) (Kd.R_far (p := ⟨gb319, 1, none⟩) (Kd.R_far (p := ⟨gb319, 0, none⟩) (Kd.R_types HO315.out BK319.out (by decide)) (fun _ hk => hk.2) (.int .i64 t308)) (fun _ hk => hk.2) (.int .i64 t309)) (fun _ hk => hk.2) (.int .i64 t310)) (fun _ hk => hk.2) (.int .i64 t311)) (fun _ hk => hk.2) (.int .i64 t312)) (fun _ hk => hk.2) (.slice Ao43 t313.length co43)) (fun _ hk => hk.2) (.int .i64 t316)) (fun _ hk => hk.2) (.bool t317)) (fun _ h_ => h_.1))) hb); replace BK291 := Aside0.mk (blk_below (g := gb291) (o := .cells #[.int .i64 t280, .int .i64 t281, .int .i64 t282, .int .i64 t283, .int .i64 t284, .slice Ao9 t285.length co9, .int .i64 t288, .bool t289] 24 (0, 0)) (by refine bz_ ?_; refine blk_far ?_ NB291_319.out _; refine bz_ ?_; refine blk_far ?_ NB291_319.out _; refine bz_ ?_; refine blk_far ?_ NB291_319.out _; refine bz_ ?_; refine blk_far ?_ NB291_319.out _; refine bz_ ?_; refine blk_far ?_ NB291_319.out _; refine bz_ ?_; refine blk_far ?_ NB291_319.out _; refine bz_ ?_; refine blk_far ?_ NB291_319.out _; refine bz_ ?_; refine blk_far ?_ NB291_319.out _; refine bz_ ?_; exact BK291.out) hb); replace BK303 := Aside0.mk (blk_below (g := gb303) (o := .cells #[.int .i64 t292, .int .i64 t293, .int .i64 t294, .int .i64 t295, .int .i64 t296, .slice Ao14 t297.length co14, .int .i64 t300, .bool t301] 24 (0, 0)) (by refine bz_ ?_; refine blk_far ?_ NB303_319.out _; refine bz_ ?_; refine blk_far ?_ NB303_319.out _; refine bz_ ?_; refine blk_far ?_ NB303_319.out _; refine bz_ ?_; refine blk_far ?_ NB303_319.out _; refine bz_ ?_; refine blk_far ?_ NB303_319.out _; refine bz_ ?_; refine blk_far ?_ NB303_319.out _; refine bz_ ?_; refine blk_far ?_ NB303_319.out _; refine bz_ ?_; refine blk_far ?_ NB303_319.out _; refine bz_ ?_; exact BK303.out) hb); replace BK319 := Aside0.mk (blk_below (g := gb319) (o := .cells #[.int .i64 t308, .int .i64 t309, .int .i64 t310, .int .i64 t311, .int .i64 t312, .slice Ao43 t313.length co43, .int .i64 t316, .bool t317] 24 (0, 0)) (by refine bz_ ?_; refine blk_put (cs := #[.int .i64 t308, .int .i64 t309, .int .i64 t310, .int .i64 t311, .int .i64 t312, .slice Ao43 t313.length co43, .int .i64 t316, .bool false]) ?_ 7 _ rfl; refine bz_ ?_; refine blk_put (cs := #[.int .i64 t308, .int .i64 t309, .int .i64 t310, .int .i64 t311, .int .i64 t312, .slice Ao43 t313.length co43, .int .i64 0, .bool false]) ?_ 6 _ rfl; refine bz_ ?_; refine blk_put (cs := #[.int .i64 t308, .int .i64 t309, .int .i64 t310, .int .i64 t311, .int .i64 t312, .slice none 0 0, .int .i64 0, .bool false]) ?_ 5 _ rfl; refine bz_ ?_; refine blk_put (cs := #[.int .i64 t308, .int .i64 t309, .int .i64 t310, .int .i64 t311, .int .i64 0, .slice none 0 0, .int .i64 0, .bool false]) ?_ 4 _ rfl; refine bz_ ?_; refine blk_put (cs := #[.int .i64 t308, .int .i64 t309, .int .i64 t310, .int .i64 0, .int .i64 0, .slice none 0 0, .int .i64 0, .bool false]) ?_ 3 _ rfl; refine bz_ ?_; refine blk_put (cs := #[.int .i64 t308, .int .i64 t309, .int .i64 0, .int .i64 0, .int .i64 0, .slice none 0 0, .int .i64 0, .bool false]) ?_ 2 _ rfl; refine bz_ ?_; refine blk_put (cs := #[.int .i64 t308, .int .i64 0, .int .i64 0, .int .i64 0, .int .i64 0, .slice none 0 0, .int .i64 0, .bool false]) ?_ 1 _ rfl; refine bz_ ?_; refine blk_put (cs := #[.int .i64 0, .int .i64 0, .int .i64 0, .int .i64 0, .int .i64 0, .slice none 0 0, .int .i64 0, .bool false]) ?_ 0 _ rfl; refine bz_ ?_; exact BK319.out) hb); replace HB := Aside0.mk (below_step (bw_q HB) hb); (try clear hb); (try clear hb2); (try clear hk); (try clear hi)))
         go_meet
         case rel => exact ⟨_, (true), (by first | rfl | (simp; done) | (simp [*]; done)), H', ⟨by have := HJ4.out; first | omega | exact Nat.le_refl _⟩, ⟨by (with_reducible repeat (first | apply Kd.R_alloc | apply Kd.R_drewN | apply Kd.R_drew)); exact HO_292005.out⟩, ⟨by (with_reducible repeat (first | apply Kd.R_alloc | apply Kd.R_drewN | apply Kd.R_drew)); exact HO_304005.out⟩, ⟨by (with_reducible repeat (first | apply Kd.R_alloc | apply Kd.R_drewN | apply Kd.R_drew)); exact Kd.R_mono HO315.out (fun _ hk => ⟨hk.1.2, hk.2⟩)⟩, ⟨by refine bz_ ?_; exact BK291.out⟩, ⟨by refine bz_ ?_; exact BK303.out⟩, ⟨by refine bz_ ?_; exact BK319.out⟩, ⟨bw_q HB⟩⟩
       case rest =>
        clear HC37
        try clear c1
        try clear c2
        try clear c2b0
        try clear c2b1
        try clear p2
        try clear c3
        try clear c4
        try clear c5
        try clear c9
        try clear c10
        try clear c11
        try clear c12
        try clear c13
        try clear c16
        try clear c17
        try clear c21
        try clear c25
        try clear c29
        try clear c34
        try clear c34b0
        try clear c34b1
        try clear c35
        try clear c35b0
        try clear c35b1
        try clear c40
        try clear c41
        try clear c45
        try clear c46
        try clear c47
        try clear c49
        try clear c52
        try clear c53
        try clear c55
        try clear hcz13_0
        try clear hcz13_1
        try clear hcz13_2
        try clear hcz13_3
        try clear hcz13_4
        try clear hcz13_5
        try clear hcz13_6
        try clear hcz13_7
        try clear hcz18_0
        try clear hcz18_1
        try clear hcz18_2
        try clear hcz18_3
        try clear hcz18_4
        try clear hcz18_5
        try clear hcz18_6
        try clear hcz18_7
        try clear hcz19_0
        try clear hcz19_1
        try clear hcz19_2
        try clear hcz19_3
        try clear hcz19_4
        try clear hcz19_5
        try clear hcz19_6
        try clear hcz19_7
        try clear hcz22_0
        try clear hcz22_1
        try clear hcz22_2
        try clear hcz22_3
        try clear hcz22_4
        try clear hcz22_5
        try clear hcz22_6
        try clear hcz22_7
        try clear hcz23_0
        try clear hcz23_1
        try clear hcz23_2
        try clear hcz23_3
        try clear hcz23_4
        try clear hcz23_5
        try clear hcz23_6
        try clear hcz23_7
        try clear hcz30_0
        try clear hcz30_1
        try clear hcz30_2
        try clear hcz30_3
        try clear hcz30_4
        try clear hcz30_5
        try clear hcz30_6
        try clear hcz30_7
        try clear hcz32_0
        try clear hcz32_1
        try clear hcz32_2
        try clear hcz32_3
        try clear hcz32_4
        try clear hcz32_5
        try clear hcz32_6
        try clear hcz32_7
        try clear hcz42_0
        try clear hcz42_1
        try clear hcz42_2
        try clear hcz42_3
        try clear hcz42_4
        try clear hcz42_5
        try clear hcz42_6
        try clear hcz42_7
        try clear hcz48_0
        try clear hcz48_1
        try clear hcz48_2
        try clear hcz48_3
        try clear hcz48_4
        try clear hcz48_5
        try clear hcz48_6
        try clear hcz48_7
        try clear hcz50_0
        try clear hcz50_1
        try clear hcz50_2
        try clear hcz50_3
        try clear hcz50_4
        try clear hcz50_5
        try clear hcz50_6
        try clear hcz50_7
        try clear hcz54_0
        try clear hcz54_1
        try clear hcz54_2
        try clear hcz54_3
        try clear hcz54_4
        try clear hcz54_5
        try clear hcz54_6
        try clear hcz54_7
        try clear hcz56_0
        try clear hcz56_1
        try clear hcz56_2
        try clear hcz56_3
        try clear hcz56_4
        try clear hcz56_5
        try clear hcz56_6
        try clear hcz56_7
        try clear hcz8_0
        try clear hcz8_1
        try clear hcz8_2
        try clear hcz8_3
        try clear hcz8_4
        try clear hcz8_5
        try clear hcz8_6
        try clear hcz8_7
        try clear hfz13_0
        try clear hfz13_1
        try clear hfz13_2
        try clear hfz13_3
        try clear hfz13_4
        try clear hfz13_5
        try clear hfz13_6
        try clear hfz13_7
        try clear hfz18_0
        try clear hfz18_1
        try clear hfz18_2
        try clear hfz18_3
        try clear hfz18_4
        try clear hfz18_5
        try clear hfz18_6
        try clear hfz18_7
        try clear hfz19_0
        try clear hfz19_1
        try clear hfz19_2
        try clear hfz19_3
        try clear hfz19_4
        try clear hfz19_5
        try clear hfz19_6
        try clear hfz19_7
        try clear hfz22_0
        try clear hfz22_1
        try clear hfz22_2
        try clear hfz22_3
        try clear hfz22_4
        try clear hfz22_5
        try clear hfz22_6
        try clear hfz22_7
        try clear hfz23_0
        try clear hfz23_1
        try clear hfz23_2
        try clear hfz23_3
        try clear hfz23_4
        try clear hfz23_5
        try clear hfz23_6
        try clear hfz23_7
        try clear hfz30_0
        try clear hfz30_1
        try clear hfz30_2
        try clear hfz30_3
        try clear hfz30_4
        try clear hfz30_5
        try clear hfz30_6
        try clear hfz30_7
        try clear hfz32_0
        try clear hfz32_1
        try clear hfz32_2
        try clear hfz32_3
        try clear hfz32_4
        try clear hfz32_5
        try clear hfz32_6
        try clear hfz32_7
        try clear hfz42_0
        try clear hfz42_1
        try clear hfz42_2
        try clear hfz42_3
        try clear hfz42_4
        try clear hfz42_5
        try clear hfz42_6
        try clear hfz42_7
        try clear hfz48_0
        try clear hfz48_1
        try clear hfz48_2
        try clear hfz48_3
        try clear hfz48_4
        try clear hfz48_5
        try clear hfz48_6
        try clear hfz48_7
        try clear hfz50_0
        try clear hfz50_1
        try clear hfz50_2
        try clear hfz50_3
        try clear hfz50_4
        try clear hfz50_5
        try clear hfz50_6
        try clear hfz50_7
        try clear hfz54_0
        try clear hfz54_1
        try clear hfz54_2
        try clear hfz54_3
        try clear hfz54_4
        try clear hfz54_5
        try clear hfz54_6
        try clear hfz54_7
        try clear hfz56_0
        try clear hfz56_1
        try clear hfz56_2
        try clear hfz56_3
        try clear hfz56_4
        try clear hfz56_5
        try clear hfz56_6
        try clear hfz56_7
        try clear hfz8_0
        try clear hfz8_1
        try clear hfz8_2
        try clear hfz8_3
        try clear hfz8_4
        try clear hfz8_5
        try clear hfz8_6
        try clear hfz8_7
        try clear p2
        obtain ⟨kq, x57_36, rfl, HA, HJ36, HO_292005, HO_304005, HO_320005, BK291, BK303, BK319, HB⟩ := hcut
        have hl304005_36 := (Kd.R_reads' HO_304005.out).1
        rw [hl304005_36] at HO_304005
        (try simp only [hl304005_36])
        (try simp only [hl304005_36] at BK291)
        (try simp only [hl304005_36] at BK303)
        (try simp only [hl304005_36] at BK319)
        (try simp only [hl304005_36] at HO_292005)
        (try simp only [hl304005_36] at HO_320005)
        cases kq with
        | zero => exact absurd HA.out (by simp [laws_FnExactReadRecord.j1])
        | succ kj36 =>
         have H := HA.out
         clear HA
         simp only [laws_FnExactReadRecord.j1] at H
         by_cases c58 : x57_36 = true
         ·subst c58
          have H1 : (some false) = some r := by rw [if_pos rfl] at H; exact H
          clear H
          have H := H1
          clear H1
          exact absurd (Option.some.inj H) (by rw [hr_]; decide)
         ·replace c58 := Bool.eq_false_iff.mpr c58
          subst c58
          have H1 : ((laws_heldRecord.f kj36 t292 t293 t294 t295 t296 t306 t300 t301 1).bind fun t321 => (if t321 < 0 then (some false) else (if t321 = t305 then (some true) else (some false)))) = some r := by rw [if_neg (show ¬ (false = true) by decide)] at H; exact H
          clear H
          have H := H1
          clear H1
          replace H := Option.bind_eq_some_iff.mp H
          obtain ⟨t321, A590, H⟩ := H
          replace H : (if t321 < 0 then (some false) else (if t321 = t305 then (some true) else (some false))) = some r := H
          have A59 := Aside0.mk A590
          clear A590
          have HC60 := Aside0.mk H
          clear H
          have hnb61 := NB303_291.out
          have hnc61 := NB291_303.out
          have hnb62 := NB303_319.out
          have hnc62 := NB319_303.out
          obtain ⟨hcz63_0, hcz63_1, hcz63_2, hcz63_3, hcz63_4, hcz63_5, hcz63_6, hcz63_7⟩ := cz8_ BK303
          obtain ⟨hfz63_0, hfz63_1, hfz63_2, hfz63_3, hfz63_4, hfz63_5, hfz63_6, hfz63_7⟩ := fz8_ BK303
          go_upto_if 62 with (first | ((with_reducible refine gate_callee (f := 13) rfl ?_); refine goesL_ (some 60) rfl rfl Try.func13 (by kernel_rfl) rfl #[.agg #[.int .i64 t292, .int .i64 t293, .int .i64 t294, .int .i64 t295, .int .i64 t296, .slice Ao14 t306.length co14, .int .i64 t300, .bool t301], .int .i64 1] rfl mp_q ?_; (with_reducible refine (laws_heldRecord.calls kj36 t292 t293 t294 t295 t296 _ _ t306 t300 t301 1 t321 _ ?side1 ?side2 A59.out).mono ?_); (case side1 => repeat (first | exact (Kd.R_reads' HO_304005.out).2.2 | (with_reducible refine Kd.C_alloc ?_ _) | (with_reducible refine Kd.C_drewN ?_ _) | (with_reducible refine Kd.C_drew ?_))); (case side2 => exact (Kd.R_reads' HO_304005.out).2.1); rintro e w64 ⟨rfl, hb⟩; refine ⟨_, rfl, ?_⟩; replace HO_292005 := Aside0.mk (Kd.R_below (kR_q HO_292005) hb); replace HO_304005 := Aside0.mk (Kd.R_below (kR_q HO_304005) hb); replace HO_320005 := Aside0.mk (Kd.R_below (kR_q HO_320005) hb); replace BK291 := Aside0.mk (blk_below (g := gb291) (bk_q BK291) hb); replace BK303 := Aside0.mk (blk_below (g := gb303) (bk_q BK303) hb); replace BK319 := Aside0.mk (blk_below (g := gb319) (bk_q BK319) hb); replace HB := Aside0.mk (below_step (bw_q HB) hb); (try clear hb); (try clear hb2); (try clear hk); (try clear hi)))
          have H := HC60.out
          clear HC60
          by_cases c65 : t321 < 0
          ·rw [if_pos c65] at H
           have c65b0 : decide (t321 < 0) = true := decide_eq_true c65
           clear c65
           (first | rw [c65b0] | rw [c65b1] | (simp only [i64_w, i32_w]; first | rw [c65b0] | rw [c65b1]) | skip)
           exact absurd (Option.some.inj H) (by rw [hr_]; decide)
          ·rw [if_neg c65] at H
           have c65b0 : decide (t321 < 0) = false := decide_eq_false c65
           clear c65
           (first | rw [c65b0] | rw [c65b1] | (simp only [i64_w, i32_w]; first | rw [c65b0] | rw [c65b1]) | skip)
           by_cases c66 : t321 = t305
           ·rw [if_pos c66] at H
            have c66b0 : (t321 == t305) = true := beq_iff_eq.mpr c66
            have c66b1 : (t321 != t305) = false := bne_eq_false_iff_eq.mpr c66
            clear c66
            obtain rfl := Option.some.inj H
            go_wp2
            go_ret
            exact ⟨er_q, bw_q HB⟩
           ·rw [if_neg c66] at H
            have c66b0 : (t321 == t305) = false := beq_eq_false_iff_ne.mpr c66
            have c66b1 : (t321 != t305) = true := bne_iff_ne.mpr c66
            exact absurd (Option.some.inj H) (by rw [hr_]; decide)
      ·rw [if_neg c35] at H
       have c35b0 : (t307 == t305) = false := beq_eq_false_iff_ne.mpr c35
       have c35b1 : (t307 != t305) = true := bne_iff_ne.mpr c35
       exact absurd (Option.some.inj H) (by rw [hr_]; decide)

/-- THE ONE PURE STATEMENT of laws_FnExactReadRecord: yours. -/
def laws_FnExactReadRecord.Pure : Prop := ∀ (a0 : ByteArray), a0.size ≤ 140737488351232 → ∃ k, laws_FnExactReadRecord.f k a0 = some true
theorem laws_FnExactReadRecord.walk (P : laws_FnExactReadRecord.Pure) (a0 : ByteArray) (w : World) (w0 : a0.size ≤ 140737488351232) :
  Calls Try.prog 3 #[.string a0] w fun e w' => e = .returned (.bool true) ∧ Below w.heap.size w w' := by
 obtain ⟨k, h⟩ := P a0 w0
 refine (laws_FnExactReadRecord.calls k a0 true w rfl h).mono ?_
 rintro e w' ⟨rfl, hd⟩
 exact ⟨rfl, hd⟩

end Go.Proofs.Ytnecbkognpponaa.Q
