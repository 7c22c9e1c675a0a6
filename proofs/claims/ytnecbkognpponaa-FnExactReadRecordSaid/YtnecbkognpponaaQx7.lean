/- A Go function as a Lean function, and its contract: for every input the Go code comes to what the Lean function tells. -/
import Derived.Test.YtnecbkognpponaaQT
import Derived.Test.YtnecbkognpponaaQspecl04Take
import Derived.Test.YtnecbkognpponaaQspecReadVar
namespace Go.Proofs.Ytnecbkognpponaa.Q
open Go.RowKit Go.Proofs.YtnecbkognpponaaW.PrintWords Go.Proofs.YtnecbkognpponaaW.PrintLast Go.Proofs.YtnecbkognpponaaW.PrintMore
attribute [local go_sem] max2_int min2_int max_two min_two max_three min_three max_four min_four   -- for this text's walks alone
set_option linter.unusedVariables false
set_option linter.unusedSimpArgs false

/-! ### spec_l04Var: function 39 -/ -- making rounds
def spec_l04Var.f (k : Nat) (s0_0 : ByteArray) (s0_1 : Int) (s0_2 : Bool) : Option (Int × ByteArray × Int × Bool) := (spec_ReadVar.f k s0_0 s0_1).bind fun b => (if s0_2 = true then (some (0, s0_0, s0_1, true)) else (if b.2.2 = true then (some (b.1, s0_0, b.2.1, s0_2)) else (some (0, s0_0, s0_1, true))))
theorem spec_l04Var.mono : ∀ a0 a1 a2 k, LeO (spec_l04Var.f k a0 a1 a2) (spec_l04Var.f (k + 1) a0 a1 a2) := by
 intro a0 a1 a2 k
 unfold spec_l04Var.f
 repeat' first
  | (with_reducible exact spec_ReadVar.mono _ _ _)
  | (with_reducible exact LeO.refl _)
  | (with_reducible refine LeO.ite ?_ ?_)
  | (with_reducible refine LeO.bind ?_ (fun _ => ?_))
set_option maxHeartbeats 8000000 in
set_option maxRecDepth 100000 in
theorem spec_l04Var.calls (k : Nat) (g : Nat) (s0_0 : ByteArray) (s0_1 : Int) (s0_2 : Bool) (r1 : Int) (r2 : ByteArray) (r3 : Int) (r4 : Bool) (w0 w : World) (hI : IsS60 w0 w g s0_0 s0_1 s0_2) (hB : Below w0.heap.size w0 w) (h : spec_l04Var.f k s0_0 s0_1 s0_2 = some (r1, r2, r3, r4)) :
  Calls Try.prog 39 #[.pointer (some ⟨g, 0, none⟩)] w fun e w' => e = .returned (.int .i64 r1) ∧ IsS60 w0 w' g r2 r3 r4 ∧ Below w0.heap.size w0 w' ∧ KeepBut w w' g none := by
 have HI1 := Aside0.mk (IsS60.drew hI)
 have HK1 := Aside0.mk (keep_drew (KeepBut.refl w g none))
 have HB1 := Aside0.mk (below_drew1 hB)
 clear hI hB
 unfold spec_l04Var.f at h
 have H := h
 clear h
 replace H := Option.bind_eq_some_iff.mp H
 obtain ⟨⟨t1, t2, t3⟩, A20, H⟩ := H
 replace H : (if s0_2 = true then (some (0, s0_0, s0_1, true)) else (if t3 = true then (some (t1, s0_0, t2, s0_2)) else (some (0, s0_0, s0_1, true)))) = some (r1, r2, r3, r4) := H
 have A2 := Aside0.mk A20
 clear A20
 have HC := Aside0.mk H
 clear H
 go_enter Try.func39, Try.ntmps39
 go_wp2
 obtain ⟨HG, hg⟩ := HI1.out
 refine start_ (n := 16) (S := fun w' => w'.cell? ⟨g, 0, none⟩ = some (.string s0_0) ∧ w'.cell? ⟨g, 1, none⟩ = some (.int .i64 s0_1)) (ds := []) (bL 16 0) (by kernel_rfl) rfl rfl ⟨cellS60_0 HG, cellS60_1 HG⟩ (fun hHeld => ?_)
 generalize w.drew = w1 at HI1 HB1 HK1 HG hHeld ⊢
 refine pr_ 0 7 (bL 16 1) rfl rfl ?_
 refine pr_ 1 8 (bL 16 3) rfl rfl ?_
 refine pr_ 2 9 (bL 16 7) rfl rfl ?_
 refine take_ (i := 3) (N := some 10) (v := ?_) (a' := ?_) (bL 16 15) rfl rfl (by kernel_rfl) (fun _ _ _ h => h) (Or.inl ⟨by rfl, ?_⟩) hHeld ?_ ?_; rotate_left; (rintro w' ⟨s0, s1⟩; go_simp; with_reducible rfl); rotate_left; (exact put_q)
 refine pr_ 4 11 (bL 16 31) rfl rfl ?_
 refine pr_ 5 12 (bL 16 63) rfl rfl ?_
 refine pr_ 6 13 (bL 16 127) rfl rfl ?_
 refine take_ (i := 7) (N := some 14) (v := ?_) (a' := ?_) (bL 16 255) rfl rfl (by kernel_rfl) (fun _ _ _ h => h) (Or.inl ⟨by rfl, ?_⟩) hHeld ?_ ?_; rotate_left; (rintro w' ⟨s0, s1⟩; go_simp; with_reducible rfl); rotate_left; (exact put_q)
 refine one_ (i := 8) (N := some 15) (bL 16 511) rfl rfl (by kernel_rfl) (by decide) (fun K hK => ?_)
 refine goes_ Try.func82 (by kernel_rfl) rfl #[.string s0_0, .int .i64 s0_1] (by rfl) rfl rfl mp_q ?_
 with_reducible refine (spec_ReadVar.calls k s0_0 s0_1 t1 t2 t3 _ A2.out).mono ?_
 rintro e w2 ⟨rfl, hb⟩
 refine ⟨_, rfl, ?_⟩
 have HI2 := Aside0.mk (IsS60.below HI1.out hb)
 have HB2 := Aside0.mk (HB1.out.trans (hb.mono (Below.size HB1.out)))
 have HK2 := Aside0.mk (HK1.out.trans (KeepBut.of_below hb g none) (.inl rfl))
 obtain ⟨HG2, hg2⟩ := HI2.out
 clear HI1 HB1 HK1 HG hb
 refine hK.out _ _ ⟨cellS60_0 HG2, cellS60_1 HG2⟩ (fun hHeld => ?_)
 clear hK K
 refine norm_ (a' := ?_) ?_ ?_; rotate_left; (show Act.put _ (some 15) _ = _; simp only [Act.put, List.setIfInBounds_toArray, List.set_cons_zero, List.set_cons_succ, i64_w, i32_w]; rfl)
 refine pr_ 9 6 (bL 16 1023) rfl rfl ?_
 refine pr_ 10 16 (bL 16 2047) rfl rfl ?_
 refine pr_ 11 17 (bL 16 4095) rfl rfl ?_
 refine pr_ 12 18 (bL 16 8191) rfl rfl ?_
 refine pr_ 13 3 (bL 16 16383) rfl rfl ?_
 refine pr_ 14 4 (bL 16 32767) rfl rfl ?_
 refine pr_ 15 5 (bL 16 65535) rfl rfl ?_
 refine done_ (by kernel_rfl) ?_
 have H := HC.out
 clear HC
 by_cases c3 : s0_2 = true
 ·subst c3
  rw [if_pos rfl] at H
  simp only [Option.some.injEq, Prod.mk.injEq] at H
  obtain ⟨rfl, rfl, rfl, rfl⟩ := H
  have hcz_0 := cellS60_0 HG2
  have hcz_1 := cellS60_1 HG2
  have hcz_2 := cellS60_2 HG2
  have hfz_0 := blk_frozen HG2 0
  have hfz_1 := blk_frozen HG2 1
  have hfz_2 := blk_frozen HG2 2
  clear HG2 hg2 hHeld
  go_wp2
  repeat (go_quiet (fail); try go_wp2)
  go_ret
  exact ⟨er_q, by repeat (first | (with_reducible first | exact HI2.out | apply IsS60.alloc | apply IsS60.drewN | apply IsS60.drew | apply IsS60.set_0 | apply IsS60.set_1 | apply IsS60.set_2) | exact HI2.out), by repeat (first | (with_reducible first | exact HB2.out | apply below_alloc | apply pw_below_drewN | apply below_drew1 | refine below_set ?_ (IsS60.ge HI2.out)) | exact HB2.out), by repeat (first | (with_reducible first | exact HK2.out | apply KeepBut.set_ | apply keep_drewN | apply keep_drew | apply keep_alloc) | exact HK2.out)⟩
 ·replace c3 := Bool.eq_false_iff.mpr c3
  subst c3
  rw [if_neg (show ¬ (false = true) by decide)] at H
  by_cases c9 : t3 = true
  ·subst c9
   rw [if_pos rfl] at H
   simp only [Option.some.injEq, Prod.mk.injEq] at H
   obtain ⟨rfl, rfl, rfl, rfl⟩ := H
   have hcz_0 := cellS60_0 HG2
   have hcz_1 := cellS60_1 HG2
   have hcz_2 := cellS60_2 HG2
   have hfz_0 := blk_frozen HG2 0
   have hfz_1 := blk_frozen HG2 1
   have hfz_2 := blk_frozen HG2 2
   clear HG2 hg2 hHeld
   go_wp2
   repeat (go_quiet (fail); try go_wp2)
   go_ret
   exact ⟨er_q, by repeat (first | (with_reducible first | exact HI2.out | apply IsS60.alloc | apply IsS60.drewN | apply IsS60.drew | apply IsS60.set_0 | apply IsS60.set_1 | apply IsS60.set_2) | exact HI2.out), by repeat (first | (with_reducible first | exact HB2.out | apply below_alloc | apply pw_below_drewN | apply below_drew1 | refine below_set ?_ (IsS60.ge HI2.out)) | exact HB2.out), by repeat (first | (with_reducible first | exact HK2.out | apply KeepBut.set_ | apply keep_drewN | apply keep_drew | apply keep_alloc) | exact HK2.out)⟩
  ·replace c9 := Bool.eq_false_iff.mpr c9
   subst c9
   rw [if_neg (show ¬ (false = true) by decide)] at H
   simp only [Option.some.injEq, Prod.mk.injEq] at H
   obtain ⟨rfl, rfl, rfl, rfl⟩ := H
   have hcz_0 := cellS60_0 HG2
   have hcz_1 := cellS60_1 HG2
   have hcz_2 := cellS60_2 HG2
   have hfz_0 := blk_frozen HG2 0
   have hfz_1 := blk_frozen HG2 1
   have hfz_2 := blk_frozen HG2 2
   clear HG2 hg2 hHeld
   go_wp2
   repeat (go_quiet (fail); try go_wp2)
   go_ret
   exact ⟨er_q, by repeat (first | (with_reducible first | exact HI2.out | apply IsS60.alloc | apply IsS60.drewN | apply IsS60.drew | apply IsS60.set_0 | apply IsS60.set_1 | apply IsS60.set_2) | exact HI2.out), by repeat (first | (with_reducible first | exact HB2.out | apply below_alloc | apply pw_below_drewN | apply below_drew1 | refine below_set ?_ (IsS60.ge HI2.out)) | exact HB2.out), by repeat (first | (with_reducible first | exact HK2.out | apply KeepBut.set_ | apply keep_drewN | apply keep_drew | apply keep_alloc) | exact HK2.out)⟩

end Go.Proofs.Ytnecbkognpponaa.Q
