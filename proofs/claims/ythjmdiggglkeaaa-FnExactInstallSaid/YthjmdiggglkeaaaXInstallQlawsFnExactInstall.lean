import Derived.Test.YthjmdiggglkeaaaXInstallQlawstoNearS
import Derived.Test.YthjmdiggglkeaaaXInstallQspecl04Near
import Derived.Test.YthjmdiggglkeaaaXInstallQimplBefore
import Derived.Test.YthjmdiggglkeaaaXInstallQimplInstall
import Derived.Test.YthjmdiggglkeaaaXInstallQlawsmarkNearS
import Derived.Test.YthjmdiggglkeaaaXInstallQlawsheldRecordS
/- A Go function as a Lean function, and its contract: for every input the Go code comes to what the Lean function tells. -/












namespace Go.Proofs.Ythjmdiggglkeaaa.Q
open Go.RowKit Go.Proofs.YthjmdiggglkeaaaW.PrintWords Go.Proofs.YthjmdiggglkeaaaW.PrintLast Go.Proofs.YthjmdiggglkeaaaW.PrintMore
attribute [local go_sem] max2_int min2_int max_two min_two max_three min_three max_four min_four   -- for this text's walks alone
set_option linter.unusedVariables false
set_option linter.unusedSimpArgs false

/-! ### laws_FnExactInstall: function 7 -/
def laws_FnExactInstall.f (k : Nat) (l0 : List (S57)) (a1_0 : Int) (a1_1 : Int) (a1_2 : Int) (a1_3 : Int) (a1_4 : Int) (l1_5 : List (S141)) (a1_6 : Int) (a1_7 : Bool) : Option (Bool) := (laws_szRecordS.f k l0 1048576).bind fun t2 => (if t2 < 0 then (some true) else ((laws_szRecord.f a1_0 a1_1 a1_2 a1_3 a1_4 l1_5 a1_6 a1_7 t2).bind fun t3 => (if t3 < 0 then (some true) else ((laws_toRecordS.f k l0).bind fun t4 => ((laws_toRecord.f k a1_0 a1_1 a1_2 a1_3 a1_4 l1_5 a1_6 a1_7).bind fun bt9 => ((spec_Install.f k t4 bt9.1 bt9.2.1 bt9.2.2.1 bt9.2.2.2.1 bt9.2.2.2.2.1 bt9.2.2.2.2.2.1 bt9.2.2.2.2.2.2.1 bt9.2.2.2.2.2.2.2).bind fun bt21 => ((laws_toRecordS.f k l0).bind fun t27 => ((laws_toRecord.f k a1_0 a1_1 a1_2 a1_3 a1_4 l1_5 a1_6 a1_7).bind fun bt32 => ((impl_Install.f k t27 bt32.1 bt32.2.1 bt32.2.2.1 bt32.2.2.2.1 bt32.2.2.2.2.1 bt32.2.2.2.2.2.1 bt32.2.2.2.2.2.2.1 bt32.2.2.2.2.2.2.2).bind fun bt45 => ((laws_eqRecordS.f k bt45.1 bt21.1).bind fun t51 => (if t51 = true then (if (bt45.2 != bt21.2) = true then (some false) else ((laws_toRecordS.f k l0).bind fun t52 => ((laws_eqRecordS.f k t27 t52).bind fun t57 => (if t57 = true then ((laws_toRecord.f k a1_0 a1_1 a1_2 a1_3 a1_4 l1_5 a1_6 a1_7).bind fun bt58 => ((laws_eqRecord.f k bt32.1 bt32.2.1 bt32.2.2.1 bt32.2.2.2.1 bt32.2.2.2.2.1 bt32.2.2.2.2.2.1 bt32.2.2.2.2.2.2.1 bt32.2.2.2.2.2.2.2 bt58.1 bt58.2.1 bt58.2.2.1 bt58.2.2.2.1 bt58.2.2.2.2.1 bt58.2.2.2.2.2.1 bt58.2.2.2.2.2.2.1 bt58.2.2.2.2.2.2.2).bind fun t70 => (if t70 = true then ((laws_markRecordS.f k t27 1).bind fun bt71 => ((laws_markRecord.f k bt32.1 bt32.2.1 bt32.2.2.1 bt32.2.2.2.1 bt32.2.2.2.2.1 bt32.2.2.2.2.2.1 bt32.2.2.2.2.2.2.1 bt32.2.2.2.2.2.2.2 bt71.1).bind fun bt73 => (if bt73.1 < 0 then (some false) else ((laws_eqRecordS.f k bt45.1 bt21.1).bind fun t75 => (if t75 = true then (if (bt45.2 != bt21.2) = true then (some false) else ((laws_markRecordS.f k bt45.1 1).bind fun bt76 => ((laws_heldRecordS.f k bt76.2 1).bind fun t78 => (if t78 < 0 then (some false) else (if t78 = bt76.1 then ((laws_toRecordS.f k l0).bind fun t79 => ((laws_toRecord.f k a1_0 a1_1 a1_2 a1_3 a1_4 l1_5 a1_6 a1_7).bind fun bt84 => ((impl_Install.f k t79 bt84.1 bt84.2.1 bt84.2.2.1 bt84.2.2.2.1 bt84.2.2.2.2.1 bt84.2.2.2.2.2.1 bt84.2.2.2.2.2.2.1 bt84.2.2.2.2.2.2.2).bind fun bt96 => ((laws_eqRecordS.f k bt96.1 bt21.1).bind fun t102 => (if t102 = true then (if (bt96.2 != bt21.2) = true then (some false) else ((laws_heldRecordS.f k bt76.2 1).bind fun t103 => (if t103 < 0 then (some false) else (if t103 = bt76.1 then (some true) else (some false))))) else (some false)))))) else (some false)))))) else (some false)))))) else (some false)))) else (some false))))) else (some false))))))))))))
/-- What a call makes is new since a step before it, and no newer than its end. -/
theorem laws_FnExactInstall.newS {α : Type} {d : Kd α} {e b n : Nat} {w1 W : World} {v : Value} {xs : List α} (ho : Kd.S d e w1 W.heap.size (fun _ => True) v xs) (h1 : b ≤ n) (h2 : n ≤ W.heap.size) : Kd.S d e w1 b (fun k => n ≤ k ∧ k < w1.heap.size) v xs :=
 Kd.S_lower (Kd.S_mono (Kd.S_bound ho) (fun k hk => ⟨Nat.le_trans h2 hk.2.1, hk.2.2.1⟩)) (Nat.le_trans h1 h2)
theorem laws_FnExactInstall.newR {α : Type} {d : Kd α} {e b n : Nat} {w1 W : World} {v : Value} {xs : List α} (ho : d.R e w1 W.heap.size (fun _ => True) v xs) (h1 : b ≤ n) (h2 : n ≤ W.heap.size) : d.R e w1 b (fun k => n ≤ k ∧ k < w1.heap.size) v xs :=
 Kd.R_lower (Kd.R_mono (Kd.R_bound ho) (fun k hk => ⟨Nat.le_trans h2 hk.2.1, hk.2.2.1⟩)) (Nat.le_trans h1 h2)
theorem laws_FnExactInstall.sameR {α : Type} {d : Kd α} {e b : Nat} {W W1 : World} {ok ok1 : Nat → Prop} {v : Value} {xs ys : List α} (h0 : d.R e W b ok v xs) (h1 : d.R e W1 b ok1 v ys) (hE : d.E = []) : d.R e W1 b ok v ys := Kd.R_mono (Kd.R_tight hE h1) (fun k hk => h0.1 k hk.symm)
theorem laws_FnExactInstall.value_box {P : Program} {ops : Array Oper} {Q : Exit → Act → World → Prop} {oi : Oper} {N : Option Tmp} {a : Act} {W : World} {K : Act → World → Prop} {cs : Array Value} {t : TypeId} (hw : Region.wanted oi (yielded ops a.tmps) = true) (hN : oi.dst = N)
  (hrun : (execOp a.eval oi).run P W = .ok (.value (.pointer (some ⟨W.heap.size, 0, none⟩))) (W.alloc (.cells cs t (0, 0))))
  (h : ∀ g, g = W.heap.size → ∀ w1, w1.heap[g]? = some (.cells cs t (0, 0)) → Below W.heap.size W w1 → K (a.put N (.pointer (some ⟨g, 0, none⟩))) w1) : if Region.wanted oi (yielded ops a.tmps) = true then Oper.wp P oi a W K Q else K (a.put N undef) W :=
 value_ hw hN hrun (h _ rfl _ (blk_new W _) (below_alloc (Below.refl _ _) _))
theorem laws_FnExactInstall.skip_box {P : Program} {ops : Array Oper} {Q : Exit → Act → World → Prop} {oi : Oper} {a : Act} {W w1 : World} {K : Act → World → Prop} (hw : Region.wanted oi (yielded ops a.tmps) = true) (hN : oi.dst = none)
  (hrun : (execOp a.eval oi).run P W = .ok .skip w1) (h : ∀ w2, w2 = w1 → K a w2) : if Region.wanted oi (yielded ops a.tmps) = true then Oper.wp P oi a W K Q else K (a.put none undef) W := skip_ hw hN hrun (h _ rfl)
theorem laws_FnExactInstall.sameS {α : Type} {d : Kd α} {e b : Nat} {W1 : World} {ok : Nat → Prop} {v : Value} {ys : List α} (h1 : Kd.S d e W1 b ok v ys) : Kd.S d e W1 b ok v ys := h1
set_option maxHeartbeats 60000000 in
set_option maxRecDepth 100000 in
theorem laws_FnExactInstall.calls (k : Nat) (A0 : Option Addr) (c0 : Nat) (l0 : List (S57)) (a1_0 : Int) (a1_1 : Int) (a1_2 : Int) (a1_3 : Int) (a1_4 : Int) (A1_5 : Option Addr) (c1_5 : Nat) (l1_5 : List (S141)) (a1_6 : Int) (a1_7 : Bool) (r : Bool) (w : World) (hr0 : Kd.C k57 w A0 l0.length l0) (hc0 : l0.length ≤ c0) (hr1_5 : Kd.C k141 w A1_5 l1_5.length l1_5) (hc1_5 : l1_5.length ≤ c1_5) (hr_ : r = true) (h : laws_FnExactInstall.f k l0 a1_0 a1_1 a1_2 a1_3 a1_4 l1_5 a1_6 a1_7 = some r) :
  Calls Try.prog 7 #[.slice A0 l0.length c0, .agg #[.int .i64 a1_0, .int .i64 a1_1, .int .i64 a1_2, .int .i64 a1_3, .int .i64 a1_4, .slice A1_5 l1_5.length c1_5, .int .i64 a1_6, .bool a1_7]] w fun e w' => e = .returned (.bool r) ∧ Below w.heap.size w w' := by
 have HR0 := Aside0.mk hr0
 have HC0 := Aside0.mk hc0
 have HR1_5 := Aside0.mk hr1_5
 have HC1_5 := Aside0.mk hc1_5
 clear hr0 hc0 hr1_5 hc1_5
 have HB := Aside0.mk (Below.refl w.heap.size w)
 unfold laws_FnExactInstall.f at h
 have H := h
 clear h
 replace H := Option.bind_eq_some_iff.mp H
 obtain ⟨t2, EQ1, H⟩ := H
 (try dsimp only at H)
 have EQ1 := Aside0.mk EQ1
 by_cases cd2 : t2 < 0
 ·rw [if_pos cd2] at H
  have cd2b0 : decide (t2 < 0) = true := decide_eq_true cd2
  obtain rfl := Option.some.inj H
  go_enter Try.func7, Try.ntmps7
  go_wp2_with (first | ((with_reducible refine gate_dst (N := 3) rfl ?_); refine box_q 3 #[.int .i64 a1_0, .int .i64 a1_1, .int .i64 a1_2, .int .i64 a1_3, .int .i64 a1_4, .slice A1_5 l1_5.length c1_5, .int .i64 a1_6, .bool a1_7] 57 ?_; intro gb1 hg w1 hbox hb; have BKgb1 := Aside0.mk (hbox); have GLgb1 := Aside0.mk ((by rw [hg]; exact Nat.le_refl _ : w.heap.size ≤ gb1)); have GHgb1 := Aside0.mk ((blk_lt hbox : gb1 < w1.heap.size)); have GEgb1 := Aside0.mk ((by rw [hg]; exact below_size (bw_q HB) : w.heap.size ≤ gb1)); have NL1 := Aside0.mk ((hb.size : w.heap.size ≤ w1.heap.size)); replace HB := Aside0.mk (below_step (bw_q HB) hb); (try clear hb); (try clear hk); (try clear hw); (try clear hbox); (try clear hg); have hz0_0 : w1.cell? ⟨gb1, 0, none⟩ = some (.int .i64 a1_0) := (blk_cell BKgb1.out 0).trans rfl; have hy0_0 := blk_frozen BKgb1.out 0; have hz0_1 : w1.cell? ⟨gb1, 1, none⟩ = some (.int .i64 a1_1) := (blk_cell BKgb1.out 1).trans rfl; have hy0_1 := blk_frozen BKgb1.out 1; have hz0_2 : w1.cell? ⟨gb1, 2, none⟩ = some (.int .i64 a1_2) := (blk_cell BKgb1.out 2).trans rfl; have hy0_2 := blk_frozen BKgb1.out 2; have hz0_3 : w1.cell? ⟨gb1, 3, none⟩ = some (.int .i64 a1_3) := (blk_cell BKgb1.out 3).trans rfl; have hy0_3 := blk_frozen BKgb1.out 3; have hz0_4 : w1.cell? ⟨gb1, 4, none⟩ = some (.int .i64 a1_4) := (blk_cell BKgb1.out 4).trans rfl; have hy0_4 := blk_frozen BKgb1.out 4; have hz0_5 : w1.cell? ⟨gb1, 5, none⟩ = some (.slice A1_5 l1_5.length c1_5) := (blk_cell BKgb1.out 5).trans rfl; have hy0_5 := blk_frozen BKgb1.out 5; have hz0_6 : w1.cell? ⟨gb1, 6, none⟩ = some (.int .i64 a1_6) := (blk_cell BKgb1.out 6).trans rfl; have hy0_6 := blk_frozen BKgb1.out 6; have hz0_7 : w1.cell? ⟨gb1, 7, none⟩ = some (.bool a1_7) := (blk_cell BKgb1.out 7).trans rfl; have hy0_7 := blk_frozen BKgb1.out 7) | ((with_reducible refine gate_callee (f := 25) rfl ?_); refine goesL_ (some 19) rfl rfl Try.func25 (by kernel_rfl) rfl #[.slice A0 l0.length c0, .int .i64 1048576] rfl mp_q ?_; (with_reducible refine (laws_szRecordS.calls k A0 c0 l0 1048576 t2 _ ?side1 ?side2 EQ1.out).mono ?_); (case side1 => exact cs_q (Kd.C_below HR0.out HB.out)); (case side2 => exact HC0.out); rintro e_ w2 ⟨rfl, hb⟩; refine ⟨_, rfl, ?_⟩; replace BKgb1 := Aside0.mk (blk_below (g := gb1) (bk_q BKgb1) hb); have NL2 := Aside0.mk ((hb.size : w1.heap.size ≤ w2.heap.size)); replace HB := Aside0.mk (below_step (bw_q HB) hb); (try clear hb); (try clear hk); clear hz0_0 hy0_0 hz0_1 hy0_1 hz0_2 hy0_2 hz0_3 hy0_3 hz0_4 hy0_4 hz0_5 hy0_5 hz0_6 hy0_6 hz0_7 hy0_7; have hl1_gb1_0 : w2.cell? ⟨gb1, 0, none⟩ = some (.int .i64 a1_0) := (blk_cell BKgb1.out 0).trans rfl; have hl1_gb1_1 : w2.cell? ⟨gb1, 1, none⟩ = some (.int .i64 a1_1) := (blk_cell BKgb1.out 1).trans rfl; have hl1_gb1_2 : w2.cell? ⟨gb1, 2, none⟩ = some (.int .i64 a1_2) := (blk_cell BKgb1.out 2).trans rfl; have hl1_gb1_3 : w2.cell? ⟨gb1, 3, none⟩ = some (.int .i64 a1_3) := (blk_cell BKgb1.out 3).trans rfl; have hl1_gb1_4 : w2.cell? ⟨gb1, 4, none⟩ = some (.int .i64 a1_4) := (blk_cell BKgb1.out 4).trans rfl; have hl1_gb1_5 : w2.cell? ⟨gb1, 5, none⟩ = some (.slice A1_5 l1_5.length c1_5) := (blk_cell BKgb1.out 5).trans rfl; have hl1_gb1_6 : w2.cell? ⟨gb1, 6, none⟩ = some (.int .i64 a1_6) := (blk_cell BKgb1.out 6).trans rfl; have hl1_gb1_7 : w2.cell? ⟨gb1, 7, none⟩ = some (.bool a1_7) := (blk_cell BKgb1.out 7).trans rfl))
  go_ret
  exact ⟨er_q, bw_q HB⟩
 ·rw [if_neg cd2] at H
  have cd2b0 : decide (t2 < 0) = false := decide_eq_false cd2
  replace H := Option.bind_eq_some_iff.mp H
  obtain ⟨t3, EQ4, H⟩ := H
  (try dsimp only at H)
  have EQ4 := Aside0.mk EQ4
  by_cases cd5 : t3 < 0
  ·rw [if_pos cd5] at H
   have cd5b0 : decide (t3 < 0) = true := decide_eq_true cd5
   obtain rfl := Option.some.inj H
   go_enter Try.func7, Try.ntmps7
   go_wp2_with (first | ((with_reducible refine gate_dst (N := 3) rfl ?_); refine box_q 3 #[.int .i64 a1_0, .int .i64 a1_1, .int .i64 a1_2, .int .i64 a1_3, .int .i64 a1_4, .slice A1_5 l1_5.length c1_5, .int .i64 a1_6, .bool a1_7] 57 ?_; intro gb1 hg w1 hbox hb; have BKgb1 := Aside0.mk (hbox); have GLgb1 := Aside0.mk ((by rw [hg]; exact Nat.le_refl _ : w.heap.size ≤ gb1)); have GHgb1 := Aside0.mk ((blk_lt hbox : gb1 < w1.heap.size)); have GEgb1 := Aside0.mk ((by rw [hg]; exact below_size (bw_q HB) : w.heap.size ≤ gb1)); have NL1 := Aside0.mk ((hb.size : w.heap.size ≤ w1.heap.size)); replace HB := Aside0.mk (below_step (bw_q HB) hb); (try clear hb); (try clear hk); (try clear hw); (try clear hbox); (try clear hg); have hz0_0 : w1.cell? ⟨gb1, 0, none⟩ = some (.int .i64 a1_0) := (blk_cell BKgb1.out 0).trans rfl; have hy0_0 := blk_frozen BKgb1.out 0; have hz0_1 : w1.cell? ⟨gb1, 1, none⟩ = some (.int .i64 a1_1) := (blk_cell BKgb1.out 1).trans rfl; have hy0_1 := blk_frozen BKgb1.out 1; have hz0_2 : w1.cell? ⟨gb1, 2, none⟩ = some (.int .i64 a1_2) := (blk_cell BKgb1.out 2).trans rfl; have hy0_2 := blk_frozen BKgb1.out 2; have hz0_3 : w1.cell? ⟨gb1, 3, none⟩ = some (.int .i64 a1_3) := (blk_cell BKgb1.out 3).trans rfl; have hy0_3 := blk_frozen BKgb1.out 3; have hz0_4 : w1.cell? ⟨gb1, 4, none⟩ = some (.int .i64 a1_4) := (blk_cell BKgb1.out 4).trans rfl; have hy0_4 := blk_frozen BKgb1.out 4; have hz0_5 : w1.cell? ⟨gb1, 5, none⟩ = some (.slice A1_5 l1_5.length c1_5) := (blk_cell BKgb1.out 5).trans rfl; have hy0_5 := blk_frozen BKgb1.out 5; have hz0_6 : w1.cell? ⟨gb1, 6, none⟩ = some (.int .i64 a1_6) := (blk_cell BKgb1.out 6).trans rfl; have hy0_6 := blk_frozen BKgb1.out 6; have hz0_7 : w1.cell? ⟨gb1, 7, none⟩ = some (.bool a1_7) := (blk_cell BKgb1.out 7).trans rfl; have hy0_7 := blk_frozen BKgb1.out 7) | ((with_reducible refine gate_callee (f := 25) rfl ?_); refine goesL_ (some 19) rfl rfl Try.func25 (by kernel_rfl) rfl #[.slice A0 l0.length c0, .int .i64 1048576] rfl mp_q ?_; (with_reducible refine (laws_szRecordS.calls k A0 c0 l0 1048576 t2 _ ?side1 ?side2 EQ1.out).mono ?_); (case side1 => exact cs_q (Kd.C_below HR0.out HB.out)); (case side2 => exact HC0.out); rintro e_ w2 ⟨rfl, hb⟩; refine ⟨_, rfl, ?_⟩; replace BKgb1 := Aside0.mk (blk_below (g := gb1) (bk_q BKgb1) hb); have NL2 := Aside0.mk ((hb.size : w1.heap.size ≤ w2.heap.size)); replace HB := Aside0.mk (below_step (bw_q HB) hb); (try clear hb); (try clear hk); clear hz0_0 hy0_0 hz0_1 hy0_1 hz0_2 hy0_2 hz0_3 hy0_3 hz0_4 hy0_4 hz0_5 hy0_5 hz0_6 hy0_6 hz0_7 hy0_7; have hl1_gb1_0 : w2.cell? ⟨gb1, 0, none⟩ = some (.int .i64 a1_0) := (blk_cell BKgb1.out 0).trans rfl; have hl1_gb1_1 : w2.cell? ⟨gb1, 1, none⟩ = some (.int .i64 a1_1) := (blk_cell BKgb1.out 1).trans rfl; have hl1_gb1_2 : w2.cell? ⟨gb1, 2, none⟩ = some (.int .i64 a1_2) := (blk_cell BKgb1.out 2).trans rfl; have hl1_gb1_3 : w2.cell? ⟨gb1, 3, none⟩ = some (.int .i64 a1_3) := (blk_cell BKgb1.out 3).trans rfl; have hl1_gb1_4 : w2.cell? ⟨gb1, 4, none⟩ = some (.int .i64 a1_4) := (blk_cell BKgb1.out 4).trans rfl; have hl1_gb1_5 : w2.cell? ⟨gb1, 5, none⟩ = some (.slice A1_5 l1_5.length c1_5) := (blk_cell BKgb1.out 5).trans rfl; have hl1_gb1_6 : w2.cell? ⟨gb1, 6, none⟩ = some (.int .i64 a1_6) := (blk_cell BKgb1.out 6).trans rfl; have hl1_gb1_7 : w2.cell? ⟨gb1, 7, none⟩ = some (.bool a1_7) := (blk_cell BKgb1.out 7).trans rfl) | ((with_reducible refine gate_callee (f := 34) rfl ?_); refine goesL_ (some 24) rfl rfl Try.func34 (by kernel_rfl) rfl #[.agg #[.int .i64 a1_0, .int .i64 a1_1, .int .i64 a1_2, .int .i64 a1_3, .int .i64 a1_4, .slice A1_5 l1_5.length c1_5, .int .i64 a1_6, .bool a1_7], .int .i64 t2] rfl mp_q ?_; (with_reducible refine (laws_szRecord.calls a1_0 a1_1 a1_2 a1_3 a1_4 A1_5 c1_5 l1_5 a1_6 a1_7 t2 t3 _ ?side1 ?side2 EQ4.out).mono ?_); (case side1 => exact cs_q (Kd.C_below HR1_5.out HB.out)); (case side2 => exact HC1_5.out); rintro e_ w3 ⟨rfl, hb⟩; refine ⟨_, rfl, ?_⟩; replace BKgb1 := Aside0.mk (blk_below (g := gb1) (bk_q BKgb1) hb); have NL3 := Aside0.mk ((hb.size : w2.heap.size ≤ w3.heap.size)); replace HB := Aside0.mk (below_step (bw_q HB) hb); (try clear hb); (try clear hk); clear hl1_gb1_0 hl1_gb1_1 hl1_gb1_2 hl1_gb1_3 hl1_gb1_4 hl1_gb1_5 hl1_gb1_6 hl1_gb1_7))
   go_ret
   exact ⟨er_q, bw_q HB⟩
  ·rw [if_neg cd5] at H
   have cd5b0 : decide (t3 < 0) = false := decide_eq_false cd5
   replace H := Option.bind_eq_some_iff.mp H
   obtain ⟨t4, EQ7, H⟩ := H
   (try dsimp only at H)
   have EQ7 := Aside0.mk EQ7
   replace H := Option.bind_eq_some_iff.mp H
   obtain ⟨⟨t9, t10, t11, t12, t13, t14, t15, t16⟩, EQ9, H⟩ := H
   (try dsimp only at H)
   have EQ9 := Aside0.mk EQ9
   replace H := Option.bind_eq_some_iff.mp H
   obtain ⟨⟨t21, t22⟩, EQ10, H⟩ := H
   (try dsimp only at H)
   have EQ10 := Aside0.mk EQ10
   replace H := Option.bind_eq_some_iff.mp H
   obtain ⟨t27, EQ12, H⟩ := H
   (try dsimp only at H)
   have EQ12 := Aside0.mk EQ12
   replace H := Option.bind_eq_some_iff.mp H
   obtain ⟨⟨t32, t33, t34, t35, t36, t37, t38, t39⟩, EQ14, H⟩ := H
   (try dsimp only at H)
   have EQ14 := Aside0.mk EQ14
   replace H := Option.bind_eq_some_iff.mp H
   obtain ⟨⟨t45, t46⟩, EQ18, H⟩ := H
   (try dsimp only at H)
   have EQ18 := Aside0.mk EQ18
   replace H := Option.bind_eq_some_iff.mp H
   obtain ⟨t51, EQ19, H⟩ := H
   (try dsimp only at H)
   have EQ19 := Aside0.mk EQ19
   by_cases cd20 : t51 = true
   ·rw [if_pos cd20] at H
    subst cd20
    by_cases cd21 : (t46 != t22) = true
    ·rw [if_pos cd21] at H
     exact absurd (Option.some.inj H) (by rw [hr_]; decide)
    ·rw [if_neg cd21] at H
     have cd21b : t46 = t22 := by simpa using cd21
     subst cd21b
     replace H := Option.bind_eq_some_iff.mp H
     obtain ⟨t52, EQ22, H⟩ := H
     (try dsimp only at H)
     have EQ22 := Aside0.mk EQ22
     replace H := Option.bind_eq_some_iff.mp H
     obtain ⟨t57, EQ23, H⟩ := H
     (try dsimp only at H)
     have EQ23 := Aside0.mk EQ23
     by_cases cd24 : t57 = true
     ·rw [if_pos cd24] at H
      subst cd24
      replace H := Option.bind_eq_some_iff.mp H
      obtain ⟨⟨t58, t59, t60, t61, t62, t63, t64, t65⟩, EQ28, H⟩ := H
      (try dsimp only at H)
      have EQ28 := Aside0.mk EQ28
      replace H := Option.bind_eq_some_iff.mp H
      obtain ⟨t70, EQ29, H⟩ := H
      (try dsimp only at H)
      have EQ29 := Aside0.mk EQ29
      by_cases cd31 : t70 = true
      ·rw [if_pos cd31] at H
       subst cd31
       replace H := Option.bind_eq_some_iff.mp H
       obtain ⟨⟨t71, t72⟩, EQ32, H⟩ := H
       (try dsimp only at H)
       have EQ32 := Aside0.mk EQ32
       replace H := Option.bind_eq_some_iff.mp H
       obtain ⟨⟨t73, t74⟩, EQ34, H⟩ := H
       (try dsimp only at H)
       have EQ34 := Aside0.mk EQ34
       by_cases cd35 : t73 < 0
       ·rw [if_pos cd35] at H
        exact absurd (Option.some.inj H) (by rw [hr_]; decide)
       ·rw [if_neg cd35] at H
        have cd35b0 : decide (t73 < 0) = false := decide_eq_false cd35
        replace H := Option.bind_eq_some_iff.mp H
        obtain ⟨t75, EQ36, H⟩ := H
        (try dsimp only at H)
        have EQ36 := Aside0.mk EQ36
        by_cases cd37 : t75 = true
        ·rw [if_pos cd37] at H
         subst cd37
         by_cases cd38 : (t46 != t46) = true
         ·rw [if_pos cd38] at H
          exact absurd (Option.some.inj H) (by rw [hr_]; decide)
         ·rw [if_neg cd38] at H
          replace H := Option.bind_eq_some_iff.mp H
          obtain ⟨⟨t76, t77⟩, EQ39, H⟩ := H
          (try dsimp only at H)
          have EQ39 := Aside0.mk EQ39
          replace H := Option.bind_eq_some_iff.mp H
          obtain ⟨t78, EQ40, H⟩ := H
          (try dsimp only at H)
          have EQ40 := Aside0.mk EQ40
          by_cases cd41 : t78 < 0
          ·rw [if_pos cd41] at H
           exact absurd (Option.some.inj H) (by rw [hr_]; decide)
          ·rw [if_neg cd41] at H
           have cd41b0 : decide (t78 < 0) = false := decide_eq_false cd41
           by_cases cd42 : t78 = t76
           ·rw [if_pos cd42] at H
            subst cd42
            replace H := Option.bind_eq_some_iff.mp H
            obtain ⟨t79, EQ44, H⟩ := H
            (try dsimp only at H)
            have EQ44 := Aside0.mk EQ44
            replace H := Option.bind_eq_some_iff.mp H
            obtain ⟨⟨t84, t85, t86, t87, t88, t89, t90, t91⟩, EQ46, H⟩ := H
            (try dsimp only at H)
            have EQ46 := Aside0.mk EQ46
            replace H := Option.bind_eq_some_iff.mp H
            obtain ⟨⟨t96, t97⟩, EQ47, H⟩ := H
            (try dsimp only at H)
            have EQ47 := Aside0.mk EQ47
            replace H := Option.bind_eq_some_iff.mp H
            obtain ⟨t102, EQ49, H⟩ := H
            (try dsimp only at H)
            have EQ49 := Aside0.mk EQ49
            by_cases cd50 : t102 = true
            ·rw [if_pos cd50] at H
             subst cd50
             by_cases cd51 : (t97 != t46) = true
             ·rw [if_pos cd51] at H
              exact absurd (Option.some.inj H) (by rw [hr_]; decide)
             ·rw [if_neg cd51] at H
              have cd51b : t97 = t46 := by simpa using cd51
              subst cd51b
              replace H := Option.bind_eq_some_iff.mp H
              obtain ⟨t103, EQ52, H⟩ := H
              (try dsimp only at H)
              have EQ52 := Aside0.mk EQ52
              by_cases cd53 : t103 < 0
              ·rw [if_pos cd53] at H
               exact absurd (Option.some.inj H) (by rw [hr_]; decide)
              ·rw [if_neg cd53] at H
               have cd53b0 : decide (t103 < 0) = false := decide_eq_false cd53
               by_cases cd54 : t103 = t78
               ·rw [if_pos cd54] at H
                subst cd54
                obtain rfl := Option.some.inj H
                go_enter Try.func7, Try.ntmps7
                go_upto_region 8 with (first | ((with_reducible refine gate_dst (N := 3) rfl ?_); refine box_q 3 #[.int .i64 a1_0, .int .i64 a1_1, .int .i64 a1_2, .int .i64 a1_3, .int .i64 a1_4, .slice A1_5 l1_5.length c1_5, .int .i64 a1_6, .bool a1_7] 57 ?_; intro gb1 hg w1 hbox hb; have BKgb1 := Aside0.mk (hbox); have GLgb1 := Aside0.mk ((by rw [hg]; exact Nat.le_refl _ : w.heap.size ≤ gb1)); have GHgb1 := Aside0.mk ((blk_lt hbox : gb1 < w1.heap.size)); have GEgb1 := Aside0.mk ((by rw [hg]; exact below_size (bw_q HB) : w.heap.size ≤ gb1)); have NL1 := Aside0.mk ((hb.size : w.heap.size ≤ w1.heap.size)); replace HB := Aside0.mk (below_step (bw_q HB) hb); (try clear hb); (try clear hk); (try clear hw); (try clear hbox); (try clear hg); have hz0_0 : w1.cell? ⟨gb1, 0, none⟩ = some (.int .i64 a1_0) := (blk_cell BKgb1.out 0).trans rfl; have hy0_0 := blk_frozen BKgb1.out 0; have hz0_1 : w1.cell? ⟨gb1, 1, none⟩ = some (.int .i64 a1_1) := (blk_cell BKgb1.out 1).trans rfl; have hy0_1 := blk_frozen BKgb1.out 1; have hz0_2 : w1.cell? ⟨gb1, 2, none⟩ = some (.int .i64 a1_2) := (blk_cell BKgb1.out 2).trans rfl; have hy0_2 := blk_frozen BKgb1.out 2; have hz0_3 : w1.cell? ⟨gb1, 3, none⟩ = some (.int .i64 a1_3) := (blk_cell BKgb1.out 3).trans rfl; have hy0_3 := blk_frozen BKgb1.out 3; have hz0_4 : w1.cell? ⟨gb1, 4, none⟩ = some (.int .i64 a1_4) := (blk_cell BKgb1.out 4).trans rfl; have hy0_4 := blk_frozen BKgb1.out 4; have hz0_5 : w1.cell? ⟨gb1, 5, none⟩ = some (.slice A1_5 l1_5.length c1_5) := (blk_cell BKgb1.out 5).trans rfl; have hy0_5 := blk_frozen BKgb1.out 5; have hz0_6 : w1.cell? ⟨gb1, 6, none⟩ = some (.int .i64 a1_6) := (blk_cell BKgb1.out 6).trans rfl; have hy0_6 := blk_frozen BKgb1.out 6; have hz0_7 : w1.cell? ⟨gb1, 7, none⟩ = some (.bool a1_7) := (blk_cell BKgb1.out 7).trans rfl; have hy0_7 := blk_frozen BKgb1.out 7) | ((with_reducible refine gate_callee (f := 25) rfl ?_); refine goesL_ (some 19) rfl rfl Try.func25 (by kernel_rfl) rfl #[.slice A0 l0.length c0, .int .i64 1048576] rfl mp_q ?_; (with_reducible refine (laws_szRecordS.calls k A0 c0 l0 1048576 t2 _ ?side1 ?side2 EQ1.out).mono ?_); (case side1 => exact cs_q (Kd.C_below HR0.out HB.out)); (case side2 => exact HC0.out); rintro e_ w2 ⟨rfl, hb⟩; refine ⟨_, rfl, ?_⟩; replace BKgb1 := Aside0.mk (blk_below (g := gb1) (bk_q BKgb1) hb); have NL2 := Aside0.mk ((hb.size : w1.heap.size ≤ w2.heap.size)); replace HB := Aside0.mk (below_step (bw_q HB) hb); (try clear hb); (try clear hk); clear hz0_0 hy0_0 hz0_1 hy0_1 hz0_2 hy0_2 hz0_3 hy0_3 hz0_4 hy0_4 hz0_5 hy0_5 hz0_6 hy0_6 hz0_7 hy0_7; have hl1_gb1_0 : w2.cell? ⟨gb1, 0, none⟩ = some (.int .i64 a1_0) := (blk_cell BKgb1.out 0).trans rfl; have hl1_gb1_1 : w2.cell? ⟨gb1, 1, none⟩ = some (.int .i64 a1_1) := (blk_cell BKgb1.out 1).trans rfl; have hl1_gb1_2 : w2.cell? ⟨gb1, 2, none⟩ = some (.int .i64 a1_2) := (blk_cell BKgb1.out 2).trans rfl; have hl1_gb1_3 : w2.cell? ⟨gb1, 3, none⟩ = some (.int .i64 a1_3) := (blk_cell BKgb1.out 3).trans rfl; have hl1_gb1_4 : w2.cell? ⟨gb1, 4, none⟩ = some (.int .i64 a1_4) := (blk_cell BKgb1.out 4).trans rfl; have hl1_gb1_5 : w2.cell? ⟨gb1, 5, none⟩ = some (.slice A1_5 l1_5.length c1_5) := (blk_cell BKgb1.out 5).trans rfl; have hl1_gb1_6 : w2.cell? ⟨gb1, 6, none⟩ = some (.int .i64 a1_6) := (blk_cell BKgb1.out 6).trans rfl; have hl1_gb1_7 : w2.cell? ⟨gb1, 7, none⟩ = some (.bool a1_7) := (blk_cell BKgb1.out 7).trans rfl) | ((with_reducible refine gate_callee (f := 34) rfl ?_); refine goesL_ (some 24) rfl rfl Try.func34 (by kernel_rfl) rfl #[.agg #[.int .i64 a1_0, .int .i64 a1_1, .int .i64 a1_2, .int .i64 a1_3, .int .i64 a1_4, .slice A1_5 l1_5.length c1_5, .int .i64 a1_6, .bool a1_7], .int .i64 t2] rfl mp_q ?_; (with_reducible refine (laws_szRecord.calls a1_0 a1_1 a1_2 a1_3 a1_4 A1_5 c1_5 l1_5 a1_6 a1_7 t2 t3 _ ?side1 ?side2 EQ4.out).mono ?_); (case side1 => exact cs_q (Kd.C_below HR1_5.out HB.out)); (case side2 => exact HC1_5.out); rintro e_ w3 ⟨rfl, hb⟩; refine ⟨_, rfl, ?_⟩; replace BKgb1 := Aside0.mk (blk_below (g := gb1) (bk_q BKgb1) hb); have NL3 := Aside0.mk ((hb.size : w2.heap.size ≤ w3.heap.size)); replace HB := Aside0.mk (below_step (bw_q HB) hb); (try clear hb); (try clear hk); clear hl1_gb1_0 hl1_gb1_1 hl1_gb1_2 hl1_gb1_3 hl1_gb1_4 hl1_gb1_5 hl1_gb1_6 hl1_gb1_7))
                replace BKgb1 := Aside0.mk (blk_drew BKgb1.out)
                replace HB := Aside0.mk (below_drew1 HB.out)
                have NL4 := Aside0.mk (show w3.heap.size ≤ w3.drew.heap.size from Nat.le_refl _)
                refine start_ (n := 10) (S := fun w' => w'.cell? ⟨gb1, 0, none⟩ = some (.int .i64 a1_0) ∧ w'.cell? ⟨gb1, 1, none⟩ = some (.int .i64 a1_1) ∧ w'.cell? ⟨gb1, 2, none⟩ = some (.int .i64 a1_2) ∧ w'.cell? ⟨gb1, 3, none⟩ = some (.int .i64 a1_3) ∧ w'.cell? ⟨gb1, 4, none⟩ = some (.int .i64 a1_4) ∧ w'.cell? ⟨gb1, 5, none⟩ = some (.slice A1_5 l1_5.length c1_5) ∧ w'.cell? ⟨gb1, 6, none⟩ = some (.int .i64 a1_6) ∧ w'.cell? ⟨gb1, 7, none⟩ = some (.bool a1_7)) (ds := []) (bL 10 0) (by kernel_rfl) rfl rfl ⟨(blk_cell BKgb1.out 0).trans rfl, (blk_cell BKgb1.out 1).trans rfl, (blk_cell BKgb1.out 2).trans rfl, (blk_cell BKgb1.out 3).trans rfl, (blk_cell BKgb1.out 4).trans rfl, (blk_cell BKgb1.out 5).trans rfl, (blk_cell BKgb1.out 6).trans rfl, (blk_cell BKgb1.out 7).trans rfl⟩ (fun hHeld => ?_)
                generalize w3.drew = w4 at BKgb1 HB NL4 hHeld ⊢
                refine take_ (i := 2) (N := some 30) (v := ?_) (a' := ?_) (bL 10 4) rfl rfl (by kernel_rfl) (fun _ _ _ h => h) (Or.inl ⟨by rfl, ?_⟩) hHeld ?_ ?_; rotate_left; (rintro w' ⟨s0, s1, s2, s3, s4, s5, s6, s7⟩; go_simp; with_reducible rfl); rotate_left; (exact put_q)
                refine pr_ 0 28 (bL 10 5) rfl rfl ?_
                refine one_ (i := 1) (N := some 29) (bL 10 7) rfl rfl (by kernel_rfl) (by decide) (fun K hK => ?_)
                refine goes_ Try.func27 (by kernel_rfl) rfl #[.slice A0 l0.length c0] (by rfl) rfl rfl mp_q ?_
                (with_reducible refine (laws_toRecordS.calls k A0 c0 l0 t4 _ ?side1 ?side2 EQ7.out).mono ?_)
                (case side1 => exact cs_q (Kd.C_below HR0.out HB.out))
                (case side2 => exact HC0.out)
                rintro e_ w5 ⟨v5, rfl, ho0, hb⟩
                refine ⟨_, rfl, ?_⟩
                replace BKgb1 := Aside0.mk (blk_below (g := gb1) (bk_q BKgb1) hb)
                have NL5 := Aside0.mk ((hb.size : w4.heap.size ≤ w5.heap.size))
                have HO8 := Aside0.mk (laws_FnExactInstall.newS (Kd.S_mono ho0 (fun _ _ => trivial)) (b := w.heap.size) (n := w4.heap.size) (Below.size HB.out) (Nat.le_refl _))
                replace HB := Aside0.mk (below_step (bw_q HB) hb)
                (try clear hb)
                (try clear hk)
                (try clear ho0)
                obtain ⟨Ao6, co7, e_v5⟩ := Kd.S_slice HO8.out
                subst e_v5
                have hl7_gb1_0 : w5.cell? ⟨gb1, 0, none⟩ = some (.int .i64 a1_0) := (blk_cell BKgb1.out 0).trans rfl
                have hl7_gb1_1 : w5.cell? ⟨gb1, 1, none⟩ = some (.int .i64 a1_1) := (blk_cell BKgb1.out 1).trans rfl
                have hl7_gb1_2 : w5.cell? ⟨gb1, 2, none⟩ = some (.int .i64 a1_2) := (blk_cell BKgb1.out 2).trans rfl
                have hl7_gb1_3 : w5.cell? ⟨gb1, 3, none⟩ = some (.int .i64 a1_3) := (blk_cell BKgb1.out 3).trans rfl
                have hl7_gb1_4 : w5.cell? ⟨gb1, 4, none⟩ = some (.int .i64 a1_4) := (blk_cell BKgb1.out 4).trans rfl
                have hl7_gb1_5 : w5.cell? ⟨gb1, 5, none⟩ = some (.slice A1_5 l1_5.length c1_5) := (blk_cell BKgb1.out 5).trans rfl
                have hl7_gb1_6 : w5.cell? ⟨gb1, 6, none⟩ = some (.int .i64 a1_6) := (blk_cell BKgb1.out 6).trans rfl
                have hl7_gb1_7 : w5.cell? ⟨gb1, 7, none⟩ = some (.bool a1_7) := (blk_cell BKgb1.out 7).trans rfl
                refine hK.out _ _ ⟨(blk_cell BKgb1.out 0).trans rfl, (blk_cell BKgb1.out 1).trans rfl, (blk_cell BKgb1.out 2).trans rfl, (blk_cell BKgb1.out 3).trans rfl, (blk_cell BKgb1.out 4).trans rfl, (blk_cell BKgb1.out 5).trans rfl, (blk_cell BKgb1.out 6).trans rfl, (blk_cell BKgb1.out 7).trans rfl⟩ (fun hHeld => ?_)
                clear hK K
                refine norm_ (a' := ?_) ?_ ?_; rotate_left; (show Act.put _ (some 29) _ = _; simp only [Act.put, List.setIfInBounds_toArray, List.set_cons_zero, List.set_cons_succ, i64_w, i32_w]; rfl)
                refine one_ (i := 3) (N := some 31) (bL 10 15) rfl rfl (by kernel_rfl) (by decide) (fun K hK => ?_)
                refine goes_ Try.func36 (by kernel_rfl) rfl #[.agg #[.int .i64 a1_0, .int .i64 a1_1, .int .i64 a1_2, .int .i64 a1_3, .int .i64 a1_4, .slice A1_5 l1_5.length c1_5, .int .i64 a1_6, .bool a1_7]] (by rfl) rfl rfl mp_q ?_
                (with_reducible refine (laws_toRecord.calls k a1_0 a1_1 a1_2 a1_3 a1_4 A1_5 c1_5 l1_5 a1_6 a1_7 t9 t10 t11 t12 t13 t14 t15 t16 _ ?side1 ?side2 EQ9.out).mono ?_)
                (case side1 => exact cs_q (Kd.C_below HR1_5.out HB.out))
                (case side2 => exact HC1_5.out)
                rintro e_ w6 ⟨v17, rfl, ho0, hb⟩
                refine ⟨_, rfl, ?_⟩
                replace HO8 := Aside0.mk (Kd.S_below (kS_q HO8) hb)
                replace BKgb1 := Aside0.mk (blk_below (g := gb1) (bk_q BKgb1) hb)
                have NL6 := Aside0.mk ((hb.size : w5.heap.size ≤ w6.heap.size))
                have HO20 := Aside0.mk (laws_FnExactInstall.newR (Kd.R_mono ho0 (fun _ _ => trivial)) (b := w.heap.size) (n := w5.heap.size) (Below.size HB.out) (Nat.le_refl _))
                replace HB := Aside0.mk (below_step (bw_q HB) hb)
                (try clear hb)
                (try clear hk)
                (try clear ho0)
                obtain ⟨Ao18, co19, e_v17⟩ := Kd.R_slice HO20.out
                subst e_v17
                clear hl7_gb1_0 hl7_gb1_1 hl7_gb1_2 hl7_gb1_3 hl7_gb1_4 hl7_gb1_5 hl7_gb1_6 hl7_gb1_7
                refine hK.out _ _ ⟨(blk_cell BKgb1.out 0).trans rfl, (blk_cell BKgb1.out 1).trans rfl, (blk_cell BKgb1.out 2).trans rfl, (blk_cell BKgb1.out 3).trans rfl, (blk_cell BKgb1.out 4).trans rfl, (blk_cell BKgb1.out 5).trans rfl, (blk_cell BKgb1.out 6).trans rfl, (blk_cell BKgb1.out 7).trans rfl⟩ (fun hHeld => ?_)
                clear hK K
                refine norm_ (a' := ?_) ?_ ?_; rotate_left; (show Act.put _ (some 31) _ = _; simp only [Act.put, List.setIfInBounds_toArray, List.set_cons_zero, List.set_cons_succ, i64_w, i32_w]; rfl)
                refine one_ (i := 4) (N := some 32) (bL 10 31) rfl rfl (by kernel_rfl) (by decide) (fun K hK => ?_)
                refine goes_ Try.func41 (by kernel_rfl) rfl #[.slice Ao6 t4.length co7, .agg #[.int .i64 t9, .int .i64 t10, .int .i64 t11, .int .i64 t12, .int .i64 t13, .slice Ao18 t14.length co19, .int .i64 t15, .bool t16]] (by rfl) rfl rfl mp_q ?_
                (with_reducible refine (spec_Install.calls k Ao6 co7 t4 t9 t10 t11 t12 t13 Ao18 co19 t14 t15 t16 t21 t97 _ ?side1 ?side2 ?side3 ?side4 EQ10.out).mono ?_)
                (case side1 => repeat (first | exact (Kd.S_reads' HO8.out).2.2 | (with_reducible refine Kd.C_alloc ?_ _) | (with_reducible refine Kd.C_drewN ?_ _) | (with_reducible refine Kd.C_drew ?_)))
                (case side2 => exact (by have e_ := Kd.S_reads' HO8.out; exact Nat.le_trans (Nat.le_of_eq e_.1.symm) e_.2.1))
                (case side3 => repeat (first | exact (Kd.R_reads' HO20.out).2.2 | (with_reducible refine Kd.C_alloc ?_ _) | (with_reducible refine Kd.C_drewN ?_ _) | (with_reducible refine Kd.C_drew ?_)))
                (case side4 => exact (by have e_ := Kd.R_reads' HO20.out; exact Nat.le_trans (Nat.le_of_eq e_.1.symm) e_.2.1))
                rintro e_ w7 ⟨v23, rfl, ho0, hb⟩
                refine ⟨_, rfl, ?_⟩
                replace BKgb1 := Aside0.mk (blk_below (g := gb1) (bk_q BKgb1) hb)
                have NL7 := Aside0.mk ((hb.size : w6.heap.size ≤ w7.heap.size))
                have HO26 := Aside0.mk (laws_FnExactInstall.newS (Kd.S_mono ho0 (fun _ _ => trivial)) (b := w.heap.size) (n := w6.heap.size) (Below.size HB.out) (Nat.le_refl _))
                replace HB := Aside0.mk (below_step (bw_q HB) hb)
                clear HO8 HO20
                (try clear hb)
                (try clear hk)
                (try clear ho0)
                obtain ⟨Ao24, co25, e_v23⟩ := Kd.S_slice HO26.out
                subst e_v23
                refine hK.out _ _ ⟨(blk_cell BKgb1.out 0).trans rfl, (blk_cell BKgb1.out 1).trans rfl, (blk_cell BKgb1.out 2).trans rfl, (blk_cell BKgb1.out 3).trans rfl, (blk_cell BKgb1.out 4).trans rfl, (blk_cell BKgb1.out 5).trans rfl, (blk_cell BKgb1.out 6).trans rfl, (blk_cell BKgb1.out 7).trans rfl⟩ (fun hHeld => ?_)
                clear hK K
                refine norm_ (a' := ?_) ?_ ?_; rotate_left; (show Act.put _ (some 32) _ = _; simp only [Act.put, List.setIfInBounds_toArray, List.set_cons_zero, List.set_cons_succ, i64_w, i32_w]; rfl)
                refine pr_ 5 27 (bL 10 63) rfl rfl ?_
                refine pr_ 6 33 (bL 10 127) rfl rfl ?_
                refine pr_ 7 34 (bL 10 255) rfl rfl ?_
                refine pr_ 8 6 (bL 10 511) rfl rfl ?_
                refine pr_ 9 7 (bL 10 1023) rfl rfl ?_
                refine done_ (by kernel_rfl) ?_
                go_upto_region 16 with (first | ((with_reducible refine gate_callee (f := 27) rfl ?_); refine goesL_ (some 36) rfl rfl Try.func27 (by kernel_rfl) rfl #[.slice A0 l0.length c0] rfl mp_q ?_; (with_reducible refine (laws_toRecordS.calls k A0 c0 l0 t27 _ ?side1 ?side2 EQ12.out).mono ?_); (case side1 => exact cs_q (Kd.C_below HR0.out HB.out)); (case side2 => exact HC0.out); rintro e_ w8 ⟨v28, rfl, ho0, hb⟩; refine ⟨_, rfl, ?_⟩; replace HO26 := Aside0.mk (Kd.S_below (kS_q HO26) hb); replace BKgb1 := Aside0.mk (blk_below (g := gb1) (bk_q BKgb1) hb); have NL8 := Aside0.mk ((hb.size : w7.heap.size ≤ w8.heap.size)); have HO31 := Aside0.mk (laws_FnExactInstall.newS (Kd.S_mono ho0 (fun _ _ => trivial)) (b := w.heap.size) (n := w7.heap.size) (Below.size HB.out) (Nat.le_refl _)); replace HB := Aside0.mk (below_step (bw_q HB) hb); (try clear hb); (try clear hk); (try clear ho0); obtain ⟨Ao29, co30, e_v28⟩ := Kd.S_slice HO31.out; subst e_v28; have hl12_gb1_0 : w8.cell? ⟨gb1, 0, none⟩ = some (.int .i64 a1_0) := (blk_cell BKgb1.out 0).trans rfl; have hl12_gb1_1 : w8.cell? ⟨gb1, 1, none⟩ = some (.int .i64 a1_1) := (blk_cell BKgb1.out 1).trans rfl; have hl12_gb1_2 : w8.cell? ⟨gb1, 2, none⟩ = some (.int .i64 a1_2) := (blk_cell BKgb1.out 2).trans rfl; have hl12_gb1_3 : w8.cell? ⟨gb1, 3, none⟩ = some (.int .i64 a1_3) := (blk_cell BKgb1.out 3).trans rfl; have hl12_gb1_4 : w8.cell? ⟨gb1, 4, none⟩ = some (.int .i64 a1_4) := (blk_cell BKgb1.out 4).trans rfl; have hl12_gb1_5 : w8.cell? ⟨gb1, 5, none⟩ = some (.slice A1_5 l1_5.length c1_5) := (blk_cell BKgb1.out 5).trans rfl; have hl12_gb1_6 : w8.cell? ⟨gb1, 6, none⟩ = some (.int .i64 a1_6) := (blk_cell BKgb1.out 6).trans rfl; have hl12_gb1_7 : w8.cell? ⟨gb1, 7, none⟩ = some (.bool a1_7) := (blk_cell BKgb1.out 7).trans rfl) | ((with_reducible refine gate_callee (f := 36) rfl ?_); refine goesL_ (some 38) rfl rfl Try.func36 (by kernel_rfl) rfl #[.agg #[.int .i64 a1_0, .int .i64 a1_1, .int .i64 a1_2, .int .i64 a1_3, .int .i64 a1_4, .slice A1_5 l1_5.length c1_5, .int .i64 a1_6, .bool a1_7]] rfl mp_q ?_; (with_reducible refine (laws_toRecord.calls k a1_0 a1_1 a1_2 a1_3 a1_4 A1_5 c1_5 l1_5 a1_6 a1_7 t32 t33 t34 t35 t36 t37 t38 t39 _ ?side1 ?side2 EQ14.out).mono ?_); (case side1 => exact cs_q (Kd.C_below HR1_5.out HB.out)); (case side2 => exact HC1_5.out); rintro e_ w9 ⟨v40, rfl, ho0, hb⟩; refine ⟨_, rfl, ?_⟩; replace HO26 := Aside0.mk (Kd.S_below (kS_q HO26) hb); replace HO31 := Aside0.mk (Kd.S_below (kS_q HO31) hb); replace BKgb1 := Aside0.mk (blk_below (g := gb1) (bk_q BKgb1) hb); have NL9 := Aside0.mk ((hb.size : w8.heap.size ≤ w9.heap.size)); have HO43 := Aside0.mk (laws_FnExactInstall.newR (Kd.R_mono ho0 (fun _ _ => trivial)) (b := w.heap.size) (n := w8.heap.size) (Below.size HB.out) (Nat.le_refl _)); replace HB := Aside0.mk (below_step (bw_q HB) hb); (try clear hb); (try clear hk); (try clear ho0); obtain ⟨Ao41, co42, e_v40⟩ := Kd.R_slice HO43.out; subst e_v40; clear hl12_gb1_0 hl12_gb1_1 hl12_gb1_2 hl12_gb1_3 hl12_gb1_4 hl12_gb1_5 hl12_gb1_6 hl12_gb1_7) | ((with_reducible refine gate_dst (N := 9) rfl ?_); refine box_q 9 #[.int .i64 0, .int .i64 0, .int .i64 0, .int .i64 0, .int .i64 0, .slice none 0 0, .int .i64 0, .bool false] 61 ?_; intro gb44 hg w10 hbox hb; replace HO26 := Aside0.mk (Kd.S_below (kS_q HO26) hb); replace HO31 := Aside0.mk (Kd.S_below (kS_q HO31) hb); replace HO43 := Aside0.mk (Kd.R_below (kR_q HO43) hb); replace BKgb1 := Aside0.mk (blk_below (g := gb1) (bk_q BKgb1) hb); have BKgb44 := Aside0.mk (hbox); have GLgb44 := Aside0.mk ((by rw [hg]; exact Nat.le_refl _ : w9.heap.size ≤ gb44)); have GHgb44 := Aside0.mk ((blk_lt hbox : gb44 < w10.heap.size)); have GEgb44 := Aside0.mk ((by rw [hg]; exact below_size (bw_q HB) : w.heap.size ≤ gb44)); have NL10 := Aside0.mk ((hb.size : w9.heap.size ≤ w10.heap.size)); replace HB := Aside0.mk (below_step (bw_q HB) hb); (try clear hb); (try clear hk); (try clear hw); (try clear hbox); (try clear hg); have hz15_0 : w10.cell? ⟨gb44, 0, none⟩ = some (.int .i64 0) := (blk_cell BKgb44.out 0).trans rfl; have hy15_0 := blk_frozen BKgb44.out 0; have hz15_1 : w10.cell? ⟨gb44, 1, none⟩ = some (.int .i64 0) := (blk_cell BKgb44.out 1).trans rfl; have hy15_1 := blk_frozen BKgb44.out 1; have hz15_2 : w10.cell? ⟨gb44, 2, none⟩ = some (.int .i64 0) := (blk_cell BKgb44.out 2).trans rfl; have hy15_2 := blk_frozen BKgb44.out 2; have hz15_3 : w10.cell? ⟨gb44, 3, none⟩ = some (.int .i64 0) := (blk_cell BKgb44.out 3).trans rfl; have hy15_3 := blk_frozen BKgb44.out 3; have hz15_4 : w10.cell? ⟨gb44, 4, none⟩ = some (.int .i64 0) := (blk_cell BKgb44.out 4).trans rfl; have hy15_4 := blk_frozen BKgb44.out 4; have hz15_5 : w10.cell? ⟨gb44, 5, none⟩ = some (.slice none 0 0) := (blk_cell BKgb44.out 5).trans rfl; have hy15_5 := blk_frozen BKgb44.out 5; have hz15_6 : w10.cell? ⟨gb44, 6, none⟩ = some (.int .i64 0) := (blk_cell BKgb44.out 6).trans rfl; have hy15_6 := blk_frozen BKgb44.out 6; have hz15_7 : w10.cell? ⟨gb44, 7, none⟩ = some (.bool false) := (blk_cell BKgb44.out 7).trans rfl; have hy15_7 := blk_frozen BKgb44.out 7) | ((with_reducible refine gate_store (t := 61) (p := 9) rfl ?_); refine store_event (t := 61) (p := 9) (v := ?vo_w11) (w1 := ((((((((w10.setCell ⟨gb44, 0, none⟩ (.int .i64 t32)).setCell ⟨gb44, 1, none⟩ (.int .i64 t33)).setCell ⟨gb44, 2, none⟩ (.int .i64 t34)).setCell ⟨gb44, 3, none⟩ (.int .i64 t35)).setCell ⟨gb44, 4, none⟩ (.int .i64 t36)).setCell ⟨gb44, 5, none⟩ (.slice Ao41 t37.length co42)).setCell ⟨gb44, 6, none⟩ (.int .i64 t38)).setCell ⟨gb44, 7, none⟩ (.bool t39))) ?hg ?ho ?hn ?hr ?_; (case ho => rfl); (case hg => rfl); (case hn => rfl); (case hr => first | (go_simp; done) | (go_simp; rfl)); intro w11 hw; have hk : Kept w10 w11 (fun k_ => k_ = gb44) := (by rw [hw]; exact Kept.setCell (Kept.setCell (Kept.setCell (Kept.setCell (Kept.setCell (Kept.setCell (Kept.setCell (Kept.setCell (Kept.refl w10 (fun k_ => k_ = gb44)) (.inl rfl) _) (.inl rfl) _) (.inl rfl) _) (.inl rfl) _) (.inl rfl) _) (.inl rfl) _) (.inl rfl) _) (.inl rfl) _); replace HO26 := Aside0.mk (Kd.S_kept (kS_q HO26) hk (fun k_ h1_ h2_ => by have q0 := NL1.out; have q1 := NL2.out; have q2 := NL3.out; have q3 := NL4.out; have q4 := NL5.out; have q5 := NL6.out; have q6 := NL7.out; have q7 := NL8.out; have q8 := NL9.out; have q9 := NL10.out; have g1 := GLgb44.out; have g2 := GHgb44.out; have a1 := h1_.1; have a2 := h1_.2; have a3 : k_ = gb44 := h2_; omega)); replace HO31 := Aside0.mk (Kd.S_kept (kS_q HO31) hk (fun k_ h1_ h2_ => by have q0 := NL1.out; have q1 := NL2.out; have q2 := NL3.out; have q3 := NL4.out; have q4 := NL5.out; have q5 := NL6.out; have q6 := NL7.out; have q7 := NL8.out; have q8 := NL9.out; have q9 := NL10.out; have g1 := GLgb44.out; have g2 := GHgb44.out; have a1 := h1_.1; have a2 := h1_.2; have a3 : k_ = gb44 := h2_; omega)); replace HO43 := Aside0.mk (Kd.R_kept (kR_q HO43) hk (fun k_ h1_ h2_ => by have q0 := NL1.out; have q1 := NL2.out; have q2 := NL3.out; have q3 := NL4.out; have q4 := NL5.out; have q5 := NL6.out; have q6 := NL7.out; have q7 := NL8.out; have q8 := NL9.out; have q9 := NL10.out; have g1 := GLgb44.out; have g2 := GHgb44.out; have a1 := h1_.1; have a2 := h1_.2; have a3 : k_ = gb44 := h2_; omega)); replace BKgb1 := Aside0.mk (blk_kept (g := gb1) (o := .cells #[.int .i64 a1_0, .int .i64 a1_1, .int .i64 a1_2, .int .i64 a1_3, .int .i64 a1_4, .slice A1_5 l1_5.length c1_5, .int .i64 a1_6, .bool a1_7] 57 (0, 0)) (bk_q BKgb1) hk (fun h2_ => by have a3 : gb1 = gb44 := h2_; have q0 := NL1.out; have q1 := NL2.out; have q2 := NL3.out; have q3 := NL4.out; have q4 := NL5.out; have q5 := NL6.out; have q6 := NL7.out; have q7 := NL8.out; have q8 := NL9.out; have q9 := NL10.out; have g1 := GLgb44.out; have g2 := GHgb44.out; have g3 := GLgb1.out; have g4 := GHgb1.out; omega)); replace BKgb44 := Aside0.mk ((by rw [hw]; exact blk_set (blk_set (blk_set (blk_set (blk_set (blk_set (blk_set (blk_set (BKgb44.out) 0 _) 1 _) 2 _) 3 _) 4 _) 5 _) 6 _) 7 _ : w11.heap[gb44]? = some (.cells #[.int .i64 t32, .int .i64 t33, .int .i64 t34, .int .i64 t35, .int .i64 t36, .slice Ao41 t37.length co42, .int .i64 t38, .bool t39] 61 (0, 0)))); replace HB := Aside0.mk ((by rw [hw]; exact below_set (below_set (below_set (below_set (below_set (below_set (below_set (below_set (HB.out) GEgb44.out) GEgb44.out) GEgb44.out) GEgb44.out) GEgb44.out) GEgb44.out) GEgb44.out) GEgb44.out : Below w.heap.size w w11)); have NL11 := Aside0.mk ((hk.1 : w10.heap.size ≤ w11.heap.size)); (try clear hb); (try clear hk); (try clear hw); (try clear hbox); (try clear hg); clear hz15_0 hy15_0 hz15_1 hy15_1 hz15_2 hy15_2 hz15_3 hy15_3 hz15_4 hy15_4 hz15_5 hy15_5 hz15_6 hy15_6 hz15_7 hy15_7; have hl16_gb44_0 : w11.cell? ⟨gb44, 0, none⟩ = some (.int .i64 t32) := (blk_cell BKgb44.out 0).trans rfl; have hl16_gb44_1 : w11.cell? ⟨gb44, 1, none⟩ = some (.int .i64 t33) := (blk_cell BKgb44.out 1).trans rfl; have hl16_gb44_2 : w11.cell? ⟨gb44, 2, none⟩ = some (.int .i64 t34) := (blk_cell BKgb44.out 2).trans rfl; have hl16_gb44_3 : w11.cell? ⟨gb44, 3, none⟩ = some (.int .i64 t35) := (blk_cell BKgb44.out 3).trans rfl; have hl16_gb44_4 : w11.cell? ⟨gb44, 4, none⟩ = some (.int .i64 t36) := (blk_cell BKgb44.out 4).trans rfl; have hl16_gb44_5 : w11.cell? ⟨gb44, 5, none⟩ = some (.slice Ao41 t37.length co42) := (blk_cell BKgb44.out 5).trans rfl; have hl16_gb44_6 : w11.cell? ⟨gb44, 6, none⟩ = some (.int .i64 t38) := (blk_cell BKgb44.out 6).trans rfl; have hl16_gb44_7 : w11.cell? ⟨gb44, 7, none⟩ = some (.bool t39) := (blk_cell BKgb44.out 7).trans rfl) | ((with_reducible refine gate_callee (f := 42) rfl ?_); refine goesL_ (some 42) rfl rfl Try.func42 (by kernel_rfl) rfl #[.slice Ao29 t27.length co30, .agg #[.int .i64 t32, .int .i64 t33, .int .i64 t34, .int .i64 t35, .int .i64 t36, .slice Ao41 t37.length co42, .int .i64 t38, .bool t39]] rfl mp_q ?_; (with_reducible refine (impl_Install.calls k Ao29 co30 t27 t32 t33 t34 t35 t36 Ao41 co42 t37 t38 t39 t45 t97 _ ?side1 ?side2 ?side3 ?side4 EQ18.out).mono ?_); (case side1 => repeat (first | exact (Kd.S_reads' HO31.out).2.2 | (with_reducible refine Kd.C_alloc ?_ _) | (with_reducible refine Kd.C_drewN ?_ _) | (with_reducible refine Kd.C_drew ?_))); (case side2 => exact (by have e_ := Kd.S_reads' HO31.out; exact Nat.le_trans (Nat.le_of_eq e_.1.symm) e_.2.1)); (case side3 => repeat (first | exact (Kd.R_reads' HO43.out).2.2 | (with_reducible refine Kd.C_alloc ?_ _) | (with_reducible refine Kd.C_drewN ?_ _) | (with_reducible refine Kd.C_drew ?_))); (case side4 => exact (by have e_ := Kd.R_reads' HO43.out; exact Nat.le_trans (Nat.le_of_eq e_.1.symm) e_.2.1)); rintro e_ w12 ⟨v47, rfl, ho0, hb⟩; refine ⟨_, rfl, ?_⟩; replace HO26 := Aside0.mk (Kd.S_below (kS_q HO26) hb); replace HO31 := Aside0.mk (Kd.S_below (kS_q HO31) hb); replace HO43 := Aside0.mk (Kd.R_below (kR_q HO43) hb); replace BKgb1 := Aside0.mk (blk_below (g := gb1) (bk_q BKgb1) hb); replace BKgb44 := Aside0.mk (blk_below (g := gb44) (bk_q BKgb44) hb); have NL12 := Aside0.mk ((hb.size : w11.heap.size ≤ w12.heap.size)); have HO50 := Aside0.mk (laws_FnExactInstall.newS (Kd.S_mono ho0 (fun _ _ => trivial)) (b := w.heap.size) (n := w11.heap.size) (Below.size HB.out) (Nat.le_refl _)); replace HB := Aside0.mk (below_step (bw_q HB) hb); (try clear hb); (try clear hk); (try clear ho0); obtain ⟨Ao48, co49, e_v47⟩ := Kd.S_slice HO50.out; subst e_v47; clear hl16_gb44_0 hl16_gb44_1 hl16_gb44_2 hl16_gb44_3 hl16_gb44_4 hl16_gb44_5 hl16_gb44_6 hl16_gb44_7) | ((with_reducible refine gate_callee (f := 29) rfl ?_); refine goesL_ (some 47) rfl rfl Try.func29 (by kernel_rfl) rfl #[.slice Ao48 t45.length co49, .slice Ao24 t21.length co25] rfl mp_q ?_; (with_reducible refine (laws_eqRecordS.calls k Ao48 co49 t45 Ao24 co25 t21 true _ ?side1 ?side2 ?side3 ?side4 EQ19.out).mono ?_); (case side1 => repeat (first | exact (Kd.S_reads' HO50.out).2.2 | (with_reducible refine Kd.C_alloc ?_ _) | (with_reducible refine Kd.C_drewN ?_ _) | (with_reducible refine Kd.C_drew ?_))); (case side2 => exact (by have e_ := Kd.S_reads' HO50.out; exact Nat.le_trans (Nat.le_of_eq e_.1.symm) e_.2.1)); (case side3 => repeat (first | exact (Kd.S_reads' HO26.out).2.2 | (with_reducible refine Kd.C_alloc ?_ _) | (with_reducible refine Kd.C_drewN ?_ _) | (with_reducible refine Kd.C_drew ?_))); (case side4 => exact (by have e_ := Kd.S_reads' HO26.out; exact Nat.le_trans (Nat.le_of_eq e_.1.symm) e_.2.1)); rintro e_ w13 ⟨rfl, hb⟩; refine ⟨_, rfl, ?_⟩; replace HO26 := Aside0.mk (Kd.S_below (kS_q HO26) hb); replace HO31 := Aside0.mk (Kd.S_below (kS_q HO31) hb); replace HO43 := Aside0.mk (Kd.R_below (kR_q HO43) hb); replace HO50 := Aside0.mk (Kd.S_below (kS_q HO50) hb); replace BKgb1 := Aside0.mk (blk_below (g := gb1) (bk_q BKgb1) hb); replace BKgb44 := Aside0.mk (blk_below (g := gb44) (bk_q BKgb44) hb); have NL13 := Aside0.mk ((hb.size : w12.heap.size ≤ w13.heap.size)); replace HB := Aside0.mk (below_step (bw_q HB) hb); (try clear hb); (try clear hk)) | ((with_reducible refine gate_callee (f := 27) rfl ?_); refine goesL_ (some 56) rfl rfl Try.func27 (by kernel_rfl) rfl #[.slice A0 l0.length c0] rfl mp_q ?_; (with_reducible refine (laws_toRecordS.calls k A0 c0 l0 t52 _ ?side1 ?side2 EQ22.out).mono ?_); (case side1 => exact cs_q (Kd.C_below HR0.out HB.out)); (case side2 => exact HC0.out); rintro e_ w14 ⟨v53, rfl, ho0, hb⟩; refine ⟨_, rfl, ?_⟩; replace HO26 := Aside0.mk (Kd.S_below (kS_q HO26) hb); replace HO31 := Aside0.mk (Kd.S_below (kS_q HO31) hb); replace HO43 := Aside0.mk (Kd.R_below (kR_q HO43) hb); replace HO50 := Aside0.mk (Kd.S_below (kS_q HO50) hb); replace BKgb1 := Aside0.mk (blk_below (g := gb1) (bk_q BKgb1) hb); replace BKgb44 := Aside0.mk (blk_below (g := gb44) (bk_q BKgb44) hb); have NL14 := Aside0.mk ((hb.size : w13.heap.size ≤ w14.heap.size)); have HO56 := Aside0.mk (laws_FnExactInstall.newS (Kd.S_mono ho0 (fun _ _ => trivial)) (b := w.heap.size) (n := w13.heap.size) (Below.size HB.out) (Nat.le_refl _)); replace HB := Aside0.mk (below_step (bw_q HB) hb); (try clear hb); (try clear hk); (try clear ho0); obtain ⟨Ao54, co55, e_v53⟩ := Kd.S_slice HO56.out; subst e_v53) | ((with_reducible refine gate_callee (f := 29) rfl ?_); refine goesL_ (some 57) rfl rfl Try.func29 (by kernel_rfl) rfl #[.slice Ao29 t27.length co30, .slice Ao54 t52.length co55] rfl mp_q ?_; (with_reducible refine (laws_eqRecordS.calls k Ao29 co30 t27 Ao54 co55 t52 true _ ?side1 ?side2 ?side3 ?side4 EQ23.out).mono ?_); (case side1 => repeat (first | exact (Kd.S_reads' HO31.out).2.2 | (with_reducible refine Kd.C_alloc ?_ _) | (with_reducible refine Kd.C_drewN ?_ _) | (with_reducible refine Kd.C_drew ?_))); (case side2 => exact (by have e_ := Kd.S_reads' HO31.out; exact Nat.le_trans (Nat.le_of_eq e_.1.symm) e_.2.1)); (case side3 => repeat (first | exact (Kd.S_reads' HO56.out).2.2 | (with_reducible refine Kd.C_alloc ?_ _) | (with_reducible refine Kd.C_drewN ?_ _) | (with_reducible refine Kd.C_drew ?_))); (case side4 => exact (by have e_ := Kd.S_reads' HO56.out; exact Nat.le_trans (Nat.le_of_eq e_.1.symm) e_.2.1)); rintro e_ w15 ⟨rfl, hb⟩; refine ⟨_, rfl, ?_⟩; replace HO26 := Aside0.mk (Kd.S_below (kS_q HO26) hb); replace HO31 := Aside0.mk (Kd.S_below (kS_q HO31) hb); replace HO43 := Aside0.mk (Kd.R_below (kR_q HO43) hb); replace HO50 := Aside0.mk (Kd.S_below (kS_q HO50) hb); replace BKgb1 := Aside0.mk (blk_below (g := gb1) (bk_q BKgb1) hb); replace BKgb44 := Aside0.mk (blk_below (g := gb44) (bk_q BKgb44) hb); have NL15 := Aside0.mk ((hb.size : w14.heap.size ≤ w15.heap.size)); replace HB := Aside0.mk (below_step (bw_q HB) hb); clear HO56; (try clear hb); (try clear hk); have hl23_gb44_0 : w15.cell? ⟨gb44, 0, none⟩ = some (.int .i64 t32) := (blk_cell BKgb44.out 0).trans rfl; have hl23_gb44_1 : w15.cell? ⟨gb44, 1, none⟩ = some (.int .i64 t33) := (blk_cell BKgb44.out 1).trans rfl; have hl23_gb44_2 : w15.cell? ⟨gb44, 2, none⟩ = some (.int .i64 t34) := (blk_cell BKgb44.out 2).trans rfl; have hl23_gb44_3 : w15.cell? ⟨gb44, 3, none⟩ = some (.int .i64 t35) := (blk_cell BKgb44.out 3).trans rfl; have hl23_gb44_4 : w15.cell? ⟨gb44, 4, none⟩ = some (.int .i64 t36) := (blk_cell BKgb44.out 4).trans rfl; have hl23_gb44_5 : w15.cell? ⟨gb44, 5, none⟩ = some (.slice Ao41 t37.length co42) := (blk_cell BKgb44.out 5).trans rfl; have hl23_gb44_6 : w15.cell? ⟨gb44, 6, none⟩ = some (.int .i64 t38) := (blk_cell BKgb44.out 6).trans rfl; have hl23_gb44_7 : w15.cell? ⟨gb44, 7, none⟩ = some (.bool t39) := (blk_cell BKgb44.out 7).trans rfl; have hl23_gb1_0 : w15.cell? ⟨gb1, 0, none⟩ = some (.int .i64 a1_0) := (blk_cell BKgb1.out 0).trans rfl; have hl23_gb1_1 : w15.cell? ⟨gb1, 1, none⟩ = some (.int .i64 a1_1) := (blk_cell BKgb1.out 1).trans rfl; have hl23_gb1_2 : w15.cell? ⟨gb1, 2, none⟩ = some (.int .i64 a1_2) := (blk_cell BKgb1.out 2).trans rfl; have hl23_gb1_3 : w15.cell? ⟨gb1, 3, none⟩ = some (.int .i64 a1_3) := (blk_cell BKgb1.out 3).trans rfl; have hl23_gb1_4 : w15.cell? ⟨gb1, 4, none⟩ = some (.int .i64 a1_4) := (blk_cell BKgb1.out 4).trans rfl; have hl23_gb1_5 : w15.cell? ⟨gb1, 5, none⟩ = some (.slice A1_5 l1_5.length c1_5) := (blk_cell BKgb1.out 5).trans rfl; have hl23_gb1_6 : w15.cell? ⟨gb1, 6, none⟩ = some (.int .i64 a1_6) := (blk_cell BKgb1.out 6).trans rfl; have hl23_gb1_7 : w15.cell? ⟨gb1, 7, none⟩ = some (.bool a1_7) := (blk_cell BKgb1.out 7).trans rfl))
                replace HO26 := Aside0.mk (Kd.S_drew HO26.out)
                replace HO31 := Aside0.mk (Kd.S_drew HO31.out)
                replace HO43 := Aside0.mk (Kd.R_drew HO43.out)
                replace HO50 := Aside0.mk (Kd.S_drew HO50.out)
                replace BKgb1 := Aside0.mk (blk_drew BKgb1.out)
                replace BKgb44 := Aside0.mk (blk_drew BKgb44.out)
                replace HB := Aside0.mk (below_drew1 HB.out)
                have NL16 := Aside0.mk (show w15.heap.size ≤ w15.drew.heap.size from Nat.le_refl _)
                refine start_ (n := 5) (S := fun w' => w'.cell? ⟨gb44, 0, none⟩ = some (.int .i64 t32) ∧ w'.cell? ⟨gb44, 1, none⟩ = some (.int .i64 t33) ∧ w'.cell? ⟨gb44, 2, none⟩ = some (.int .i64 t34) ∧ w'.cell? ⟨gb44, 3, none⟩ = some (.int .i64 t35) ∧ w'.cell? ⟨gb44, 4, none⟩ = some (.int .i64 t36) ∧ w'.cell? ⟨gb44, 5, none⟩ = some (.slice Ao41 t37.length co42) ∧ w'.cell? ⟨gb44, 6, none⟩ = some (.int .i64 t38) ∧ w'.cell? ⟨gb44, 7, none⟩ = some (.bool t39) ∧ w'.cell? ⟨gb1, 0, none⟩ = some (.int .i64 a1_0) ∧ w'.cell? ⟨gb1, 1, none⟩ = some (.int .i64 a1_1) ∧ w'.cell? ⟨gb1, 2, none⟩ = some (.int .i64 a1_2) ∧ w'.cell? ⟨gb1, 3, none⟩ = some (.int .i64 a1_3) ∧ w'.cell? ⟨gb1, 4, none⟩ = some (.int .i64 a1_4) ∧ w'.cell? ⟨gb1, 5, none⟩ = some (.slice A1_5 l1_5.length c1_5) ∧ w'.cell? ⟨gb1, 6, none⟩ = some (.int .i64 a1_6) ∧ w'.cell? ⟨gb1, 7, none⟩ = some (.bool a1_7)) (ds := []) (bL 5 0) (by kernel_rfl) rfl rfl ⟨(blk_cell BKgb44.out 0).trans rfl, (blk_cell BKgb44.out 1).trans rfl, (blk_cell BKgb44.out 2).trans rfl, (blk_cell BKgb44.out 3).trans rfl, (blk_cell BKgb44.out 4).trans rfl, (blk_cell BKgb44.out 5).trans rfl, (blk_cell BKgb44.out 6).trans rfl, (blk_cell BKgb44.out 7).trans rfl, (blk_cell BKgb1.out 0).trans rfl, (blk_cell BKgb1.out 1).trans rfl, (blk_cell BKgb1.out 2).trans rfl, (blk_cell BKgb1.out 3).trans rfl, (blk_cell BKgb1.out 4).trans rfl, (blk_cell BKgb1.out 5).trans rfl, (blk_cell BKgb1.out 6).trans rfl, (blk_cell BKgb1.out 7).trans rfl⟩ (fun hHeld => ?_)
                generalize w15.drew = w16 at HO26 HO31 HO43 HO50 BKgb1 BKgb44 HB NL16 hHeld ⊢
                refine take_ (i := 0) (N := some 59) (v := ?_) (a' := ?_) (bL 5 1) rfl rfl (by kernel_rfl) (fun _ _ _ h => h) (Or.inl ⟨by rfl, ?_⟩) hHeld ?_ ?_; rotate_left; (rintro w' ⟨s0, s1, s2, s3, s4, s5, s6, s7, s8, s9, s10, s11, s12, s13, s14, s15⟩; go_simp; with_reducible rfl); rotate_left; (exact put_q)
                refine take_ (i := 1) (N := some 60) (v := ?_) (a' := ?_) (bL 5 3) rfl rfl (by kernel_rfl) (fun _ _ _ h => h) (Or.inl ⟨by rfl, ?_⟩) hHeld ?_ ?_; rotate_left; (rintro w' ⟨s0, s1, s2, s3, s4, s5, s6, s7, s8, s9, s10, s11, s12, s13, s14, s15⟩; go_simp; with_reducible rfl); rotate_left; (exact put_q)
                refine one_ (i := 2) (N := some 61) (bL 5 7) rfl rfl (by kernel_rfl) (by decide) (fun K hK => ?_)
                refine goes_ Try.func36 (by kernel_rfl) rfl #[.agg #[.int .i64 a1_0, .int .i64 a1_1, .int .i64 a1_2, .int .i64 a1_3, .int .i64 a1_4, .slice A1_5 l1_5.length c1_5, .int .i64 a1_6, .bool a1_7]] (by rfl) rfl rfl mp_q ?_
                (with_reducible refine (laws_toRecord.calls k a1_0 a1_1 a1_2 a1_3 a1_4 A1_5 c1_5 l1_5 a1_6 a1_7 t58 t59 t60 t61 t62 t63 t64 t65 _ ?side1 ?side2 EQ28.out).mono ?_)
                (case side1 => exact cs_q (Kd.C_below HR1_5.out HB.out))
                (case side2 => exact HC1_5.out)
                rintro e_ w17 ⟨v66, rfl, ho0, hb⟩
                refine ⟨_, rfl, ?_⟩
                replace HO26 := Aside0.mk (Kd.S_below (kS_q HO26) hb)
                replace HO31 := Aside0.mk (Kd.S_below (kS_q HO31) hb)
                replace HO43 := Aside0.mk (Kd.R_below (kR_q HO43) hb)
                replace HO50 := Aside0.mk (Kd.S_below (kS_q HO50) hb)
                replace BKgb1 := Aside0.mk (blk_below (g := gb1) (bk_q BKgb1) hb)
                replace BKgb44 := Aside0.mk (blk_below (g := gb44) (bk_q BKgb44) hb)
                have NL17 := Aside0.mk ((hb.size : w16.heap.size ≤ w17.heap.size))
                have HO69 := Aside0.mk (laws_FnExactInstall.newR (Kd.R_mono ho0 (fun _ _ => trivial)) (b := w.heap.size) (n := w16.heap.size) (Below.size HB.out) (Nat.le_refl _))
                replace HB := Aside0.mk (below_step (bw_q HB) hb)
                (try clear hb)
                (try clear hk)
                (try clear ho0)
                obtain ⟨Ao67, co68, e_v66⟩ := Kd.R_slice HO69.out
                subst e_v66
                clear hl23_gb44_0 hl23_gb44_1 hl23_gb44_2 hl23_gb44_3 hl23_gb44_4 hl23_gb44_5 hl23_gb44_6 hl23_gb44_7 hl23_gb1_0 hl23_gb1_1 hl23_gb1_2 hl23_gb1_3 hl23_gb1_4 hl23_gb1_5 hl23_gb1_6 hl23_gb1_7
                refine hK.out _ _ ⟨(blk_cell BKgb44.out 0).trans rfl, (blk_cell BKgb44.out 1).trans rfl, (blk_cell BKgb44.out 2).trans rfl, (blk_cell BKgb44.out 3).trans rfl, (blk_cell BKgb44.out 4).trans rfl, (blk_cell BKgb44.out 5).trans rfl, (blk_cell BKgb44.out 6).trans rfl, (blk_cell BKgb44.out 7).trans rfl, (blk_cell BKgb1.out 0).trans rfl, (blk_cell BKgb1.out 1).trans rfl, (blk_cell BKgb1.out 2).trans rfl, (blk_cell BKgb1.out 3).trans rfl, (blk_cell BKgb1.out 4).trans rfl, (blk_cell BKgb1.out 5).trans rfl, (blk_cell BKgb1.out 6).trans rfl, (blk_cell BKgb1.out 7).trans rfl⟩ (fun hHeld => ?_)
                clear hK K
                refine norm_ (a' := ?_) ?_ ?_; rotate_left; (show Act.put _ (some 61) _ = _; simp only [Act.put, List.setIfInBounds_toArray, List.set_cons_zero, List.set_cons_succ, i64_w, i32_w]; rfl)
                refine one_ (i := 3) (N := some 62) (bL 5 15) rfl rfl (by kernel_rfl) (by decide) (fun K hK => ?_)
                refine goes_ Try.func38 (by kernel_rfl) rfl #[.agg #[.int .i64 t32, .int .i64 t33, .int .i64 t34, .int .i64 t35, .int .i64 t36, .slice Ao41 t37.length co42, .int .i64 t38, .bool t39], .agg #[.int .i64 t58, .int .i64 t59, .int .i64 t60, .int .i64 t61, .int .i64 t62, .slice Ao67 t63.length co68, .int .i64 t64, .bool t65]] (by rfl) rfl rfl mp_q ?_
                (with_reducible refine (laws_eqRecord.calls k t32 t33 t34 t35 t36 Ao41 co42 t37 t38 t39 t58 t59 t60 t61 t62 Ao67 co68 t63 t64 t65 true _ ?side1 ?side2 ?side3 ?side4 EQ29.out).mono ?_)
                (case side1 => repeat (first | exact (Kd.R_reads' HO43.out).2.2 | (with_reducible refine Kd.C_alloc ?_ _) | (with_reducible refine Kd.C_drewN ?_ _) | (with_reducible refine Kd.C_drew ?_)))
                (case side2 => exact (by have e_ := Kd.R_reads' HO43.out; exact Nat.le_trans (Nat.le_of_eq e_.1.symm) e_.2.1))
                (case side3 => repeat (first | exact (Kd.R_reads' HO69.out).2.2 | (with_reducible refine Kd.C_alloc ?_ _) | (with_reducible refine Kd.C_drewN ?_ _) | (with_reducible refine Kd.C_drew ?_)))
                (case side4 => exact (by have e_ := Kd.R_reads' HO69.out; exact Nat.le_trans (Nat.le_of_eq e_.1.symm) e_.2.1))
                rintro e_ w18 ⟨rfl, hb⟩
                refine ⟨_, rfl, ?_⟩
                replace HO26 := Aside0.mk (Kd.S_below (kS_q HO26) hb)
                replace HO31 := Aside0.mk (Kd.S_below (kS_q HO31) hb)
                replace HO43 := Aside0.mk (Kd.R_below (kR_q HO43) hb)
                replace HO50 := Aside0.mk (Kd.S_below (kS_q HO50) hb)
                replace BKgb1 := Aside0.mk (blk_below (g := gb1) (bk_q BKgb1) hb)
                replace BKgb44 := Aside0.mk (blk_below (g := gb44) (bk_q BKgb44) hb)
                have NL18 := Aside0.mk ((hb.size : w17.heap.size ≤ w18.heap.size))
                replace HB := Aside0.mk (below_step (bw_q HB) hb)
                clear HO69
                (try clear hb)
                (try clear hk)
                refine hK.out _ _ ⟨(blk_cell BKgb44.out 0).trans rfl, (blk_cell BKgb44.out 1).trans rfl, (blk_cell BKgb44.out 2).trans rfl, (blk_cell BKgb44.out 3).trans rfl, (blk_cell BKgb44.out 4).trans rfl, (blk_cell BKgb44.out 5).trans rfl, (blk_cell BKgb44.out 6).trans rfl, (blk_cell BKgb44.out 7).trans rfl, (blk_cell BKgb1.out 0).trans rfl, (blk_cell BKgb1.out 1).trans rfl, (blk_cell BKgb1.out 2).trans rfl, (blk_cell BKgb1.out 3).trans rfl, (blk_cell BKgb1.out 4).trans rfl, (blk_cell BKgb1.out 5).trans rfl, (blk_cell BKgb1.out 6).trans rfl, (blk_cell BKgb1.out 7).trans rfl⟩ (fun hHeld => ?_)
                clear hK K
                refine norm_ (a' := ?_) ?_ ?_; rotate_left; (show Act.put _ (some 62) _ = _; simp only [Act.put, List.setIfInBounds_toArray, List.set_cons_zero, List.set_cons_succ, i64_w, i32_w]; rfl)
                refine pr_ 4 63 (bL 5 31) rfl rfl ?_
                refine done_ (by kernel_rfl) ?_
                go_upto_region 31 with (first | ((with_reducible refine gate_callee (f := 31) rfl ?_); refine goesL_ (some 66) rfl rfl Try.func31 (by kernel_rfl) rfl #[.slice Ao29 t27.length co30, .int .i64 1] rfl mp_q ?_; (with_reducible refine (laws_markRecordS.calls k (fun k_ => w7.heap.size ≤ k_ ∧ k_ < w8.heap.size) (.slice Ao29 t27.length co30) t27 1 t71 t72 w _ ?side1 ?side2 EQ32.out).mono ?_); (case side1 => exact (bw_q HB)); (case side2 => exact (kS_q HO31)); rintro e_ w19 ⟨rfl, hm0, hb, hk⟩; refine ⟨_, rfl, ?_⟩; replace HO26 := Aside0.mk (Kd.S_kept (kS_q HO26) hk (fun k_ h1_ h2_ => by have q0 := NL1.out; have q1 := NL2.out; have q2 := NL3.out; have q3 := NL4.out; have q4 := NL5.out; have q5 := NL6.out; have q6 := NL7.out; have q7 := NL8.out; have q8 := NL9.out; have q9 := NL10.out; have q10 := NL11.out; have q11 := NL12.out; have q12 := NL13.out; have q13 := NL14.out; have q14 := NL15.out; have q15 := NL16.out; have q16 := NL17.out; have q17 := NL18.out; have a1 := h1_.1; have a2 := h1_.2; have a3 := h2_.1; have a4 := h2_.2; omega)); replace HO43 := Aside0.mk (Kd.R_kept (kR_q HO43) hk (fun k_ h1_ h2_ => by have q0 := NL1.out; have q1 := NL2.out; have q2 := NL3.out; have q3 := NL4.out; have q4 := NL5.out; have q5 := NL6.out; have q6 := NL7.out; have q7 := NL8.out; have q8 := NL9.out; have q9 := NL10.out; have q10 := NL11.out; have q11 := NL12.out; have q12 := NL13.out; have q13 := NL14.out; have q14 := NL15.out; have q15 := NL16.out; have q16 := NL17.out; have q17 := NL18.out; have a1 := h1_.1; have a2 := h1_.2; have a3 := h2_.1; have a4 := h2_.2; omega)); replace HO50 := Aside0.mk (Kd.S_kept (kS_q HO50) hk (fun k_ h1_ h2_ => by have q0 := NL1.out; have q1 := NL2.out; have q2 := NL3.out; have q3 := NL4.out; have q4 := NL5.out; have q5 := NL6.out; have q6 := NL7.out; have q7 := NL8.out; have q8 := NL9.out; have q9 := NL10.out; have q10 := NL11.out; have q11 := NL12.out; have q12 := NL13.out; have q13 := NL14.out; have q14 := NL15.out; have q15 := NL16.out; have q16 := NL17.out; have q17 := NL18.out; have a1 := h1_.1; have a2 := h1_.2; have a3 := h2_.1; have a4 := h2_.2; omega)); replace BKgb1 := Aside0.mk (blk_kept (g := gb1) (o := .cells #[.int .i64 a1_0, .int .i64 a1_1, .int .i64 a1_2, .int .i64 a1_3, .int .i64 a1_4, .slice A1_5 l1_5.length c1_5, .int .i64 a1_6, .bool a1_7] 57 (0, 0)) (bk_q BKgb1) hk (fun h2_ => by have q0 := NL1.out; have q1 := NL2.out; have q2 := NL3.out; have q3 := NL4.out; have q4 := NL5.out; have q5 := NL6.out; have q6 := NL7.out; have q7 := NL8.out; have q8 := NL9.out; have q9 := NL10.out; have q10 := NL11.out; have q11 := NL12.out; have q12 := NL13.out; have q13 := NL14.out; have q14 := NL15.out; have q15 := NL16.out; have q16 := NL17.out; have q17 := NL18.out; have g1 := GLgb1.out; have g2 := GHgb1.out; have a3 := h2_.1; have a4 := h2_.2; omega)); replace BKgb44 := Aside0.mk (blk_kept (g := gb44) (o := .cells #[.int .i64 t32, .int .i64 t33, .int .i64 t34, .int .i64 t35, .int .i64 t36, .slice Ao41 t37.length co42, .int .i64 t38, .bool t39] 61 (0, 0)) (bk_q BKgb44) hk (fun h2_ => by have q0 := NL1.out; have q1 := NL2.out; have q2 := NL3.out; have q3 := NL4.out; have q4 := NL5.out; have q5 := NL6.out; have q6 := NL7.out; have q7 := NL8.out; have q8 := NL9.out; have q9 := NL10.out; have q10 := NL11.out; have q11 := NL12.out; have q12 := NL13.out; have q13 := NL14.out; have q14 := NL15.out; have q15 := NL16.out; have q16 := NL17.out; have q17 := NL18.out; have g1 := GLgb44.out; have g2 := GHgb44.out; have a3 := h2_.1; have a4 := h2_.2; omega)); replace HB := Aside0.mk (hb); have NL19 := Aside0.mk ((hk.1 : w18.heap.size ≤ w19.heap.size)); clear HO31; (try clear hb); (try clear hk); (try clear hm0); have hl32_gb44_0 : w19.cell? ⟨gb44, 0, none⟩ = some (.int .i64 t32) := (blk_cell BKgb44.out 0).trans rfl; have hl32_gb44_1 : w19.cell? ⟨gb44, 1, none⟩ = some (.int .i64 t33) := (blk_cell BKgb44.out 1).trans rfl; have hl32_gb44_2 : w19.cell? ⟨gb44, 2, none⟩ = some (.int .i64 t34) := (blk_cell BKgb44.out 2).trans rfl; have hl32_gb44_3 : w19.cell? ⟨gb44, 3, none⟩ = some (.int .i64 t35) := (blk_cell BKgb44.out 3).trans rfl; have hl32_gb44_4 : w19.cell? ⟨gb44, 4, none⟩ = some (.int .i64 t36) := (blk_cell BKgb44.out 4).trans rfl; have hl32_gb44_5 : w19.cell? ⟨gb44, 5, none⟩ = some (.slice Ao41 t37.length co42) := (blk_cell BKgb44.out 5).trans rfl; have hl32_gb44_6 : w19.cell? ⟨gb44, 6, none⟩ = some (.int .i64 t38) := (blk_cell BKgb44.out 6).trans rfl; have hl32_gb44_7 : w19.cell? ⟨gb44, 7, none⟩ = some (.bool t39) := (blk_cell BKgb44.out 7).trans rfl) | ((with_reducible refine gate_callee (f := 39) rfl ?_); refine goesL_ (some 69) rfl rfl Try.func39 (by kernel_rfl) rfl #[.agg #[.int .i64 t32, .int .i64 t33, .int .i64 t34, .int .i64 t35, .int .i64 t36, .slice Ao41 t37.length co42, .int .i64 t38, .bool t39], .int .i64 t71] rfl mp_q ?_; (with_reducible refine (laws_markRecord.calls k t32 t33 t34 t35 t36 (fun k_ => w8.heap.size ≤ k_ ∧ k_ < w9.heap.size) (.slice Ao41 t37.length co42) t37 t38 t39 t71 t73 t74 w _ ?side1 ?side2 EQ34.out).mono ?_); (case side1 => exact (bw_q HB)); (case side2 => exact (kR_q HO43)); rintro e_ w20 ⟨rfl, hm0, hb, hk⟩; refine ⟨_, rfl, ?_⟩; replace HO26 := Aside0.mk (Kd.S_kept (kS_q HO26) hk (fun k_ h1_ h2_ => by have q0 := NL1.out; have q1 := NL2.out; have q2 := NL3.out; have q3 := NL4.out; have q4 := NL5.out; have q5 := NL6.out; have q6 := NL7.out; have q7 := NL8.out; have q8 := NL9.out; have q9 := NL10.out; have q10 := NL11.out; have q11 := NL12.out; have q12 := NL13.out; have q13 := NL14.out; have q14 := NL15.out; have q15 := NL16.out; have q16 := NL17.out; have q17 := NL18.out; have q18 := NL19.out; have a1 := h1_.1; have a2 := h1_.2; have a3 := h2_.1; have a4 := h2_.2; omega)); replace HO50 := Aside0.mk (Kd.S_kept (kS_q HO50) hk (fun k_ h1_ h2_ => by have q0 := NL1.out; have q1 := NL2.out; have q2 := NL3.out; have q3 := NL4.out; have q4 := NL5.out; have q5 := NL6.out; have q6 := NL7.out; have q7 := NL8.out; have q8 := NL9.out; have q9 := NL10.out; have q10 := NL11.out; have q11 := NL12.out; have q12 := NL13.out; have q13 := NL14.out; have q14 := NL15.out; have q15 := NL16.out; have q16 := NL17.out; have q17 := NL18.out; have q18 := NL19.out; have a1 := h1_.1; have a2 := h1_.2; have a3 := h2_.1; have a4 := h2_.2; omega)); replace BKgb1 := Aside0.mk (blk_kept (g := gb1) (o := .cells #[.int .i64 a1_0, .int .i64 a1_1, .int .i64 a1_2, .int .i64 a1_3, .int .i64 a1_4, .slice A1_5 l1_5.length c1_5, .int .i64 a1_6, .bool a1_7] 57 (0, 0)) (bk_q BKgb1) hk (fun h2_ => by have q0 := NL1.out; have q1 := NL2.out; have q2 := NL3.out; have q3 := NL4.out; have q4 := NL5.out; have q5 := NL6.out; have q6 := NL7.out; have q7 := NL8.out; have q8 := NL9.out; have q9 := NL10.out; have q10 := NL11.out; have q11 := NL12.out; have q12 := NL13.out; have q13 := NL14.out; have q14 := NL15.out; have q15 := NL16.out; have q16 := NL17.out; have q17 := NL18.out; have q18 := NL19.out; have g1 := GLgb1.out; have g2 := GHgb1.out; have a3 := h2_.1; have a4 := h2_.2; omega)); replace HB := Aside0.mk (hb); have NL20 := Aside0.mk ((hk.1 : w19.heap.size ≤ w20.heap.size)); clear HO43 BKgb44; (try clear hb); (try clear hk); (try clear hm0); clear hl32_gb44_0 hl32_gb44_1 hl32_gb44_2 hl32_gb44_3 hl32_gb44_4 hl32_gb44_5 hl32_gb44_6 hl32_gb44_7) | ((with_reducible refine gate_callee (f := 29) rfl ?_); (try (refine gate_guard (by rfl) ?_; dsimp only)); refine goesL_ (some 75) rfl rfl Try.func29 (by kernel_rfl) rfl #[.slice Ao48 t45.length co49, .slice Ao24 t21.length co25] rfl mp_q ?_; (with_reducible refine (laws_eqRecordS.calls k Ao48 co49 t45 Ao24 co25 t21 true _ ?side1 ?side2 ?side3 ?side4 EQ36.out).mono ?_); (case side1 => repeat (first | exact (Kd.S_reads' HO50.out).2.2 | (with_reducible refine Kd.C_alloc ?_ _) | (with_reducible refine Kd.C_drewN ?_ _) | (with_reducible refine Kd.C_drew ?_))); (case side2 => exact (by have e_ := Kd.S_reads' HO50.out; exact Nat.le_trans (Nat.le_of_eq e_.1.symm) e_.2.1)); (case side3 => repeat (first | exact (Kd.S_reads' HO26.out).2.2 | (with_reducible refine Kd.C_alloc ?_ _) | (with_reducible refine Kd.C_drewN ?_ _) | (with_reducible refine Kd.C_drew ?_))); (case side4 => exact (by have e_ := Kd.S_reads' HO26.out; exact Nat.le_trans (Nat.le_of_eq e_.1.symm) e_.2.1)); rintro e_ w21 ⟨rfl, hb⟩; refine ⟨_, rfl, ?_⟩; replace HO26 := Aside0.mk (Kd.S_below (kS_q HO26) hb); replace HO50 := Aside0.mk (Kd.S_below (kS_q HO50) hb); replace BKgb1 := Aside0.mk (blk_below (g := gb1) (bk_q BKgb1) hb); have NL21 := Aside0.mk ((hb.size : w20.heap.size ≤ w21.heap.size)); replace HB := Aside0.mk (below_step (bw_q HB) hb); (try clear hb); (try clear hk)) | ((with_reducible refine gate_callee (f := 31) rfl ?_); refine goesL_ (some 85) rfl rfl Try.func31 (by kernel_rfl) rfl #[.slice Ao48 t45.length co49, .int .i64 1] rfl mp_q ?_; (with_reducible refine (laws_markRecordS.calls k (fun k_ => w11.heap.size ≤ k_ ∧ k_ < w12.heap.size) (.slice Ao48 t45.length co49) t45 1 t103 t77 w _ ?side1 ?side2 EQ39.out).mono ?_); (case side1 => exact (bw_q HB)); (case side2 => exact (kS_q HO50)); rintro e_ w22 ⟨rfl, hm0, hb, hk⟩; refine ⟨_, rfl, ?_⟩; replace HO26 := Aside0.mk (Kd.S_kept (kS_q HO26) hk (fun k_ h1_ h2_ => by have q0 := NL1.out; have q1 := NL2.out; have q2 := NL3.out; have q3 := NL4.out; have q4 := NL5.out; have q5 := NL6.out; have q6 := NL7.out; have q7 := NL8.out; have q8 := NL9.out; have q9 := NL10.out; have q10 := NL11.out; have q11 := NL12.out; have q12 := NL13.out; have q13 := NL14.out; have q14 := NL15.out; have q15 := NL16.out; have q16 := NL17.out; have q17 := NL18.out; have q18 := NL19.out; have q19 := NL20.out; have q20 := NL21.out; have a1 := h1_.1; have a2 := h1_.2; have a3 := h2_.1; have a4 := h2_.2; omega)); replace HO50 := Aside0.mk (laws_FnExactInstall.sameS hm0); replace BKgb1 := Aside0.mk (blk_kept (g := gb1) (o := .cells #[.int .i64 a1_0, .int .i64 a1_1, .int .i64 a1_2, .int .i64 a1_3, .int .i64 a1_4, .slice A1_5 l1_5.length c1_5, .int .i64 a1_6, .bool a1_7] 57 (0, 0)) (bk_q BKgb1) hk (fun h2_ => by have q0 := NL1.out; have q1 := NL2.out; have q2 := NL3.out; have q3 := NL4.out; have q4 := NL5.out; have q5 := NL6.out; have q6 := NL7.out; have q7 := NL8.out; have q8 := NL9.out; have q9 := NL10.out; have q10 := NL11.out; have q11 := NL12.out; have q12 := NL13.out; have q13 := NL14.out; have q14 := NL15.out; have q15 := NL16.out; have q16 := NL17.out; have q17 := NL18.out; have q18 := NL19.out; have q19 := NL20.out; have q20 := NL21.out; have g1 := GLgb1.out; have g2 := GHgb1.out; have a3 := h2_.1; have a4 := h2_.2; omega)); replace HB := Aside0.mk (hb); have NL22 := Aside0.mk ((hk.1 : w21.heap.size ≤ w22.heap.size)); (try clear hb); (try clear hk); (try clear hm0)) | ((with_reducible refine gate_callee (f := 33) rfl ?_); refine goesL_ (some 88) rfl rfl Try.func33 (by kernel_rfl) rfl #[.slice Ao48 t77.length co49, .int .i64 1] rfl (by (try simp only [List.map_toArray, List.map_cons, List.map_nil]); first | done | rfl | (rw [show t77.length = t45.length from (Kd.S_reads' HO50.out).1.symm] <;> rfl) | (simp only [List.length_drop, List.length_take]; rfl)) ?_; (with_reducible refine (laws_heldRecordS.calls k Ao48 co49 t77 1 t103 _ ?side1 ?side2 EQ40.out).mono ?_); (case side1 => repeat (first | exact (Kd.S_reads' HO50.out).2.2 | (with_reducible refine Kd.C_alloc ?_ _) | (with_reducible refine Kd.C_drewN ?_ _) | (with_reducible refine Kd.C_drew ?_))); (case side2 => exact (by have e_ := Kd.S_reads' HO50.out; exact Nat.le_trans (Nat.le_of_eq e_.1.symm) e_.2.1)); rintro e_ w23 ⟨rfl, hb⟩; refine ⟨_, rfl, ?_⟩; replace hb := Drawn0.below hb; replace HO26 := Aside0.mk (Kd.S_below (kS_q HO26) hb); replace HO50 := Aside0.mk (Kd.S_below (kS_q HO50) hb); replace BKgb1 := Aside0.mk (blk_below (g := gb1) (bk_q BKgb1) hb); have NL23 := Aside0.mk ((hb.size : w22.heap.size ≤ w23.heap.size)); replace HB := Aside0.mk (below_step (bw_q HB) hb); (try clear hb); (try clear hk)))
                replace HO26 := Aside0.mk (Kd.S_drew HO26.out)
                replace HO50 := Aside0.mk (Kd.S_drew HO50.out)
                replace BKgb1 := Aside0.mk (blk_drew BKgb1.out)
                replace HB := Aside0.mk (below_drew1 HB.out)
                have NL24 := Aside0.mk (show w23.heap.size ≤ w23.drew.heap.size from Nat.le_refl _)
                refine start_ (n := 10) (S := fun w' => w'.cell? ⟨gb1, 0, none⟩ = some (.int .i64 a1_0) ∧ w'.cell? ⟨gb1, 1, none⟩ = some (.int .i64 a1_1) ∧ w'.cell? ⟨gb1, 2, none⟩ = some (.int .i64 a1_2) ∧ w'.cell? ⟨gb1, 3, none⟩ = some (.int .i64 a1_3) ∧ w'.cell? ⟨gb1, 4, none⟩ = some (.int .i64 a1_4) ∧ w'.cell? ⟨gb1, 5, none⟩ = some (.slice A1_5 l1_5.length c1_5) ∧ w'.cell? ⟨gb1, 6, none⟩ = some (.int .i64 a1_6) ∧ w'.cell? ⟨gb1, 7, none⟩ = some (.bool a1_7)) (ds := []) (bL 10 0) (by kernel_rfl) rfl rfl ⟨(blk_cell BKgb1.out 0).trans rfl, (blk_cell BKgb1.out 1).trans rfl, (blk_cell BKgb1.out 2).trans rfl, (blk_cell BKgb1.out 3).trans rfl, (blk_cell BKgb1.out 4).trans rfl, (blk_cell BKgb1.out 5).trans rfl, (blk_cell BKgb1.out 6).trans rfl, (blk_cell BKgb1.out 7).trans rfl⟩ (fun hHeld => ?_)
                generalize w23.drew = w24 at HO26 HO50 BKgb1 HB NL24 hHeld ⊢
                refine take_ (i := 2) (N := some 97) (v := ?_) (a' := ?_) (bL 10 4) rfl rfl (by kernel_rfl) (fun _ _ _ h => h) (Or.inl ⟨by rfl, ?_⟩) hHeld ?_ ?_; rotate_left; (rintro w' ⟨s0, s1, s2, s3, s4, s5, s6, s7⟩; go_simp; with_reducible rfl); rotate_left; (exact put_q)
                refine pr_ 0 95 (bL 10 5) rfl rfl ?_
                refine one_ (i := 1) (N := some 96) (bL 10 7) rfl rfl (by kernel_rfl) (by decide) (fun K hK => ?_)
                refine goes_ Try.func27 (by kernel_rfl) rfl #[.slice A0 l0.length c0] (by rfl) rfl rfl mp_q ?_
                (with_reducible refine (laws_toRecordS.calls k A0 c0 l0 t79 _ ?side1 ?side2 EQ44.out).mono ?_)
                (case side1 => exact cs_q (Kd.C_below HR0.out HB.out))
                (case side2 => exact HC0.out)
                rintro e_ w25 ⟨v80, rfl, ho0, hb⟩
                refine ⟨_, rfl, ?_⟩
                replace HO26 := Aside0.mk (Kd.S_below (kS_q HO26) hb)
                replace HO50 := Aside0.mk (Kd.S_below (kS_q HO50) hb)
                replace BKgb1 := Aside0.mk (blk_below (g := gb1) (bk_q BKgb1) hb)
                have NL25 := Aside0.mk ((hb.size : w24.heap.size ≤ w25.heap.size))
                have HO83 := Aside0.mk (laws_FnExactInstall.newS (Kd.S_mono ho0 (fun _ _ => trivial)) (b := w.heap.size) (n := w24.heap.size) (Below.size HB.out) (Nat.le_refl _))
                replace HB := Aside0.mk (below_step (bw_q HB) hb)
                (try clear hb)
                (try clear hk)
                (try clear ho0)
                obtain ⟨Ao81, co82, e_v80⟩ := Kd.S_slice HO83.out
                subst e_v80
                have hl44_gb1_0 : w25.cell? ⟨gb1, 0, none⟩ = some (.int .i64 a1_0) := (blk_cell BKgb1.out 0).trans rfl
                have hl44_gb1_1 : w25.cell? ⟨gb1, 1, none⟩ = some (.int .i64 a1_1) := (blk_cell BKgb1.out 1).trans rfl
                have hl44_gb1_2 : w25.cell? ⟨gb1, 2, none⟩ = some (.int .i64 a1_2) := (blk_cell BKgb1.out 2).trans rfl
                have hl44_gb1_3 : w25.cell? ⟨gb1, 3, none⟩ = some (.int .i64 a1_3) := (blk_cell BKgb1.out 3).trans rfl
                have hl44_gb1_4 : w25.cell? ⟨gb1, 4, none⟩ = some (.int .i64 a1_4) := (blk_cell BKgb1.out 4).trans rfl
                have hl44_gb1_5 : w25.cell? ⟨gb1, 5, none⟩ = some (.slice A1_5 l1_5.length c1_5) := (blk_cell BKgb1.out 5).trans rfl
                have hl44_gb1_6 : w25.cell? ⟨gb1, 6, none⟩ = some (.int .i64 a1_6) := (blk_cell BKgb1.out 6).trans rfl
                have hl44_gb1_7 : w25.cell? ⟨gb1, 7, none⟩ = some (.bool a1_7) := (blk_cell BKgb1.out 7).trans rfl
                refine hK.out _ _ ⟨(blk_cell BKgb1.out 0).trans rfl, (blk_cell BKgb1.out 1).trans rfl, (blk_cell BKgb1.out 2).trans rfl, (blk_cell BKgb1.out 3).trans rfl, (blk_cell BKgb1.out 4).trans rfl, (blk_cell BKgb1.out 5).trans rfl, (blk_cell BKgb1.out 6).trans rfl, (blk_cell BKgb1.out 7).trans rfl⟩ (fun hHeld => ?_)
                clear hK K
                refine norm_ (a' := ?_) ?_ ?_; rotate_left; (show Act.put _ (some 96) _ = _; simp only [Act.put, List.setIfInBounds_toArray, List.set_cons_zero, List.set_cons_succ, i64_w, i32_w]; rfl)
                refine one_ (i := 3) (N := some 98) (bL 10 15) rfl rfl (by kernel_rfl) (by decide) (fun K hK => ?_)
                refine goes_ Try.func36 (by kernel_rfl) rfl #[.agg #[.int .i64 a1_0, .int .i64 a1_1, .int .i64 a1_2, .int .i64 a1_3, .int .i64 a1_4, .slice A1_5 l1_5.length c1_5, .int .i64 a1_6, .bool a1_7]] (by rfl) rfl rfl mp_q ?_
                (with_reducible refine (laws_toRecord.calls k a1_0 a1_1 a1_2 a1_3 a1_4 A1_5 c1_5 l1_5 a1_6 a1_7 t84 t85 t86 t87 t88 t89 t90 t91 _ ?side1 ?side2 EQ46.out).mono ?_)
                (case side1 => exact cs_q (Kd.C_below HR1_5.out HB.out))
                (case side2 => exact HC1_5.out)
                rintro e_ w26 ⟨v92, rfl, ho0, hb⟩
                refine ⟨_, rfl, ?_⟩
                replace HO26 := Aside0.mk (Kd.S_below (kS_q HO26) hb)
                replace HO50 := Aside0.mk (Kd.S_below (kS_q HO50) hb)
                replace HO83 := Aside0.mk (Kd.S_below (kS_q HO83) hb)
                replace BKgb1 := Aside0.mk (blk_below (g := gb1) (bk_q BKgb1) hb)
                have NL26 := Aside0.mk ((hb.size : w25.heap.size ≤ w26.heap.size))
                have HO95 := Aside0.mk (laws_FnExactInstall.newR (Kd.R_mono ho0 (fun _ _ => trivial)) (b := w.heap.size) (n := w25.heap.size) (Below.size HB.out) (Nat.le_refl _))
                replace HB := Aside0.mk (below_step (bw_q HB) hb)
                (try clear hb)
                (try clear hk)
                (try clear ho0)
                obtain ⟨Ao93, co94, e_v92⟩ := Kd.R_slice HO95.out
                subst e_v92
                clear hl44_gb1_0 hl44_gb1_1 hl44_gb1_2 hl44_gb1_3 hl44_gb1_4 hl44_gb1_5 hl44_gb1_6 hl44_gb1_7
                refine hK.out _ _ ⟨(blk_cell BKgb1.out 0).trans rfl, (blk_cell BKgb1.out 1).trans rfl, (blk_cell BKgb1.out 2).trans rfl, (blk_cell BKgb1.out 3).trans rfl, (blk_cell BKgb1.out 4).trans rfl, (blk_cell BKgb1.out 5).trans rfl, (blk_cell BKgb1.out 6).trans rfl, (blk_cell BKgb1.out 7).trans rfl⟩ (fun hHeld => ?_)
                clear hK K
                refine norm_ (a' := ?_) ?_ ?_; rotate_left; (show Act.put _ (some 98) _ = _; simp only [Act.put, List.setIfInBounds_toArray, List.set_cons_zero, List.set_cons_succ, i64_w, i32_w]; rfl)
                refine one_ (i := 4) (N := some 99) (bL 10 31) rfl rfl (by kernel_rfl) (by decide) (fun K hK => ?_)
                refine goes_ Try.func42 (by kernel_rfl) rfl #[.slice Ao81 t79.length co82, .agg #[.int .i64 t84, .int .i64 t85, .int .i64 t86, .int .i64 t87, .int .i64 t88, .slice Ao93 t89.length co94, .int .i64 t90, .bool t91]] (by rfl) rfl rfl mp_q ?_
                (with_reducible refine (impl_Install.calls k Ao81 co82 t79 t84 t85 t86 t87 t88 Ao93 co94 t89 t90 t91 t96 t97 _ ?side1 ?side2 ?side3 ?side4 EQ47.out).mono ?_)
                (case side1 => repeat (first | exact (Kd.S_reads' HO83.out).2.2 | (with_reducible refine Kd.C_alloc ?_ _) | (with_reducible refine Kd.C_drewN ?_ _) | (with_reducible refine Kd.C_drew ?_)))
                (case side2 => exact (by have e_ := Kd.S_reads' HO83.out; exact Nat.le_trans (Nat.le_of_eq e_.1.symm) e_.2.1))
                (case side3 => repeat (first | exact (Kd.R_reads' HO95.out).2.2 | (with_reducible refine Kd.C_alloc ?_ _) | (with_reducible refine Kd.C_drewN ?_ _) | (with_reducible refine Kd.C_drew ?_)))
                (case side4 => exact (by have e_ := Kd.R_reads' HO95.out; exact Nat.le_trans (Nat.le_of_eq e_.1.symm) e_.2.1))
                rintro e_ w27 ⟨v98, rfl, ho0, hb⟩
                refine ⟨_, rfl, ?_⟩
                replace HO26 := Aside0.mk (Kd.S_below (kS_q HO26) hb)
                replace HO50 := Aside0.mk (Kd.S_below (kS_q HO50) hb)
                replace BKgb1 := Aside0.mk (blk_below (g := gb1) (bk_q BKgb1) hb)
                have NL27 := Aside0.mk ((hb.size : w26.heap.size ≤ w27.heap.size))
                have HO101 := Aside0.mk (laws_FnExactInstall.newS (Kd.S_mono ho0 (fun _ _ => trivial)) (b := w.heap.size) (n := w26.heap.size) (Below.size HB.out) (Nat.le_refl _))
                replace HB := Aside0.mk (below_step (bw_q HB) hb)
                clear HO83 HO95
                (try clear hb)
                (try clear hk)
                (try clear ho0)
                obtain ⟨Ao99, co100, e_v98⟩ := Kd.S_slice HO101.out
                subst e_v98
                refine hK.out _ _ ⟨(blk_cell BKgb1.out 0).trans rfl, (blk_cell BKgb1.out 1).trans rfl, (blk_cell BKgb1.out 2).trans rfl, (blk_cell BKgb1.out 3).trans rfl, (blk_cell BKgb1.out 4).trans rfl, (blk_cell BKgb1.out 5).trans rfl, (blk_cell BKgb1.out 6).trans rfl, (blk_cell BKgb1.out 7).trans rfl⟩ (fun hHeld => ?_)
                clear hK K
                refine norm_ (a' := ?_) ?_ ?_; rotate_left; (show Act.put _ (some 99) _ = _; simp only [Act.put, List.setIfInBounds_toArray, List.set_cons_zero, List.set_cons_succ, i64_w, i32_w]; rfl)
                refine pr_ 5 94 (bL 10 63) rfl rfl ?_
                refine pr_ 6 100 (bL 10 127) rfl rfl ?_
                refine pr_ 7 101 (bL 10 255) rfl rfl ?_
                refine pr_ 8 15 (bL 10 511) rfl rfl ?_
                refine pr_ 9 16 (bL 10 1023) rfl rfl ?_
                refine done_ (by kernel_rfl) ?_
                go_wp2_with (first | ((with_reducible refine gate_callee (f := 29) rfl ?_); refine goesL_ (some 104) rfl rfl Try.func29 (by kernel_rfl) rfl #[.slice Ao99 t96.length co100, .slice Ao24 t21.length co25] rfl mp_q ?_; (with_reducible refine (laws_eqRecordS.calls k Ao99 co100 t96 Ao24 co25 t21 true _ ?side1 ?side2 ?side3 ?side4 EQ49.out).mono ?_); (case side1 => repeat (first | exact (Kd.S_reads' HO101.out).2.2 | (with_reducible refine Kd.C_alloc ?_ _) | (with_reducible refine Kd.C_drewN ?_ _) | (with_reducible refine Kd.C_drew ?_))); (case side2 => exact (by have e_ := Kd.S_reads' HO101.out; exact Nat.le_trans (Nat.le_of_eq e_.1.symm) e_.2.1)); (case side3 => repeat (first | exact (Kd.S_reads' HO26.out).2.2 | (with_reducible refine Kd.C_alloc ?_ _) | (with_reducible refine Kd.C_drewN ?_ _) | (with_reducible refine Kd.C_drew ?_))); (case side4 => exact (by have e_ := Kd.S_reads' HO26.out; exact Nat.le_trans (Nat.le_of_eq e_.1.symm) e_.2.1)); rintro e_ w28 ⟨rfl, hb⟩; refine ⟨_, rfl, ?_⟩; replace HO50 := Aside0.mk (Kd.S_below (kS_q HO50) hb); have NL28 := Aside0.mk ((hb.size : w27.heap.size ≤ w28.heap.size)); replace HB := Aside0.mk (below_step (bw_q HB) hb); clear HO26 HO101 BKgb1; (try clear hb); (try clear hk)) | ((with_reducible refine gate_callee (f := 33) rfl ?_); refine goesL_ (some 113) rfl rfl Try.func33 (by kernel_rfl) rfl #[.slice Ao48 t77.length co49, .int .i64 1] rfl (by (try simp only [List.map_toArray, List.map_cons, List.map_nil]); first | done | rfl | (rw [show t77.length = t45.length from (Kd.S_reads' HO50.out).1.symm] <;> rfl) | (simp only [List.length_drop, List.length_take]; rfl)) ?_; (with_reducible refine (laws_heldRecordS.calls k Ao48 co49 t77 1 t103 _ ?side1 ?side2 EQ52.out).mono ?_); (case side1 => repeat (first | exact (Kd.S_reads' HO50.out).2.2 | (with_reducible refine Kd.C_alloc ?_ _) | (with_reducible refine Kd.C_drewN ?_ _) | (with_reducible refine Kd.C_drew ?_))); (case side2 => exact (by have e_ := Kd.S_reads' HO50.out; exact Nat.le_trans (Nat.le_of_eq e_.1.symm) e_.2.1)); rintro e_ w29 ⟨rfl, hb⟩; refine ⟨_, rfl, ?_⟩; replace hb := Drawn0.below hb; have NL29 := Aside0.mk ((hb.size : w28.heap.size ≤ w29.heap.size)); replace HB := Aside0.mk (below_step (bw_q HB) hb); clear HO50; (try clear hb); (try clear hk)))
                go_ret
                exact ⟨er_q, bw_q HB⟩
               ·rw [if_neg cd54] at H
                exact absurd (Option.some.inj H) (by rw [hr_]; decide)
            ·rw [if_neg cd50] at H
             exact absurd (Option.some.inj H) (by rw [hr_]; decide)
           ·rw [if_neg cd42] at H
            exact absurd (Option.some.inj H) (by rw [hr_]; decide)
        ·rw [if_neg cd37] at H
         exact absurd (Option.some.inj H) (by rw [hr_]; decide)
      ·rw [if_neg cd31] at H
       exact absurd (Option.some.inj H) (by rw [hr_]; decide)
     ·rw [if_neg cd24] at H
      exact absurd (Option.some.inj H) (by rw [hr_]; decide)
   ·rw [if_neg cd20] at H
    exact absurd (Option.some.inj H) (by rw [hr_]; decide)
end Go.Proofs.Ythjmdiggglkeaaa.Q
