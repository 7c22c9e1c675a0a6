import Derived.Test.YthjmdiggglkeaaaXFindQlawstoRecord
import Derived.Test.YthjmdiggglkeaaaXFindQimplkeyAt
import Derived.Test.YthjmdiggglkeaaaXFindQlawsmarkNearS
import Derived.Test.YthjmdiggglkeaaaXFindQlawsheldRecord
/- The contract of a Go function. -/












namespace Go.Proofs.Ythjmdiggglkeaaa.Q
open Go.RowKit Go.Proofs.YthjmdiggglkeaaaW.PrintWords Go.Proofs.YthjmdiggglkeaaaW.PrintLast Go.Proofs.YthjmdiggglkeaaaW.PrintMore
attribute [local go_sem] max2_int min2_int max_two min_two max_three min_three max_four min_four   -- for this text's walks alone
set_option linter.unusedVariables false
set_option linter.unusedSimpArgs false

/-! ### laws_FnExactFind: function 6 -/
def laws_FnExactFind.f (k : Nat) (l0 : List (S57)) (i : Int) (j : Int) (l : Int) (m : Int) (n : Int) (o : List (S141)) (p : Int) (q : Bool) : Option (Bool) := (laws_szRecordS.f k l0 1048576).bind fun z => (if z < 0 then (some true) else ((laws_szRecord.f i j l m n o p q z).bind fun t3 => (if t3 < 0 then (some true) else ((laws_toRecordS.f k l0).bind fun t4 => ((laws_toRecord.f k i j l m n o p q).bind fun h => ((spec_Find.f k t4 h.1 h.2.1 h.2.2.1 h.2.2.2.1 h.2.2.2.2.1 h.2.2.2.2.2.1 h.2.2.2.2.2.2.1 h.2.2.2.2.2.2.2).bind fun b => ((laws_toRecordS.f k l0).bind fun t => ((laws_toRecord.f k i j l m n o p q).bind fun c => ((impl_Find.f k t c.1 c.2.1 c.2.2.1 c.2.2.2.1 c.2.2.2.2.1 c.2.2.2.2.2.1 c.2.2.2.2.2.2.1 c.2.2.2.2.2.2.2).bind fun a => ((laws_eqRecord.f k a.1 a.2.1 a.2.2.1 a.2.2.2.1 a.2.2.2.2.1 a.2.2.2.2.2.1 a.2.2.2.2.2.2.1 a.2.2.2.2.2.2.2.1 b.1 b.2.1 b.2.2.1 b.2.2.2.1 b.2.2.2.2.1 b.2.2.2.2.2.1 b.2.2.2.2.2.2.1 b.2.2.2.2.2.2.2.1).bind fun Aa => (if Aa = true then (if (a.2.2.2.2.2.2.2.2 != b.2.2.2.2.2.2.2.2) = true then (some false) else ((laws_toRecordS.f k l0).bind fun Ab => ((laws_eqRecordS.f k t Ab).bind fun Ac => (if Ac = true then ((laws_toRecord.f k i j l m n o p q).bind fun g => ((laws_eqRecord.f k c.1 c.2.1 c.2.2.1 c.2.2.2.1 c.2.2.2.2.1 c.2.2.2.2.2.1 c.2.2.2.2.2.2.1 c.2.2.2.2.2.2.2 g.1 g.2.1 g.2.2.1 g.2.2.2.1 g.2.2.2.2.1 g.2.2.2.2.2.1 g.2.2.2.2.2.2.1 g.2.2.2.2.2.2.2).bind fun Ad => (if Ad = true then ((laws_markRecordS.f k t 1).bind fun w => ((laws_markRecord.f k c.1 c.2.1 c.2.2.1 c.2.2.2.1 c.2.2.2.2.1 c.2.2.2.2.2.1 c.2.2.2.2.2.2.1 c.2.2.2.2.2.2.2 w.1).bind fun x => (if x.1 < 0 then (some false) else ((laws_eqRecord.f k a.1 a.2.1 a.2.2.1 a.2.2.2.1 a.2.2.2.2.1 a.2.2.2.2.2.1 a.2.2.2.2.2.2.1 a.2.2.2.2.2.2.2.1 b.1 b.2.1 b.2.2.1 b.2.2.2.1 b.2.2.2.2.1 b.2.2.2.2.2.1 b.2.2.2.2.2.2.1 b.2.2.2.2.2.2.2.1).bind fun Ae => (if Ae = true then (if (a.2.2.2.2.2.2.2.2 != b.2.2.2.2.2.2.2.2) = true then (some false) else ((laws_markRecord.f k a.1 a.2.1 a.2.2.1 a.2.2.2.1 a.2.2.2.2.1 a.2.2.2.2.2.1 a.2.2.2.2.2.2.1 a.2.2.2.2.2.2.2.1 1).bind fun s => ((laws_heldRecord.f k a.1 a.2.1 a.2.2.1 a.2.2.2.1 a.2.2.2.2.1 s.2 a.2.2.2.2.2.2.1 a.2.2.2.2.2.2.2.1 1).bind fun v => (if v < 0 then (some false) else (if v = s.1 then ((laws_toRecordS.f k l0).bind fun Af => ((laws_toRecord.f k i j l m n o p q).bind fun e => ((impl_Find.f k Af e.1 e.2.1 e.2.2.1 e.2.2.2.1 e.2.2.2.2.1 e.2.2.2.2.2.1 e.2.2.2.2.2.2.1 e.2.2.2.2.2.2.2).bind fun d => ((laws_eqRecord.f k d.1 d.2.1 d.2.2.1 d.2.2.2.1 d.2.2.2.2.1 d.2.2.2.2.2.1 d.2.2.2.2.2.2.1 d.2.2.2.2.2.2.2.1 b.1 b.2.1 b.2.2.1 b.2.2.2.1 b.2.2.2.2.1 b.2.2.2.2.2.1 b.2.2.2.2.2.2.1 b.2.2.2.2.2.2.2.1).bind fun y => (if y = true then (if (d.2.2.2.2.2.2.2.2 != b.2.2.2.2.2.2.2.2) = true then (some false) else ((laws_heldRecord.f k a.1 a.2.1 a.2.2.1 a.2.2.2.1 a.2.2.2.2.1 s.2 a.2.2.2.2.2.2.1 a.2.2.2.2.2.2.2.1 1).bind fun u => (if u < 0 then (some false) else (if u = s.1 then (some true) else (some false))))) else (some false)))))) else (some false)))))) else (some false)))))) else (some false)))) else (some false))))) else (some false))))))))))))
/-- What a call makes is new since a step before it, and no newer than its end. -/
theorem laws_FnExactFind.newS {α : Type} {d : Kd α} {e b n : Nat} {w1 W : World} {v : Value} {xs : List α} (ho : Kd.S d e w1 W.heap.size (fun _ => True) v xs) (h1 : b ≤ n) (h2 : n ≤ W.heap.size) : Kd.S d e w1 b (fun k => n ≤ k ∧ k < w1.heap.size) v xs :=
 Kd.S_lower (Kd.S_mono (Kd.S_bound ho) (fun k hk => ⟨Nat.le_trans h2 hk.2.1, hk.2.2.1⟩)) (Nat.le_trans h1 h2)
theorem laws_FnExactFind.newR {α : Type} {d : Kd α} {e b n : Nat} {w1 W : World} {v : Value} {xs : List α} (ho : d.R e w1 W.heap.size (fun _ => True) v xs) (h1 : b ≤ n) (h2 : n ≤ W.heap.size) : d.R e w1 b (fun k => n ≤ k ∧ k < w1.heap.size) v xs :=
 Kd.R_lower (Kd.R_mono (Kd.R_bound ho) (fun k hk => ⟨Nat.le_trans h2 hk.2.1, hk.2.2.1⟩)) (Nat.le_trans h1 h2)
theorem laws_FnExactFind.sameR {α : Type} {d : Kd α} {e b : Nat} {W W1 : World} {ok ok1 : Nat → Prop} {v : Value} {xs ys : List α} (h0 : d.R e W b ok v xs) (h1 : d.R e W1 b ok1 v ys) (hE : d.E = []) : d.R e W1 b ok v ys := Kd.R_mono (Kd.R_tight hE h1) (fun k hk => h0.1 k hk.symm)
theorem laws_FnExactFind.value_box {P : Program} {ops : Array Oper} {Q : Exit → Act → World → Prop} {oi : Oper} {N : Option Tmp} {a : Act} {W : World} {K : Act → World → Prop} {cs : Array Value} {t : TypeId} (hw : Region.wanted oi (yielded ops a.tmps) = true) (hN : oi.dst = N)
  (hrun : (execOp a.eval oi).run P W = .ok (.value (.pointer (some ⟨W.heap.size, 0, none⟩))) (W.alloc (.cells cs t (0, 0))))
  (h : ∀ g, g = W.heap.size → ∀ w1, w1.heap[g]? = some (.cells cs t (0, 0)) → Below W.heap.size W w1 → K (a.put N (.pointer (some ⟨g, 0, none⟩))) w1) : if Region.wanted oi (yielded ops a.tmps) = true then Oper.wp P oi a W K Q else K (a.put N undef) W :=
 value_ hw hN hrun (h _ rfl _ (blk_new W _) (below_alloc (Below.refl _ _) _))
theorem laws_FnExactFind.skip_box {P : Program} {ops : Array Oper} {Q : Exit → Act → World → Prop} {oi : Oper} {a : Act} {W w1 : World} {K : Act → World → Prop} (hw : Region.wanted oi (yielded ops a.tmps) = true) (hN : oi.dst = none)
  (hrun : (execOp a.eval oi).run P W = .ok .skip w1) (h : ∀ w2, w2 = w1 → K a w2) : if Region.wanted oi (yielded ops a.tmps) = true then Oper.wp P oi a W K Q else K (a.put none undef) W := skip_ hw hN hrun (h _ rfl)
theorem laws_FnExactFind.set8 {W : World} {g t : Nat} {a0 a1 a2 a3 a4 a5 a6 a7 v0 v1 v2 v3 v4 v5 v6 v7 : Value} (h : W.heap[g]? = some (.cells #[a0, a1, a2, a3, a4, a5, a6, a7] t (0, 0))) : ((((((((W.setCell ⟨g, 0, none⟩ v0).setCell ⟨g, 1, none⟩ v1).setCell ⟨g, 2, none⟩ v2).setCell ⟨g, 3, none⟩ v3).setCell ⟨g, 4, none⟩ v4).setCell ⟨g, 5, none⟩ v5).setCell ⟨g, 6, none⟩ v6).setCell ⟨g, 7, none⟩ v7).heap[g]? = some (.cells #[v0, v1, v2, v3, v4, v5, v6, v7] t (0, 0)) := by
 have h0 : (W.setCell ⟨g, 0, none⟩ v0).heap[g]? = some (.cells #[v0, a1, a2, a3, a4, a5, a6, a7] t (0, 0)) := blk_set h 0 _
 have h1 : ((W.setCell ⟨g, 0, none⟩ v0).setCell ⟨g, 1, none⟩ v1).heap[g]? = some (.cells #[v0, v1, a2, a3, a4, a5, a6, a7] t (0, 0)) := blk_set h0 1 _
 have h2 : (((W.setCell ⟨g, 0, none⟩ v0).setCell ⟨g, 1, none⟩ v1).setCell ⟨g, 2, none⟩ v2).heap[g]? = some (.cells #[v0, v1, v2, a3, a4, a5, a6, a7] t (0, 0)) := blk_set h1 2 _
 have h3 : ((((W.setCell ⟨g, 0, none⟩ v0).setCell ⟨g, 1, none⟩ v1).setCell ⟨g, 2, none⟩ v2).setCell ⟨g, 3, none⟩ v3).heap[g]? = some (.cells #[v0, v1, v2, v3, a4, a5, a6, a7] t (0, 0)) := blk_set h2 3 _
 have h4 : (((((W.setCell ⟨g, 0, none⟩ v0).setCell ⟨g, 1, none⟩ v1).setCell ⟨g, 2, none⟩ v2).setCell ⟨g, 3, none⟩ v3).setCell ⟨g, 4, none⟩ v4).heap[g]? = some (.cells #[v0, v1, v2, v3, v4, a5, a6, a7] t (0, 0)) := blk_set h3 4 _
 have h5 : ((((((W.setCell ⟨g, 0, none⟩ v0).setCell ⟨g, 1, none⟩ v1).setCell ⟨g, 2, none⟩ v2).setCell ⟨g, 3, none⟩ v3).setCell ⟨g, 4, none⟩ v4).setCell ⟨g, 5, none⟩ v5).heap[g]? = some (.cells #[v0, v1, v2, v3, v4, v5, a6, a7] t (0, 0)) := blk_set h4 5 _
 have h6 : (((((((W.setCell ⟨g, 0, none⟩ v0).setCell ⟨g, 1, none⟩ v1).setCell ⟨g, 2, none⟩ v2).setCell ⟨g, 3, none⟩ v3).setCell ⟨g, 4, none⟩ v4).setCell ⟨g, 5, none⟩ v5).setCell ⟨g, 6, none⟩ v6).heap[g]? = some (.cells #[v0, v1, v2, v3, v4, v5, v6, a7] t (0, 0)) := blk_set h5 6 _
 have h7 : ((((((((W.setCell ⟨g, 0, none⟩ v0).setCell ⟨g, 1, none⟩ v1).setCell ⟨g, 2, none⟩ v2).setCell ⟨g, 3, none⟩ v3).setCell ⟨g, 4, none⟩ v4).setCell ⟨g, 5, none⟩ v5).setCell ⟨g, 6, none⟩ v6).setCell ⟨g, 7, none⟩ v7).heap[g]? = some (.cells #[v0, v1, v2, v3, v4, v5, v6, v7] t (0, 0)) := blk_set h6 7 _
 exact h7
structure laws_FnExactFind.Hold (T : Prop) : Prop where mk :: (out : T)
theorem laws_FnExactFind.join_ {T G : Prop} (h : laws_FnExactFind.Hold T → G) (p : T) : G := h ⟨p⟩
theorem laws_FnExactFind.sameS {α : Type} {d : Kd α} {e b : Nat} {W1 : World} {ok : Nat → Prop} {v : Value} {ys : List α} (h1 : Kd.S d e W1 b ok v ys) : Kd.S d e W1 b ok v ys := h1
set_option maxHeartbeats 8000000 in
set_option maxRecDepth 100000 in
theorem laws_FnExactFind.calls (k : Nat) (A0 : Option Addr) (c0 : Nat) (l0 : List (S57)) (Aj : Int) (Ak : Int) (Al : Int) (Am : Int) (An : Int) (Ao : Option Addr) (Ap : Nat) (Ai : List (S141)) (Aq : Int) (Ar : Bool) (r : Bool) (w : World) (hr0 : Kd.C k57 w A0 l0.length l0) (hc0 : l0.length ≤ c0) (hr1_5 : Kd.C k141 w Ao Ai.length Ai) (hc1_5 : Ai.length ≤ Ap) (hr_ : r = true) (h : laws_FnExactFind.f k l0 Aj Ak Al Am An Ai Aq Ar = some r) :
  Calls Try.prog 6 #[.slice A0 l0.length c0, .agg #[.int .i64 Aj, .int .i64 Ak, .int .i64 Al, .int .i64 Am, .int .i64 An, .slice Ao Ai.length Ap, .int .i64 Aq, .bool Ar]] w fun e w' => e = .returned (.bool r) ∧ Below w.heap.size w w' := by
 have HR0 := ak hr0; have Cx := ak hc0; have Bw := ak hr1_5; have Bx := ak hc1_5; clear hr0 hc0 hr1_5 hc1_5; have HB := ak (Below.refl w.heap.size w)
 unfold laws_FnExactFind.f at h
 have H := h; clear h; replace H := bsi H; obtain ⟨t2, EQ1, H⟩ := H
 (try dsimp only at H)
 have EQ1 := ak EQ1
 by_cases cd2 : t2 < 0
 ·rw [if_pos cd2] at H
  have cd2b0 : decide (t2 < 0) = true := decide_eq_true cd2
  obtain rfl := Option.some.inj H
  go_enter Try.func6, Try.ntmps6
  go_wp2_with (first | ((with_reducible refine gate_dst (N := 3) rfl ?_); refine box_q 3 #[.int .i64 Aj, .int .i64 Ak, .int .i64 Al, .int .i64 Am, .int .i64 An, .slice Ao Ai.length Ap, .int .i64 Aq, .bool Ar] 57 ?_; intro Ac hg w1 hbox hb; have BKgb1 := ak (hbox); have GLgb1 := ak ((by rw [hg]; exact Nat.le_refl _ : w.heap.size ≤ Ac)); have GHgb1 := ak ((blk_lt hbox : Ac < w1.heap.size)); have GEgb1 := ak ((by rw [hg]; exact below_size (bw_q HB) : w.heap.size ≤ Ac)); have NL1 := ak ((hb.size : w.heap.size ≤ w1.heap.size)); replace HB := ak (below_step (bw_q HB) hb); (try clear hb); (try clear hk); (try clear hw); (try clear hbox); (try clear hg); have hz0_0 : w1.cell? ⟨Ac, 0, none⟩ = some (.int .i64 Aj) := (blk_cell BKgb1.out 0).trans rfl; have hy0_0 := blk_frozen BKgb1.out 0; have hz0_1 : w1.cell? ⟨Ac, 1, none⟩ = some (.int .i64 Ak) := (blk_cell BKgb1.out 1).trans rfl; have hy0_1 := blk_frozen BKgb1.out 1; have hz0_2 : w1.cell? ⟨Ac, 2, none⟩ = some (.int .i64 Al) := (blk_cell BKgb1.out 2).trans rfl; have hy0_2 := blk_frozen BKgb1.out 2; have hz0_3 : w1.cell? ⟨Ac, 3, none⟩ = some (.int .i64 Am) := (blk_cell BKgb1.out 3).trans rfl; have hy0_3 := blk_frozen BKgb1.out 3; have hz0_4 : w1.cell? ⟨Ac, 4, none⟩ = some (.int .i64 An) := (blk_cell BKgb1.out 4).trans rfl; have hy0_4 := blk_frozen BKgb1.out 4; have hz0_5 : w1.cell? ⟨Ac, 5, none⟩ = some (.slice Ao Ai.length Ap) := (blk_cell BKgb1.out 5).trans rfl; have hy0_5 := blk_frozen BKgb1.out 5; have hz0_6 : w1.cell? ⟨Ac, 6, none⟩ = some (.int .i64 Aq) := (blk_cell BKgb1.out 6).trans rfl; have hy0_6 := blk_frozen BKgb1.out 6; have hz0_7 : w1.cell? ⟨Ac, 7, none⟩ = some (.bool Ar) := (blk_cell BKgb1.out 7).trans rfl; have hy0_7 := blk_frozen BKgb1.out 7) | ((with_reducible refine gate_callee (f := 25) rfl ?_); refine goesL_ (some 19) rfl rfl Try.func25 (by kernel_rfl) rfl #[.slice A0 l0.length c0, .int .i64 1048576] rfl mp_q ?_; (with_reducible refine (laws_szRecordS.calls k A0 c0 l0 1048576 t2 _ ?side1 ?side2 EQ1.out).mono ?_); (case side1 => exact cs_q (Kd.C_below HR0.out HB.out)); (case side2 => exact Cx.out); rintro e_ w2 ⟨rfl, hb⟩; refine ⟨_, rfl, ?_⟩; replace BKgb1 := ak (blk_below (g := Ac) (bk_q BKgb1) hb); have NL2 := ak ((hb.size : w1.heap.size ≤ w2.heap.size)); replace HB := ak (below_step (bw_q HB) hb); (try clear hb); (try clear hk); clear hz0_0 hy0_0 hz0_1 hy0_1 hz0_2 hy0_2 hz0_3 hy0_3 hz0_4 hy0_4 hz0_5 hy0_5 hz0_6 hy0_6 hz0_7 hy0_7; have hl1_gb1_0 : w2.cell? ⟨Ac, 0, none⟩ = some (.int .i64 Aj) := (blk_cell BKgb1.out 0).trans rfl; have hl1_gb1_1 : w2.cell? ⟨Ac, 1, none⟩ = some (.int .i64 Ak) := (blk_cell BKgb1.out 1).trans rfl; have hl1_gb1_2 : w2.cell? ⟨Ac, 2, none⟩ = some (.int .i64 Al) := (blk_cell BKgb1.out 2).trans rfl; have hl1_gb1_3 : w2.cell? ⟨Ac, 3, none⟩ = some (.int .i64 Am) := (blk_cell BKgb1.out 3).trans rfl; have hl1_gb1_4 : w2.cell? ⟨Ac, 4, none⟩ = some (.int .i64 An) := (blk_cell BKgb1.out 4).trans rfl; have hl1_gb1_5 : w2.cell? ⟨Ac, 5, none⟩ = some (.slice Ao Ai.length Ap) := (blk_cell BKgb1.out 5).trans rfl; have hl1_gb1_6 : w2.cell? ⟨Ac, 6, none⟩ = some (.int .i64 Aq) := (blk_cell BKgb1.out 6).trans rfl; have hl1_gb1_7 : w2.cell? ⟨Ac, 7, none⟩ = some (.bool Ar) := (blk_cell BKgb1.out 7).trans rfl))
  go_ret
  exact ⟨er_q, bw_q HB⟩
 ·rw [if_neg cd2] at H
  have cd2b0 : decide (t2 < 0) = false := decide_eq_false cd2
  replace H := bsi H; obtain ⟨t3, EQ4, H⟩ := H
  (try dsimp only at H)
  have EQ4 := ak EQ4
  by_cases cd5 : t3 < 0
  ·rw [if_pos cd5] at H
   have cd5b0 : decide (t3 < 0) = true := decide_eq_true cd5
   obtain rfl := Option.some.inj H
   go_enter Try.func6, Try.ntmps6
   go_wp2_with (first | ((with_reducible refine gate_dst (N := 3) rfl ?_); refine box_q 3 #[.int .i64 Aj, .int .i64 Ak, .int .i64 Al, .int .i64 Am, .int .i64 An, .slice Ao Ai.length Ap, .int .i64 Aq, .bool Ar] 57 ?_; intro Ac hg w1 hbox hb; have BKgb1 := ak (hbox); have GLgb1 := ak ((by rw [hg]; exact Nat.le_refl _ : w.heap.size ≤ Ac)); have GHgb1 := ak ((blk_lt hbox : Ac < w1.heap.size)); have GEgb1 := ak ((by rw [hg]; exact below_size (bw_q HB) : w.heap.size ≤ Ac)); have NL1 := ak ((hb.size : w.heap.size ≤ w1.heap.size)); replace HB := ak (below_step (bw_q HB) hb); (try clear hb); (try clear hk); (try clear hw); (try clear hbox); (try clear hg); have hz0_0 : w1.cell? ⟨Ac, 0, none⟩ = some (.int .i64 Aj) := (blk_cell BKgb1.out 0).trans rfl; have hy0_0 := blk_frozen BKgb1.out 0; have hz0_1 : w1.cell? ⟨Ac, 1, none⟩ = some (.int .i64 Ak) := (blk_cell BKgb1.out 1).trans rfl; have hy0_1 := blk_frozen BKgb1.out 1; have hz0_2 : w1.cell? ⟨Ac, 2, none⟩ = some (.int .i64 Al) := (blk_cell BKgb1.out 2).trans rfl; have hy0_2 := blk_frozen BKgb1.out 2; have hz0_3 : w1.cell? ⟨Ac, 3, none⟩ = some (.int .i64 Am) := (blk_cell BKgb1.out 3).trans rfl; have hy0_3 := blk_frozen BKgb1.out 3; have hz0_4 : w1.cell? ⟨Ac, 4, none⟩ = some (.int .i64 An) := (blk_cell BKgb1.out 4).trans rfl; have hy0_4 := blk_frozen BKgb1.out 4; have hz0_5 : w1.cell? ⟨Ac, 5, none⟩ = some (.slice Ao Ai.length Ap) := (blk_cell BKgb1.out 5).trans rfl; have hy0_5 := blk_frozen BKgb1.out 5; have hz0_6 : w1.cell? ⟨Ac, 6, none⟩ = some (.int .i64 Aq) := (blk_cell BKgb1.out 6).trans rfl; have hy0_6 := blk_frozen BKgb1.out 6; have hz0_7 : w1.cell? ⟨Ac, 7, none⟩ = some (.bool Ar) := (blk_cell BKgb1.out 7).trans rfl; have hy0_7 := blk_frozen BKgb1.out 7) | ((with_reducible refine gate_callee (f := 25) rfl ?_); refine goesL_ (some 19) rfl rfl Try.func25 (by kernel_rfl) rfl #[.slice A0 l0.length c0, .int .i64 1048576] rfl mp_q ?_; (with_reducible refine (laws_szRecordS.calls k A0 c0 l0 1048576 t2 _ ?side1 ?side2 EQ1.out).mono ?_); (case side1 => exact cs_q (Kd.C_below HR0.out HB.out)); (case side2 => exact Cx.out); rintro e_ w2 ⟨rfl, hb⟩; refine ⟨_, rfl, ?_⟩; replace BKgb1 := ak (blk_below (g := Ac) (bk_q BKgb1) hb); have NL2 := ak ((hb.size : w1.heap.size ≤ w2.heap.size)); replace HB := ak (below_step (bw_q HB) hb); (try clear hb); (try clear hk); clear hz0_0 hy0_0 hz0_1 hy0_1 hz0_2 hy0_2 hz0_3 hy0_3 hz0_4 hy0_4 hz0_5 hy0_5 hz0_6 hy0_6 hz0_7 hy0_7; have hl1_gb1_0 : w2.cell? ⟨Ac, 0, none⟩ = some (.int .i64 Aj) := (blk_cell BKgb1.out 0).trans rfl; have hl1_gb1_1 : w2.cell? ⟨Ac, 1, none⟩ = some (.int .i64 Ak) := (blk_cell BKgb1.out 1).trans rfl; have hl1_gb1_2 : w2.cell? ⟨Ac, 2, none⟩ = some (.int .i64 Al) := (blk_cell BKgb1.out 2).trans rfl; have hl1_gb1_3 : w2.cell? ⟨Ac, 3, none⟩ = some (.int .i64 Am) := (blk_cell BKgb1.out 3).trans rfl; have hl1_gb1_4 : w2.cell? ⟨Ac, 4, none⟩ = some (.int .i64 An) := (blk_cell BKgb1.out 4).trans rfl; have hl1_gb1_5 : w2.cell? ⟨Ac, 5, none⟩ = some (.slice Ao Ai.length Ap) := (blk_cell BKgb1.out 5).trans rfl; have hl1_gb1_6 : w2.cell? ⟨Ac, 6, none⟩ = some (.int .i64 Aq) := (blk_cell BKgb1.out 6).trans rfl; have hl1_gb1_7 : w2.cell? ⟨Ac, 7, none⟩ = some (.bool Ar) := (blk_cell BKgb1.out 7).trans rfl) | ((with_reducible refine gate_callee (f := 34) rfl ?_); refine goesL_ (some 24) rfl rfl Try.func34 (by kernel_rfl) rfl #[.agg #[.int .i64 Aj, .int .i64 Ak, .int .i64 Al, .int .i64 Am, .int .i64 An, .slice Ao Ai.length Ap, .int .i64 Aq, .bool Ar], .int .i64 t2] rfl mp_q ?_; (with_reducible refine (laws_szRecord.calls Aj Ak Al Am An Ao Ap Ai Aq Ar t2 t3 _ ?side1 ?side2 EQ4.out).mono ?_); (case side1 => exact cs_q (Kd.C_below Bw.out HB.out)); (case side2 => exact Bx.out); rintro e_ w3 ⟨rfl, hb⟩; refine ⟨_, rfl, ?_⟩; replace BKgb1 := ak (blk_below (g := Ac) (bk_q BKgb1) hb); have NL3 := ak ((hb.size : w2.heap.size ≤ w3.heap.size)); replace HB := ak (below_step (bw_q HB) hb); (try clear hb); (try clear hk); clear hl1_gb1_0 hl1_gb1_1 hl1_gb1_2 hl1_gb1_3 hl1_gb1_4 hl1_gb1_5 hl1_gb1_6 hl1_gb1_7))
   go_ret
   exact ⟨er_q, bw_q HB⟩
  ·rw [if_neg cd5] at H
   have cd5b0 : decide (t3 < 0) = false := decide_eq_false cd5
   replace H := bsi H; obtain ⟨t4, EQ7, H⟩ := H
   (try dsimp only at H)
   have EQ7 := ak EQ7; replace H := bsi H; obtain ⟨⟨t9, Cp, Cq, Cr, Cs, Ct, Cu, Cv⟩, EQ9, H⟩ := H
   (try dsimp only at H)
   have EQ9 := ak EQ9; replace H := bsi H; obtain ⟨⟨Ay, Az, Ba, Bb, Bc, Bd, Be, Bf, Dq⟩, EQ10, H⟩ := H
   (try dsimp only at H)
   have EQ10 := ak EQ10; replace H := bsi H; obtain ⟨Cz, EQ14, H⟩ := H
   (try dsimp only at H)
   have EQ14 := ak EQ14; replace H := bsi H; obtain ⟨⟨Bz, Ca, Cb, Cc, Cd, By, Ce, Cf⟩, EQ16, H⟩ := H
   (try dsimp only at H)
   have EQ16 := ak EQ16; replace H := bsi H; obtain ⟨⟨Bo, Bp, Bq, Br, Bs, Bv, Bt, Bu, Db⟩, EQ20, H⟩ := H
   (try dsimp only at H)
   have EQ20 := ak EQ20; replace H := bsi H; obtain ⟨Ds, EQ25, H⟩ := H
   (try dsimp only at H)
   have EQ25 := ak EQ25
   by_cases cd26 : Ds = true
   ·rw [if_pos cd26] at H; subst cd26
    by_cases cd27 : (Db != Dq) = true
    ·rw [if_pos cd27] at H
     exact absurd (Option.some.inj H) (by rw [hr_]; decide)
    ·rw [if_neg cd27] at H
     have cd27b : Db = Dq := by simpa using cd27
     subst cd27b; replace H := bsi H; obtain ⟨Df, EQ28, H⟩ := H
     (try dsimp only at H)
     have EQ28 := ak EQ28; replace H := bsi H; obtain ⟨Dt, EQ29, H⟩ := H
     (try dsimp only at H)
     have EQ29 := ak EQ29
     by_cases cd30 : Dt = true
     ·rw [if_pos cd30] at H; subst cd30; replace H := bsi H; obtain ⟨⟨Dg, Dh, Di, Dj, Dk, Dl, Dm, Dn⟩, EQ34, H⟩ := H
      (try dsimp only at H)
      have EQ34 := ak EQ34; replace H := bsi H; obtain ⟨Du, EQ35, H⟩ := H
      (try dsimp only at H)
      have EQ35 := ak EQ35
      by_cases cd37 : Du = true
      ·rw [if_pos cd37] at H; subst cd37; replace H := bsi H; obtain ⟨⟨Do, Dv⟩, EQ38, H⟩ := H
       (try dsimp only at H)
       have EQ38 := ak EQ38; replace H := bsi H; obtain ⟨⟨Dp, Dw⟩, EQ40, H⟩ := H
       (try dsimp only at H)
       have EQ40 := ak EQ40
       by_cases cd41 : Dp < 0
       ·rw [if_pos cd41] at H
        exact absurd (Option.some.inj H) (by rw [hr_]; decide)
       ·rw [if_neg cd41] at H
        have cd41b0 : decide (Dp < 0) = false := decide_eq_false cd41
        replace H := bsi H; obtain ⟨Dx, EQ44, H⟩ := H
        (try dsimp only at H)
        have EQ44 := ak EQ44
        by_cases cd45 : Dx = true
        ·rw [if_pos cd45] at H; subst cd45
         by_cases cd46 : (Db != Db) = true
         ·rw [if_pos cd46] at H
          exact absurd (Option.some.inj H) (by rw [hr_]; decide)
         ·rw [if_neg cd46] at H; replace H := bsi H; obtain ⟨⟨Dy, Da⟩, EQ48, H⟩ := H
          (try dsimp only at H)
          have EQ48 := ak EQ48; replace H := bsi H; obtain ⟨De, EQ50, H⟩ := H
          (try dsimp only at H)
          have EQ50 := ak EQ50
          by_cases cd51 : De < 0
          ·rw [if_pos cd51] at H
           exact absurd (Option.some.inj H) (by rw [hr_]; decide)
          ·rw [if_neg cd51] at H
           have cd51b0 : decide (De < 0) = false := decide_eq_false cd51
           by_cases cd52 : De = Dy
           ·rw [if_pos cd52] at H; subst cd52; replace H := bsi H; obtain ⟨Cw, EQ54, H⟩ := H
            (try dsimp only at H)
            have EQ54 := ak EQ54; replace H := bsi H; obtain ⟨⟨Cg, Ch, Ci, Cj, Ck, Cl, Cm, Cn⟩, EQ56, H⟩ := H
            (try dsimp only at H)
            have EQ56 := ak EQ56; replace H := bsi H; obtain ⟨⟨Bg, Bh, Bi, Bj, Bk, Bl, Bm, Bn, Co⟩, EQ57, H⟩ := H
            (try dsimp only at H)
            have EQ57 := ak EQ57; replace H := bsi H; obtain ⟨Dr, EQ63, H⟩ := H
            (try dsimp only at H)
            have EQ63 := ak EQ63
            by_cases cd64 : Dr = true
            ·rw [if_pos cd64] at H; subst cd64
             by_cases cd65 : (Co != Db) = true
             ·rw [if_pos cd65] at H
              exact absurd (Option.some.inj H) (by rw [hr_]; decide)
             ·rw [if_neg cd65] at H
              have cd65b : Co = Db := by simpa using cd65
              subst cd65b; replace H := bsi H; obtain ⟨Cy, EQ67, H⟩ := H
              (try dsimp only at H)
              have EQ67 := ak EQ67
              by_cases cd68 : Cy < 0
              ·rw [if_pos cd68] at H
               exact absurd (Option.some.inj H) (by rw [hr_]; decide)
              ·rw [if_neg cd68] at H
               have cd68b0 : decide (Cy < 0) = false := decide_eq_false cd68
               by_cases cd69 : Cy = De
               ·rw [if_pos cd69] at H; subst cd69; obtain rfl := Option.some.inj H
                go_enter Try.func6, Try.ntmps6
                try go_wp2_with (first | ((with_reducible refine gate_dst (N := 3) rfl ?_); refine box_q 3 #[.int .i64 Aj, .int .i64 Ak, .int .i64 Al, .int .i64 Am, .int .i64 An, .slice Ao Ai.length Ap, .int .i64 Aq, .bool Ar] 57 ?_; intro Ac hg w1 hbox hb; have BKgb1 := ak (hbox); have GLgb1 := ak ((by rw [hg]; exact Nat.le_refl _ : w.heap.size ≤ Ac)); have GHgb1 := ak ((blk_lt hbox : Ac < w1.heap.size)); have GEgb1 := ak ((by rw [hg]; exact below_size (bw_q HB) : w.heap.size ≤ Ac)); have NL1 := ak ((hb.size : w.heap.size ≤ w1.heap.size)); replace HB := ak (below_step (bw_q HB) hb); (try clear hb); (try clear hk); (try clear hw); (try clear hbox); (try clear hg); have hz0_0 : w1.cell? ⟨Ac, 0, none⟩ = some (.int .i64 Aj) := (blk_cell BKgb1.out 0).trans rfl; have hy0_0 := blk_frozen BKgb1.out 0; have hz0_1 : w1.cell? ⟨Ac, 1, none⟩ = some (.int .i64 Ak) := (blk_cell BKgb1.out 1).trans rfl; have hy0_1 := blk_frozen BKgb1.out 1; have hz0_2 : w1.cell? ⟨Ac, 2, none⟩ = some (.int .i64 Al) := (blk_cell BKgb1.out 2).trans rfl; have hy0_2 := blk_frozen BKgb1.out 2; have hz0_3 : w1.cell? ⟨Ac, 3, none⟩ = some (.int .i64 Am) := (blk_cell BKgb1.out 3).trans rfl; have hy0_3 := blk_frozen BKgb1.out 3; have hz0_4 : w1.cell? ⟨Ac, 4, none⟩ = some (.int .i64 An) := (blk_cell BKgb1.out 4).trans rfl; have hy0_4 := blk_frozen BKgb1.out 4; have hz0_5 : w1.cell? ⟨Ac, 5, none⟩ = some (.slice Ao Ai.length Ap) := (blk_cell BKgb1.out 5).trans rfl; have hy0_5 := blk_frozen BKgb1.out 5; have hz0_6 : w1.cell? ⟨Ac, 6, none⟩ = some (.int .i64 Aq) := (blk_cell BKgb1.out 6).trans rfl; have hy0_6 := blk_frozen BKgb1.out 6; have hz0_7 : w1.cell? ⟨Ac, 7, none⟩ = some (.bool Ar) := (blk_cell BKgb1.out 7).trans rfl; have hy0_7 := blk_frozen BKgb1.out 7) | ((with_reducible refine gate_callee (f := 25) rfl ?_); refine goesL_ (some 19) rfl rfl Try.func25 (by kernel_rfl) rfl #[.slice A0 l0.length c0, .int .i64 1048576] rfl mp_q ?_; (with_reducible refine (laws_szRecordS.calls k A0 c0 l0 1048576 t2 _ ?side1 ?side2 EQ1.out).mono ?_); (case side1 => exact cs_q (Kd.C_below HR0.out HB.out)); (case side2 => exact Cx.out); rintro e_ w2 ⟨rfl, hb⟩; refine ⟨_, rfl, ?_⟩; replace BKgb1 := ak (blk_below (g := Ac) (bk_q BKgb1) hb); have NL2 := ak ((hb.size : w1.heap.size ≤ w2.heap.size)); replace HB := ak (below_step (bw_q HB) hb); (try clear hb); (try clear hk); clear hz0_0 hy0_0 hz0_1 hy0_1 hz0_2 hy0_2 hz0_3 hy0_3 hz0_4 hy0_4 hz0_5 hy0_5 hz0_6 hy0_6 hz0_7 hy0_7; have hl1_gb1_0 : w2.cell? ⟨Ac, 0, none⟩ = some (.int .i64 Aj) := (blk_cell BKgb1.out 0).trans rfl; have hl1_gb1_1 : w2.cell? ⟨Ac, 1, none⟩ = some (.int .i64 Ak) := (blk_cell BKgb1.out 1).trans rfl; have hl1_gb1_2 : w2.cell? ⟨Ac, 2, none⟩ = some (.int .i64 Al) := (blk_cell BKgb1.out 2).trans rfl; have hl1_gb1_3 : w2.cell? ⟨Ac, 3, none⟩ = some (.int .i64 Am) := (blk_cell BKgb1.out 3).trans rfl; have hl1_gb1_4 : w2.cell? ⟨Ac, 4, none⟩ = some (.int .i64 An) := (blk_cell BKgb1.out 4).trans rfl; have hl1_gb1_5 : w2.cell? ⟨Ac, 5, none⟩ = some (.slice Ao Ai.length Ap) := (blk_cell BKgb1.out 5).trans rfl; have hl1_gb1_6 : w2.cell? ⟨Ac, 6, none⟩ = some (.int .i64 Aq) := (blk_cell BKgb1.out 6).trans rfl; have hl1_gb1_7 : w2.cell? ⟨Ac, 7, none⟩ = some (.bool Ar) := (blk_cell BKgb1.out 7).trans rfl) | ((with_reducible refine gate_callee (f := 34) rfl ?_); refine goesL_ (some 24) rfl rfl Try.func34 (by kernel_rfl) rfl #[.agg #[.int .i64 Aj, .int .i64 Ak, .int .i64 Al, .int .i64 Am, .int .i64 An, .slice Ao Ai.length Ap, .int .i64 Aq, .bool Ar], .int .i64 t2] rfl mp_q ?_; (with_reducible refine (laws_szRecord.calls Aj Ak Al Am An Ao Ap Ai Aq Ar t2 t3 _ ?side1 ?side2 EQ4.out).mono ?_); (case side1 => exact cs_q (Kd.C_below Bw.out HB.out)); (case side2 => exact Bx.out); rintro e_ w3 ⟨rfl, hb⟩; refine ⟨_, rfl, ?_⟩; replace BKgb1 := ak (blk_below (g := Ac) (bk_q BKgb1) hb); have NL3 := ak ((hb.size : w2.heap.size ≤ w3.heap.size)); replace HB := ak (below_step (bw_q HB) hb); (try clear hb); (try clear hk); clear hl1_gb1_0 hl1_gb1_1 hl1_gb1_2 hl1_gb1_3 hl1_gb1_4 hl1_gb1_5 hl1_gb1_6 hl1_gb1_7))
                replace BKgb1 := ak (blk_drew BKgb1.out); replace HB := ak (below_drew1 HB.out)
                have NL4 := ak (show w3.heap.size ≤ w3.drew.heap.size from Nat.le_refl _)
                refine start_ (n := 11) (S := fun w' => w'.cell? ⟨Ac, 0, none⟩ = some (.int .i64 Aj) ∧ w'.cell? ⟨Ac, 1, none⟩ = some (.int .i64 Ak) ∧ w'.cell? ⟨Ac, 2, none⟩ = some (.int .i64 Al) ∧ w'.cell? ⟨Ac, 3, none⟩ = some (.int .i64 Am) ∧ w'.cell? ⟨Ac, 4, none⟩ = some (.int .i64 An) ∧ w'.cell? ⟨Ac, 5, none⟩ = some (.slice Ao Ai.length Ap) ∧ w'.cell? ⟨Ac, 6, none⟩ = some (.int .i64 Aq) ∧ w'.cell? ⟨Ac, 7, none⟩ = some (.bool Ar)) (ds := []) (bL 11 0) (by kernel_rfl) rfl rfl (cz8_ BKgb1) (fun hHeld => ?_)
                generalize w3.drew = w4 at BKgb1 HB NL4 hHeld ⊢
                refine take_ (i := 2) (N := some 30) (v := ?_) (a' := ?_) (bL 11 4) rfl rfl (by kernel_rfl) (fun _ _ _ h => h) (Or.inl ⟨by rfl, ?_⟩) hHeld ?_ ?_; rotate_left; (rintro w' ⟨s0, s1, s2, s3, s4, s5, s6, s7⟩; go_simp; with_reducible rfl); rotate_left; (exact put_q)
                refine pr_ 0 28 (bL 11 5) rfl rfl ?_
                apply laws_FnExactFind.join_
                ·intro J
                 refine two_ (i := 1) (j := 8) (Ni := some 29) (Nj := some 6) (bL 11 7) (bL 11 261) rfl rfl rfl rfl (by kernel_rfl) (by decide) (by decide) (fun K hK => ?_) (fun K hK => ?_)
                 ·skip
                  refine goes_ Try.func27 (by kernel_rfl) rfl #[.slice A0 l0.length c0] (by rfl) rfl rfl mp_q ?_
                  (with_reducible refine (laws_toRecordS.calls k A0 c0 l0 t4 _ ?side1 ?side2 EQ7.out).mono ?_)
                  (case side1 => exact cs_q (Kd.C_below HR0.out HB.out))
                  (case side2 => exact Cx.out)
                  rintro e_ w5 ⟨v5, rfl, ho0, hb⟩
                  refine ⟨_, rfl, ?_⟩
                  replace BKgb1 := ak (blk_below (g := Ac) (bk_q BKgb1) hb); have NL5 := ak ((hb.size : w4.heap.size ≤ w5.heap.size))
                  have Av := ak (laws_FnExactFind.newS (Kd.S_mono ho0 (fun _ _ => trivial)) (b := w.heap.size) (n := w4.heap.size) (Below.size HB.out) (Nat.le_refl _))
                  replace HB := ak (below_step (bw_q HB) hb); (try clear hb); (try clear hk); (try clear ho0); obtain ⟨Ao6, co7, e_v5⟩ := Kd.S_slice Av.out; subst e_v5
                  have hl7_gb1_0 : w5.cell? ⟨Ac, 0, none⟩ = some (.int .i64 Aj) := (blk_cell BKgb1.out 0).trans rfl
                  have hl7_gb1_1 : w5.cell? ⟨Ac, 1, none⟩ = some (.int .i64 Ak) := (blk_cell BKgb1.out 1).trans rfl
                  have hl7_gb1_2 : w5.cell? ⟨Ac, 2, none⟩ = some (.int .i64 Al) := (blk_cell BKgb1.out 2).trans rfl
                  have hl7_gb1_3 : w5.cell? ⟨Ac, 3, none⟩ = some (.int .i64 Am) := (blk_cell BKgb1.out 3).trans rfl
                  have hl7_gb1_4 : w5.cell? ⟨Ac, 4, none⟩ = some (.int .i64 An) := (blk_cell BKgb1.out 4).trans rfl
                  have hl7_gb1_5 : w5.cell? ⟨Ac, 5, none⟩ = some (.slice Ao Ai.length Ap) := (blk_cell BKgb1.out 5).trans rfl
                  have hl7_gb1_6 : w5.cell? ⟨Ac, 6, none⟩ = some (.int .i64 Aq) := (blk_cell BKgb1.out 6).trans rfl
                  have hl7_gb1_7 : w5.cell? ⟨Ac, 7, none⟩ = some (.bool Ar) := (blk_cell BKgb1.out 7).trans rfl
                  refine hK.out _ _ (cz8_ BKgb1) (fun hHeld => ?_)
                  clear hK K
                  refine norm_ (a' := ?_) ?_ ?_; rotate_left; (show Act.put _ (some 29) _ = _; simp only [Act.put, List.setIfInBounds_toArray, List.set_cons_zero, List.set_cons_succ, i64_w, i32_w]; rfl)
                  obtain ⟨lo8, el8⟩ : ∃ n_ : Nat, n_ = w4.heap.size := ⟨_, rfl⟩; obtain ⟨hi8, eh8⟩ : ∃ n_ : Nat, n_ = w5.heap.size := ⟨_, rfl⟩
                  replace Av := ak (Kd.S_mono Av.out (fun k_ h_ => (⟨by have h1_ := h_.1; omega, by have h2_ := h_.2; omega⟩ : lo8 ≤ k_ ∧ k_ < hi8)))
                  have JA8 := ak (And.intro el8 eh8); clear el8 eh8
                  refine two_ (i := 3) (j := 8) (Ni := some 31) (Nj := some 6) (bL 11 15) (bL 11 263) rfl rfl rfl rfl (by kernel_rfl) (by decide) (by decide) (fun K hK => ?_) (fun K hK => ?_)
                  ·skip
                   refine goes_ Try.func36 (by kernel_rfl) rfl #[.agg #[.int .i64 Aj, .int .i64 Ak, .int .i64 Al, .int .i64 Am, .int .i64 An, .slice Ao Ai.length Ap, .int .i64 Aq, .bool Ar]] (by rfl) rfl rfl mp_q ?_
                   (with_reducible refine (laws_toRecord.calls k Aj Ak Al Am An Ao Ap Ai Aq Ar t9 Cp Cq Cr Cs Ct Cu Cv _ ?side1 ?side2 EQ9.out).mono ?_)
                   (case side1 => exact cs_q (Kd.C_below Bw.out HB.out))
                   (case side2 => exact Bx.out)
                   rintro e_ w6 ⟨v17, rfl, ho0, hb⟩
                   refine ⟨_, rfl, ?_⟩
                   replace Av := ak (Kd.S_below (kS_q Av) hb); replace BKgb1 := ak (blk_below (g := Ac) (bk_q BKgb1) hb); have NL6 := ak ((hb.size : w5.heap.size ≤ w6.heap.size))
                   have At := ak (laws_FnExactFind.newR (Kd.R_mono ho0 (fun _ _ => trivial)) (b := w.heap.size) (n := w5.heap.size) (Below.size HB.out) (Nat.le_refl _))
                   replace HB := ak (below_step (bw_q HB) hb); (try clear hb); (try clear hk); (try clear ho0); obtain ⟨Ao18, co19, e_v17⟩ := Kd.R_slice At.out; subst e_v17; clear hl7_gb1_0 hl7_gb1_1 hl7_gb1_2 hl7_gb1_3 hl7_gb1_4 hl7_gb1_5 hl7_gb1_6 hl7_gb1_7
                   refine hK.out _ _ (cz8_ BKgb1) (fun hHeld => ?_)
                   clear hK K
                   refine norm_ (a' := ?_) ?_ ?_; rotate_left; (show Act.put _ (some 31) _ = _; simp only [Act.put, List.setIfInBounds_toArray, List.set_cons_zero, List.set_cons_succ, i64_w, i32_w]; rfl)
                   obtain ⟨lo20, el20⟩ : ∃ n_ : Nat, n_ = w5.heap.size := ⟨_, rfl⟩; obtain ⟨hi20, eh20⟩ : ∃ n_ : Nat, n_ = w6.heap.size := ⟨_, rfl⟩
                   replace At := ak (Kd.R_mono At.out (fun k_ h_ => (⟨by have h1_ := h_.1; omega, by have h2_ := h_.2; omega⟩ : lo20 ≤ k_ ∧ k_ < hi20)))
                   have JA20 := ak (And.intro el20 eh20); clear el20 eh20
                   refine two_ (i := 4) (j := 8) (Ni := some 32) (Nj := some 6) (bL 11 31) (bL 11 271) rfl rfl rfl rfl (by kernel_rfl) (by decide) (by decide) (fun K hK => ?_) (fun K hK => ?_)
                   ·skip
                    refine goes_ Try.func35 (by kernel_rfl) rfl #[.slice Ao6 t4.length co7, .agg #[.int .i64 t9, .int .i64 Cp, .int .i64 Cq, .int .i64 Cr, .int .i64 Cs, .slice Ao18 Ct.length co19, .int .i64 Cu, .bool Cv]] (by rfl) rfl rfl mp_q ?_
                    (with_reducible refine (spec_Find.calls k Ao6 co7 t4 t9 Cp Cq Cr Cs Ao18 co19 Ct Cu Cv Ay Az Ba Bb Bc Bd Be Bf Co _ ?side1 ?side2 ?side3 ?side4 EQ10.out).mono ?_)
                    (case side1 => repeat (first | exact (Kd.S_reads' Av.out).2.2 | (with_reducible refine Kd.C_alloc ?_ _) | (with_reducible refine Kd.C_drewN ?_ _) | (with_reducible refine Kd.C_drew ?_)))
                    (case side2 => exact (by have e_ := Kd.S_reads' Av.out; exact Nat.le_trans (Nat.le_of_eq e_.1.symm) e_.2.1))
                    (case side3 => repeat (first | exact (Kd.R_reads' At.out).2.2 | (with_reducible refine Kd.C_alloc ?_ _) | (with_reducible refine Kd.C_drewN ?_ _) | (with_reducible refine Kd.C_drew ?_)))
                    (case side4 => exact (by have e_ := Kd.R_reads' At.out; exact Nat.le_trans (Nat.le_of_eq e_.1.symm) e_.2.1))
                    rintro e_ w7 ⟨v30, rfl, ho0, hb⟩
                    refine ⟨_, rfl, ?_⟩
                    replace Av := ak (Kd.S_below (kS_q Av) hb); replace At := ak (Kd.R_below (kR_q At) hb); replace BKgb1 := ak (blk_below (g := Ac) (bk_q BKgb1) hb); have NL7 := ak ((hb.size : w6.heap.size ≤ w7.heap.size))
                    have Ad := ak (laws_FnExactFind.newR (Kd.R_mono ho0 (fun _ _ => trivial)) (b := w.heap.size) (n := w6.heap.size) (Below.size HB.out) (Nat.le_refl _))
                    replace HB := ak (below_step (bw_q HB) hb); (try clear hb); (try clear hk); (try clear ho0); obtain ⟨Ao31, co32, e_v30⟩ := Kd.R_slice Ad.out; subst e_v30
                    refine hK.out _ _ (cz8_ BKgb1) (fun hHeld => ?_)
                    clear hK K
                    refine norm_ (a' := ?_) ?_ ?_; rotate_left; (show Act.put _ (some 32) _ = _; simp only [Act.put, List.setIfInBounds_toArray, List.set_cons_zero, List.set_cons_succ, i64_w, i32_w]; rfl)
                    obtain ⟨lo33, el33⟩ : ∃ n_ : Nat, n_ = w6.heap.size := ⟨_, rfl⟩; obtain ⟨hi33, eh33⟩ : ∃ n_ : Nat, n_ = w7.heap.size := ⟨_, rfl⟩
                    replace Ad := ak (Kd.R_mono Ad.out (fun k_ h_ => (⟨by have h1_ := h_.1; omega, by have h2_ := h_.2; omega⟩ : lo33 ≤ k_ ∧ k_ < hi33)))
                    have JA33 := ak (And.intro el33 eh33); clear el33 eh33
                    refine pr_ 5 27 (bL 11 63) rfl rfl ?_
                    refine pr_ 6 33 (bL 11 127) rfl rfl ?_
                    refine pr_ 7 34 (bL 11 255) rfl rfl ?_
                    refine one_ (i := 8) (N := some 6) (bL 11 511) rfl rfl (by kernel_rfl) (by decide) (fun K hK => ?_)
                    refine laws_FnExactFind.value_box (cs := #[.int .i64 0, .int .i64 0, .int .i64 0, .int .i64 0, .int .i64 0, .slice none 0 0, .int .i64 0, .bool false]) (t := 61) (by rfl) rfl ?hr ?_
                    (case hr => first | (go_simp; done) | (go_simp; rfl))
                    intro Ab hg w8 hbox hb
                    replace Av := ak (Kd.S_below (kS_q Av) hb); replace At := ak (Kd.R_below (kR_q At) hb); replace Ad := ak (Kd.R_below (kR_q Ad) hb); replace BKgb1 := ak (blk_below (g := Ac) (bk_q BKgb1) hb); have BKgb34 := ak (hbox)
                    have GLgb34 := ak ((by rw [hg]; exact Nat.le_refl _ : w7.heap.size ≤ Ab))
                    have GHgb34 := ak ((blk_lt hbox : Ab < w8.heap.size))
                    have GEgb34 := ak ((by rw [hg]; exact below_size (bw_q HB) : w.heap.size ≤ Ab))
                    have NL8 := ak ((hb.size : w7.heap.size ≤ w8.heap.size)); replace HB := ak (below_step (bw_q HB) hb); (try clear hb); (try clear hk); (try clear hw); (try clear hbox); (try clear hg)
                    have hz11_0 : w8.cell? ⟨Ab, 0, none⟩ = some (.int .i64 0) := (blk_cell BKgb34.out 0).trans rfl
                    have hy11_0 := blk_frozen BKgb34.out 0
                    have hz11_1 : w8.cell? ⟨Ab, 1, none⟩ = some (.int .i64 0) := (blk_cell BKgb34.out 1).trans rfl
                    have hy11_1 := blk_frozen BKgb34.out 1
                    have hz11_2 : w8.cell? ⟨Ab, 2, none⟩ = some (.int .i64 0) := (blk_cell BKgb34.out 2).trans rfl
                    have hy11_2 := blk_frozen BKgb34.out 2
                    have hz11_3 : w8.cell? ⟨Ab, 3, none⟩ = some (.int .i64 0) := (blk_cell BKgb34.out 3).trans rfl
                    have hy11_3 := blk_frozen BKgb34.out 3
                    have hz11_4 : w8.cell? ⟨Ab, 4, none⟩ = some (.int .i64 0) := (blk_cell BKgb34.out 4).trans rfl
                    have hy11_4 := blk_frozen BKgb34.out 4
                    have hz11_5 : w8.cell? ⟨Ab, 5, none⟩ = some (.slice none 0 0) := (blk_cell BKgb34.out 5).trans rfl
                    have hy11_5 := blk_frozen BKgb34.out 5
                    have hz11_6 : w8.cell? ⟨Ab, 6, none⟩ = some (.int .i64 0) := (blk_cell BKgb34.out 6).trans rfl
                    have hy11_6 := blk_frozen BKgb34.out 6
                    have hz11_7 : w8.cell? ⟨Ab, 7, none⟩ = some (.bool false) := (blk_cell BKgb34.out 7).trans rfl
                    have hy11_7 := blk_frozen BKgb34.out 7
                    refine hK.out _ _ (cz8_ BKgb1) (fun hHeld => ?_)
                    clear hK K
                    refine norm_ (a' := ?_) ?_ ?_; rotate_left; (show Act.put _ (some 6) _ = _; simp only [Act.put, List.setIfInBounds_toArray, List.set_cons_zero, List.set_cons_succ, i64_w, i32_w]; rfl)
                    refine one_ (i := 9) (N := none) (bL 11 1023) rfl rfl (by kernel_rfl) (by decide) (fun K hK => ?_)
                    have hqa0 : w8.cell? ⟨Ab, 0, none⟩ = some (.int .i64 0) := (blk_cell BKgb34.out 0).trans rfl
                    have hqb0 := blk_frozen BKgb34.out 0
                    have hqa1 : w8.cell? ⟨Ab, 1, none⟩ = some (.int .i64 0) := (blk_cell BKgb34.out 1).trans rfl
                    have hqb1 := blk_frozen BKgb34.out 1
                    have hqa2 : w8.cell? ⟨Ab, 2, none⟩ = some (.int .i64 0) := (blk_cell BKgb34.out 2).trans rfl
                    have hqb2 := blk_frozen BKgb34.out 2
                    have hqa3 : w8.cell? ⟨Ab, 3, none⟩ = some (.int .i64 0) := (blk_cell BKgb34.out 3).trans rfl
                    have hqb3 := blk_frozen BKgb34.out 3
                    have hqa4 : w8.cell? ⟨Ab, 4, none⟩ = some (.int .i64 0) := (blk_cell BKgb34.out 4).trans rfl
                    have hqb4 := blk_frozen BKgb34.out 4
                    have hqa5 : w8.cell? ⟨Ab, 5, none⟩ = some (.slice none 0 0) := (blk_cell BKgb34.out 5).trans rfl
                    have hqb5 := blk_frozen BKgb34.out 5
                    have hqa6 : w8.cell? ⟨Ab, 6, none⟩ = some (.int .i64 0) := (blk_cell BKgb34.out 6).trans rfl
                    have hqb6 := blk_frozen BKgb34.out 6
                    have hqa7 : w8.cell? ⟨Ab, 7, none⟩ = some (.bool false) := (blk_cell BKgb34.out 7).trans rfl
                    have hqb7 := blk_frozen BKgb34.out 7
                    refine laws_FnExactFind.skip_box (w1 := ((((((((w8.setCell ⟨Ab, 0, none⟩ (.int .i64 Ay)).setCell ⟨Ab, 1, none⟩ (.int .i64 Az)).setCell ⟨Ab, 2, none⟩ (.int .i64 Ba)).setCell ⟨Ab, 3, none⟩ (.int .i64 Bb)).setCell ⟨Ab, 4, none⟩ (.int .i64 Bc)).setCell ⟨Ab, 5, none⟩ (.slice Ao31 Bd.length co32)).setCell ⟨Ab, 6, none⟩ (.int .i64 Be)).setCell ⟨Ab, 7, none⟩ (.bool Bf))) (by rfl) rfl ?hr ?_
                    (case hr => first | (go_simp; done) | (go_simp; rfl))
                    intro w9 hw
                    have hk : Kept w8 w9 (fun k_ => k_ = Ab) := (by rw [hw]; exact Kept.setCell (Kept.setCell (Kept.setCell (Kept.setCell (Kept.setCell (Kept.setCell (Kept.setCell (Kept.setCell (Kept.refl w8 (fun k_ => k_ = Ab)) (.inl rfl) _) (.inl rfl) _) (.inl rfl) _) (.inl rfl) _) (.inl rfl) _) (.inl rfl) _) (.inl rfl) _) (.inl rfl) _)
                    replace Av := ak (Kd.S_kept (kS_q Av) hk (fun k_ h1_ h2_ => by have q0 := NL1.out; have q1 := NL2.out; have q2 := NL3.out; have q3 := NL4.out; have q4 := NL5.out; have q5 := JA8.out; have q6 := NL6.out; have q7 := JA20.out; have q8 := NL7.out; have q9 := JA33.out; have q10 := NL8.out; have g1 := GLgb34.out; have g2 := GHgb34.out; have a1 := h1_.1; have a2 := h1_.2; have a3 : k_ = Ab := h2_; omega))
                    replace At := ak (Kd.R_kept (kR_q At) hk (fun k_ h1_ h2_ => by have q0 := NL1.out; have q1 := NL2.out; have q2 := NL3.out; have q3 := NL4.out; have q4 := NL5.out; have q5 := JA8.out; have q6 := NL6.out; have q7 := JA20.out; have q8 := NL7.out; have q9 := JA33.out; have q10 := NL8.out; have g1 := GLgb34.out; have g2 := GHgb34.out; have a1 := h1_.1; have a2 := h1_.2; have a3 : k_ = Ab := h2_; omega))
                    replace Ad := ak (Kd.R_kept (kR_q Ad) hk (fun k_ h1_ h2_ => by have q0 := NL1.out; have q1 := NL2.out; have q2 := NL3.out; have q3 := NL4.out; have q4 := NL5.out; have q5 := JA8.out; have q6 := NL6.out; have q7 := JA20.out; have q8 := NL7.out; have q9 := JA33.out; have q10 := NL8.out; have g1 := GLgb34.out; have g2 := GHgb34.out; have a1 := h1_.1; have a2 := h1_.2; have a3 : k_ = Ab := h2_; omega))
                    replace BKgb1 := ak (blk_kept (g := Ac) (o := .cells #[.int .i64 Aj, .int .i64 Ak, .int .i64 Al, .int .i64 Am, .int .i64 An, .slice Ao Ai.length Ap, .int .i64 Aq, .bool Ar] 57 (0, 0)) (bk_q BKgb1) hk (fun h2_ => by have a3 : Ac = Ab := h2_; have q0 := NL1.out; have q1 := NL2.out; have q2 := NL3.out; have q3 := NL4.out; have q4 := NL5.out; have q5 := JA8.out; have q6 := NL6.out; have q7 := JA20.out; have q8 := NL7.out; have q9 := JA33.out; have q10 := NL8.out; have g1 := GLgb34.out; have g2 := GHgb34.out; have g3 := GLgb1.out; have g4 := GHgb1.out; omega))
                    replace BKgb34 := ak ((by rw [hw]; exact laws_FnExactFind.set8 BKgb34.out : w9.heap[Ab]? = some (.cells #[.int .i64 Ay, .int .i64 Az, .int .i64 Ba, .int .i64 Bb, .int .i64 Bc, .slice Ao31 Bd.length co32, .int .i64 Be, .bool Bf] 61 (0, 0))))
                    replace HB := ak ((by rw [hw]; exact below_set (below_set (below_set (below_set (below_set (below_set (below_set (below_set (HB.out) GEgb34.out) GEgb34.out) GEgb34.out) GEgb34.out) GEgb34.out) GEgb34.out) GEgb34.out) GEgb34.out : Below w.heap.size w w9))
                    have NL9 := ak ((hk.1 : w8.heap.size ≤ w9.heap.size)); (try clear hb); (try clear hk); (try clear hw); (try clear hbox); (try clear hg); clear hz11_0 hy11_0 hz11_1 hy11_1 hz11_2 hy11_2 hz11_3 hy11_3 hz11_4 hy11_4 hz11_5 hy11_5 hz11_6 hy11_6 hz11_7 hy11_7
                    refine hK.out _ _ (cz8_ BKgb1) (fun hHeld => ?_)
                    clear hK K; clear hqa0 hqb0 hqa1 hqb1 hqa2 hqb2 hqa3 hqb3 hqa4 hqb4 hqa5 hqb5 hqa6 hqb6 hqa7 hqb7
                    refine pr_ 10 7 (bL 11 2047) rfl rfl ?_
                    have JN0 : Aside0 (w4.heap.size ≤ w9.heap.size ∧ w4.heap.size ≤ lo20 ∧ lo20 ≤ hi20 ∧ hi20 ≤ w9.heap.size ∧ w4.heap.size ≤ lo33 ∧ lo33 ≤ hi33 ∧ hi33 ≤ w9.heap.size ∧ w4.heap.size ≤ lo8 ∧ lo8 ≤ hi8 ∧ hi8 ≤ w9.heap.size ∧ w4.heap.size ≤ Ab ∧ Ab ≤ Ab + 1 ∧ Ab + 1 ≤ w9.heap.size ∧ (hi33 ≤ lo20 ∨ hi20 ≤ lo33) ∧ (hi8 ≤ lo20 ∨ hi20 ≤ lo8) ∧ (hi8 ≤ lo33 ∨ hi33 ≤ lo8) ∧ (Ab + 1 ≤ lo20 ∨ hi20 ≤ Ab) ∧ (Ab + 1 ≤ lo33 ∨ hi33 ≤ Ab) ∧ (Ab + 1 ≤ lo8 ∨ hi8 ≤ Ab)) := ⟨by have q0_ := NL1.out; have q1_ := NL2.out; have q2_ := NL3.out; have q3_ := NL4.out; have q4_ := NL5.out; have q5_ := JA8.out; have q6_ := NL6.out; have q7_ := JA20.out; have q8_ := NL7.out; have q9_ := JA33.out; have q10_ := NL8.out; have q11_ := NL9.out; have g0_ := GLgb34.out; have h0_ := GHgb34.out; refine ⟨by omega, by omega, by omega, by omega, by omega, by omega, by omega, by omega, by omega, by omega, by omega, by omega, by omega, by omega, by omega, by omega, by omega, by omega, by omega⟩⟩
                    have GL2_ : Aside0 (w4.heap.size ≤ Ab) := ⟨by have j_ := JN0.out; omega⟩
                    have GH2_ : Aside0 (Ab < w9.heap.size) := ⟨by have j_ := JN0.out; omega⟩
                    clear GLgb34 GHgb34; have GLgb34 := GL2_; have GHgb34 := GH2_; clear GL2_ GH2_
                    (try clear NL5); (try clear JA8); (try clear NL6); (try clear JA20); (try clear NL7); (try clear JA33); (try clear NL8); (try clear NL9); (try clear hHeld)
                    revert JN0
                    revert HB
                    revert GEgb34
                    revert GHgb34
                    revert GLgb34
                    revert BKgb34
                    revert BKgb1
                    revert Av
                    revert Ad
                    revert At
                    revert co7
                    revert Ao6
                    revert co32
                    revert Ao31
                    revert co19
                    revert Ao18
                    revert hi8
                    revert lo8
                    revert hi33
                    revert lo33
                    revert hi20
                    revert lo20
                    revert Ab
                    revert w9
                    exact J.out
                   ·skip
                    refine laws_FnExactFind.value_box (cs := #[.int .i64 0, .int .i64 0, .int .i64 0, .int .i64 0, .int .i64 0, .slice none 0 0, .int .i64 0, .bool false]) (t := 61) (by rfl) rfl ?hr ?_
                    (case hr => first | (go_simp; done) | (go_simp; rfl))
                    intro Ab hg w7 hbox hb
                    replace Av := ak (Kd.S_below (kS_q Av) hb); replace At := ak (Kd.R_below (kR_q At) hb); replace BKgb1 := ak (blk_below (g := Ac) (bk_q BKgb1) hb); have BKgb34 := ak (hbox)
                    have GLgb34 := ak ((by rw [hg]; exact Nat.le_refl _ : w6.heap.size ≤ Ab))
                    have GHgb34 := ak ((blk_lt hbox : Ab < w7.heap.size))
                    have GEgb34 := ak ((by rw [hg]; exact below_size (bw_q HB) : w.heap.size ≤ Ab))
                    have NL7 := ak ((hb.size : w6.heap.size ≤ w7.heap.size)); replace HB := ak (below_step (bw_q HB) hb); (try clear hb); (try clear hk); (try clear hw); (try clear hbox); (try clear hg)
                    have hz11_0 : w7.cell? ⟨Ab, 0, none⟩ = some (.int .i64 0) := (blk_cell BKgb34.out 0).trans rfl
                    have hy11_0 := blk_frozen BKgb34.out 0
                    have hz11_1 : w7.cell? ⟨Ab, 1, none⟩ = some (.int .i64 0) := (blk_cell BKgb34.out 1).trans rfl
                    have hy11_1 := blk_frozen BKgb34.out 1
                    have hz11_2 : w7.cell? ⟨Ab, 2, none⟩ = some (.int .i64 0) := (blk_cell BKgb34.out 2).trans rfl
                    have hy11_2 := blk_frozen BKgb34.out 2
                    have hz11_3 : w7.cell? ⟨Ab, 3, none⟩ = some (.int .i64 0) := (blk_cell BKgb34.out 3).trans rfl
                    have hy11_3 := blk_frozen BKgb34.out 3
                    have hz11_4 : w7.cell? ⟨Ab, 4, none⟩ = some (.int .i64 0) := (blk_cell BKgb34.out 4).trans rfl
                    have hy11_4 := blk_frozen BKgb34.out 4
                    have hz11_5 : w7.cell? ⟨Ab, 5, none⟩ = some (.slice none 0 0) := (blk_cell BKgb34.out 5).trans rfl
                    have hy11_5 := blk_frozen BKgb34.out 5
                    have hz11_6 : w7.cell? ⟨Ab, 6, none⟩ = some (.int .i64 0) := (blk_cell BKgb34.out 6).trans rfl
                    have hy11_6 := blk_frozen BKgb34.out 6
                    have hz11_7 : w7.cell? ⟨Ab, 7, none⟩ = some (.bool false) := (blk_cell BKgb34.out 7).trans rfl
                    have hy11_7 := blk_frozen BKgb34.out 7
                    refine hK.out _ _ (cz8_ BKgb1) (fun hHeld => ?_)
                    clear hK K
                    refine norm_ (a' := ?_) ?_ ?_; rotate_left; (show Act.put _ (some 6) _ = _; simp only [Act.put, List.setIfInBounds_toArray, List.set_cons_zero, List.set_cons_succ, i64_w, i32_w]; rfl)
                    refine one_ (i := 4) (N := some 32) (bL 11 287) rfl rfl (by kernel_rfl) (by decide) (fun K hK => ?_)
                    refine goes_ Try.func35 (by kernel_rfl) rfl #[.slice Ao6 t4.length co7, .agg #[.int .i64 t9, .int .i64 Cp, .int .i64 Cq, .int .i64 Cr, .int .i64 Cs, .slice Ao18 Ct.length co19, .int .i64 Cu, .bool Cv]] (by rfl) rfl rfl mp_q ?_
                    (with_reducible refine (spec_Find.calls k Ao6 co7 t4 t9 Cp Cq Cr Cs Ao18 co19 Ct Cu Cv Ay Az Ba Bb Bc Bd Be Bf Co _ ?side1 ?side2 ?side3 ?side4 EQ10.out).mono ?_)
                    (case side1 => repeat (first | exact (Kd.S_reads' Av.out).2.2 | (with_reducible refine Kd.C_alloc ?_ _) | (with_reducible refine Kd.C_drewN ?_ _) | (with_reducible refine Kd.C_drew ?_)))
                    (case side2 => exact (by have e_ := Kd.S_reads' Av.out; exact Nat.le_trans (Nat.le_of_eq e_.1.symm) e_.2.1))
                    (case side3 => repeat (first | exact (Kd.R_reads' At.out).2.2 | (with_reducible refine Kd.C_alloc ?_ _) | (with_reducible refine Kd.C_drewN ?_ _) | (with_reducible refine Kd.C_drew ?_)))
                    (case side4 => exact (by have e_ := Kd.R_reads' At.out; exact Nat.le_trans (Nat.le_of_eq e_.1.symm) e_.2.1))
                    rintro e_ w8 ⟨v30, rfl, ho0, hb⟩
                    refine ⟨_, rfl, ?_⟩
                    replace Av := ak (Kd.S_below (kS_q Av) hb); replace At := ak (Kd.R_below (kR_q At) hb); replace BKgb1 := ak (blk_below (g := Ac) (bk_q BKgb1) hb); replace BKgb34 := ak (blk_below (g := Ab) (bk_q BKgb34) hb); have NL8 := ak ((hb.size : w7.heap.size ≤ w8.heap.size))
                    have Ad := ak (laws_FnExactFind.newR (Kd.R_mono ho0 (fun _ _ => trivial)) (b := w.heap.size) (n := w7.heap.size) (Below.size HB.out) (Nat.le_refl _))
                    replace HB := ak (below_step (bw_q HB) hb); (try clear hb); (try clear hk); (try clear ho0); obtain ⟨Ao31, co32, e_v30⟩ := Kd.R_slice Ad.out; subst e_v30; clear hz11_0 hy11_0 hz11_1 hy11_1 hz11_2 hy11_2 hz11_3 hy11_3 hz11_4 hy11_4 hz11_5 hy11_5 hz11_6 hy11_6 hz11_7 hy11_7
                    refine hK.out _ _ (cz8_ BKgb1) (fun hHeld => ?_)
                    clear hK K
                    refine norm_ (a' := ?_) ?_ ?_; rotate_left; (show Act.put _ (some 32) _ = _; simp only [Act.put, List.setIfInBounds_toArray, List.set_cons_zero, List.set_cons_succ, i64_w, i32_w]; rfl)
                    obtain ⟨lo33, el33⟩ : ∃ n_ : Nat, n_ = w7.heap.size := ⟨_, rfl⟩; obtain ⟨hi33, eh33⟩ : ∃ n_ : Nat, n_ = w8.heap.size := ⟨_, rfl⟩
                    replace Ad := ak (Kd.R_mono Ad.out (fun k_ h_ => (⟨by have h1_ := h_.1; omega, by have h2_ := h_.2; omega⟩ : lo33 ≤ k_ ∧ k_ < hi33)))
                    have JA33 := ak (And.intro el33 eh33); clear el33 eh33
                    refine pr_ 5 27 (bL 11 319) rfl rfl ?_
                    refine pr_ 6 33 (bL 11 383) rfl rfl ?_
                    refine pr_ 7 34 (bL 11 511) rfl rfl ?_
                    refine one_ (i := 9) (N := none) (bL 11 1023) rfl rfl (by kernel_rfl) (by decide) (fun K hK => ?_)
                    have hqa0 : w8.cell? ⟨Ab, 0, none⟩ = some (.int .i64 0) := (blk_cell BKgb34.out 0).trans rfl
                    have hqb0 := blk_frozen BKgb34.out 0
                    have hqa1 : w8.cell? ⟨Ab, 1, none⟩ = some (.int .i64 0) := (blk_cell BKgb34.out 1).trans rfl
                    have hqb1 := blk_frozen BKgb34.out 1
                    have hqa2 : w8.cell? ⟨Ab, 2, none⟩ = some (.int .i64 0) := (blk_cell BKgb34.out 2).trans rfl
                    have hqb2 := blk_frozen BKgb34.out 2
                    have hqa3 : w8.cell? ⟨Ab, 3, none⟩ = some (.int .i64 0) := (blk_cell BKgb34.out 3).trans rfl
                    have hqb3 := blk_frozen BKgb34.out 3
                    have hqa4 : w8.cell? ⟨Ab, 4, none⟩ = some (.int .i64 0) := (blk_cell BKgb34.out 4).trans rfl
                    have hqb4 := blk_frozen BKgb34.out 4
                    have hqa5 : w8.cell? ⟨Ab, 5, none⟩ = some (.slice none 0 0) := (blk_cell BKgb34.out 5).trans rfl
                    have hqb5 := blk_frozen BKgb34.out 5
                    have hqa6 : w8.cell? ⟨Ab, 6, none⟩ = some (.int .i64 0) := (blk_cell BKgb34.out 6).trans rfl
                    have hqb6 := blk_frozen BKgb34.out 6
                    have hqa7 : w8.cell? ⟨Ab, 7, none⟩ = some (.bool false) := (blk_cell BKgb34.out 7).trans rfl
                    have hqb7 := blk_frozen BKgb34.out 7
                    refine laws_FnExactFind.skip_box (w1 := ((((((((w8.setCell ⟨Ab, 0, none⟩ (.int .i64 Ay)).setCell ⟨Ab, 1, none⟩ (.int .i64 Az)).setCell ⟨Ab, 2, none⟩ (.int .i64 Ba)).setCell ⟨Ab, 3, none⟩ (.int .i64 Bb)).setCell ⟨Ab, 4, none⟩ (.int .i64 Bc)).setCell ⟨Ab, 5, none⟩ (.slice Ao31 Bd.length co32)).setCell ⟨Ab, 6, none⟩ (.int .i64 Be)).setCell ⟨Ab, 7, none⟩ (.bool Bf))) (by rfl) rfl ?hr ?_
                    (case hr => first | (go_simp; done) | (go_simp; rfl))
                    intro w9 hw
                    have hk : Kept w8 w9 (fun k_ => k_ = Ab) := (by rw [hw]; exact Kept.setCell (Kept.setCell (Kept.setCell (Kept.setCell (Kept.setCell (Kept.setCell (Kept.setCell (Kept.setCell (Kept.refl w8 (fun k_ => k_ = Ab)) (.inl rfl) _) (.inl rfl) _) (.inl rfl) _) (.inl rfl) _) (.inl rfl) _) (.inl rfl) _) (.inl rfl) _) (.inl rfl) _)
                    replace Av := ak (Kd.S_kept (kS_q Av) hk (fun k_ h1_ h2_ => by have q0 := NL1.out; have q1 := NL2.out; have q2 := NL3.out; have q3 := NL4.out; have q4 := NL5.out; have q5 := JA8.out; have q6 := NL6.out; have q7 := JA20.out; have q8 := NL7.out; have q9 := NL8.out; have q10 := JA33.out; have g1 := GLgb34.out; have g2 := GHgb34.out; have a1 := h1_.1; have a2 := h1_.2; have a3 : k_ = Ab := h2_; omega))
                    replace At := ak (Kd.R_kept (kR_q At) hk (fun k_ h1_ h2_ => by have q0 := NL1.out; have q1 := NL2.out; have q2 := NL3.out; have q3 := NL4.out; have q4 := NL5.out; have q5 := JA8.out; have q6 := NL6.out; have q7 := JA20.out; have q8 := NL7.out; have q9 := NL8.out; have q10 := JA33.out; have g1 := GLgb34.out; have g2 := GHgb34.out; have a1 := h1_.1; have a2 := h1_.2; have a3 : k_ = Ab := h2_; omega))
                    replace Ad := ak (Kd.R_kept (kR_q Ad) hk (fun k_ h1_ h2_ => by have q0 := NL1.out; have q1 := NL2.out; have q2 := NL3.out; have q3 := NL4.out; have q4 := NL5.out; have q5 := JA8.out; have q6 := NL6.out; have q7 := JA20.out; have q8 := NL7.out; have q9 := NL8.out; have q10 := JA33.out; have g1 := GLgb34.out; have g2 := GHgb34.out; have a1 := h1_.1; have a2 := h1_.2; have a3 : k_ = Ab := h2_; omega))
                    replace BKgb1 := ak (blk_kept (g := Ac) (o := .cells #[.int .i64 Aj, .int .i64 Ak, .int .i64 Al, .int .i64 Am, .int .i64 An, .slice Ao Ai.length Ap, .int .i64 Aq, .bool Ar] 57 (0, 0)) (bk_q BKgb1) hk (fun h2_ => by have a3 : Ac = Ab := h2_; have q0 := NL1.out; have q1 := NL2.out; have q2 := NL3.out; have q3 := NL4.out; have q4 := NL5.out; have q5 := JA8.out; have q6 := NL6.out; have q7 := JA20.out; have q8 := NL7.out; have q9 := NL8.out; have q10 := JA33.out; have g1 := GLgb34.out; have g2 := GHgb34.out; have g3 := GLgb1.out; have g4 := GHgb1.out; omega))
                    replace BKgb34 := ak ((by rw [hw]; exact laws_FnExactFind.set8 BKgb34.out : w9.heap[Ab]? = some (.cells #[.int .i64 Ay, .int .i64 Az, .int .i64 Ba, .int .i64 Bb, .int .i64 Bc, .slice Ao31 Bd.length co32, .int .i64 Be, .bool Bf] 61 (0, 0))))
                    replace HB := ak ((by rw [hw]; exact below_set (below_set (below_set (below_set (below_set (below_set (below_set (below_set (HB.out) GEgb34.out) GEgb34.out) GEgb34.out) GEgb34.out) GEgb34.out) GEgb34.out) GEgb34.out) GEgb34.out : Below w.heap.size w w9))
                    have NL9 := ak ((hk.1 : w8.heap.size ≤ w9.heap.size)); (try clear hb); (try clear hk); (try clear hw); (try clear hbox); (try clear hg)
                    refine hK.out _ _ (cz8_ BKgb1) (fun hHeld => ?_)
                    clear hK K; clear hqa0 hqb0 hqa1 hqb1 hqa2 hqb2 hqa3 hqb3 hqa4 hqb4 hqa5 hqb5 hqa6 hqb6 hqa7 hqb7
                    refine pr_ 10 7 (bL 11 2047) rfl rfl ?_
                    have JN0 : Aside0 (w4.heap.size ≤ w9.heap.size ∧ w4.heap.size ≤ lo20 ∧ lo20 ≤ hi20 ∧ hi20 ≤ w9.heap.size ∧ w4.heap.size ≤ lo33 ∧ lo33 ≤ hi33 ∧ hi33 ≤ w9.heap.size ∧ w4.heap.size ≤ lo8 ∧ lo8 ≤ hi8 ∧ hi8 ≤ w9.heap.size ∧ w4.heap.size ≤ Ab ∧ Ab ≤ Ab + 1 ∧ Ab + 1 ≤ w9.heap.size ∧ (hi33 ≤ lo20 ∨ hi20 ≤ lo33) ∧ (hi8 ≤ lo20 ∨ hi20 ≤ lo8) ∧ (hi8 ≤ lo33 ∨ hi33 ≤ lo8) ∧ (Ab + 1 ≤ lo20 ∨ hi20 ≤ Ab) ∧ (Ab + 1 ≤ lo33 ∨ hi33 ≤ Ab) ∧ (Ab + 1 ≤ lo8 ∨ hi8 ≤ Ab)) := ⟨by have q0_ := NL1.out; have q1_ := NL2.out; have q2_ := NL3.out; have q3_ := NL4.out; have q4_ := NL5.out; have q5_ := JA8.out; have q6_ := NL6.out; have q7_ := JA20.out; have q8_ := NL7.out; have q9_ := NL8.out; have q10_ := JA33.out; have q11_ := NL9.out; have g0_ := GLgb34.out; have h0_ := GHgb34.out; refine ⟨by omega, by omega, by omega, by omega, by omega, by omega, by omega, by omega, by omega, by omega, by omega, by omega, by omega, by omega, by omega, by omega, by omega, by omega, by omega⟩⟩
                    have GL2_ : Aside0 (w4.heap.size ≤ Ab) := ⟨by have j_ := JN0.out; omega⟩
                    have GH2_ : Aside0 (Ab < w9.heap.size) := ⟨by have j_ := JN0.out; omega⟩
                    clear GLgb34 GHgb34; have GLgb34 := GL2_; have GHgb34 := GH2_; clear GL2_ GH2_
                    (try clear NL5); (try clear JA8); (try clear NL6); (try clear JA20); (try clear NL7); (try clear NL8); (try clear JA33); (try clear NL9); (try clear hHeld)
                    revert JN0
                    revert HB
                    revert GEgb34
                    revert GHgb34
                    revert GLgb34
                    revert BKgb34
                    revert BKgb1
                    revert Av
                    revert Ad
                    revert At
                    revert co7
                    revert Ao6
                    revert co32
                    revert Ao31
                    revert co19
                    revert Ao18
                    revert hi8
                    revert lo8
                    revert hi33
                    revert lo33
                    revert hi20
                    revert lo20
                    revert Ab
                    revert w9
                    exact J.out
                  ·skip
                   refine laws_FnExactFind.value_box (cs := #[.int .i64 0, .int .i64 0, .int .i64 0, .int .i64 0, .int .i64 0, .slice none 0 0, .int .i64 0, .bool false]) (t := 61) (by rfl) rfl ?hr ?_
                   (case hr => first | (go_simp; done) | (go_simp; rfl))
                   intro Ab hg w6 hbox hb
                   replace Av := ak (Kd.S_below (kS_q Av) hb); replace BKgb1 := ak (blk_below (g := Ac) (bk_q BKgb1) hb); have BKgb34 := ak (hbox)
                   have GLgb34 := ak ((by rw [hg]; exact Nat.le_refl _ : w5.heap.size ≤ Ab))
                   have GHgb34 := ak ((blk_lt hbox : Ab < w6.heap.size))
                   have GEgb34 := ak ((by rw [hg]; exact below_size (bw_q HB) : w.heap.size ≤ Ab))
                   have NL6 := ak ((hb.size : w5.heap.size ≤ w6.heap.size)); replace HB := ak (below_step (bw_q HB) hb); (try clear hb); (try clear hk); (try clear hw); (try clear hbox); (try clear hg); clear hl7_gb1_0 hl7_gb1_1 hl7_gb1_2 hl7_gb1_3 hl7_gb1_4 hl7_gb1_5 hl7_gb1_6 hl7_gb1_7
                   have hz11_0 : w6.cell? ⟨Ab, 0, none⟩ = some (.int .i64 0) := (blk_cell BKgb34.out 0).trans rfl
                   have hy11_0 := blk_frozen BKgb34.out 0
                   have hz11_1 : w6.cell? ⟨Ab, 1, none⟩ = some (.int .i64 0) := (blk_cell BKgb34.out 1).trans rfl
                   have hy11_1 := blk_frozen BKgb34.out 1
                   have hz11_2 : w6.cell? ⟨Ab, 2, none⟩ = some (.int .i64 0) := (blk_cell BKgb34.out 2).trans rfl
                   have hy11_2 := blk_frozen BKgb34.out 2
                   have hz11_3 : w6.cell? ⟨Ab, 3, none⟩ = some (.int .i64 0) := (blk_cell BKgb34.out 3).trans rfl
                   have hy11_3 := blk_frozen BKgb34.out 3
                   have hz11_4 : w6.cell? ⟨Ab, 4, none⟩ = some (.int .i64 0) := (blk_cell BKgb34.out 4).trans rfl
                   have hy11_4 := blk_frozen BKgb34.out 4
                   have hz11_5 : w6.cell? ⟨Ab, 5, none⟩ = some (.slice none 0 0) := (blk_cell BKgb34.out 5).trans rfl
                   have hy11_5 := blk_frozen BKgb34.out 5
                   have hz11_6 : w6.cell? ⟨Ab, 6, none⟩ = some (.int .i64 0) := (blk_cell BKgb34.out 6).trans rfl
                   have hy11_6 := blk_frozen BKgb34.out 6
                   have hz11_7 : w6.cell? ⟨Ab, 7, none⟩ = some (.bool false) := (blk_cell BKgb34.out 7).trans rfl
                   have hy11_7 := blk_frozen BKgb34.out 7
                   refine hK.out _ _ (cz8_ BKgb1) (fun hHeld => ?_)
                   clear hK K
                   refine norm_ (a' := ?_) ?_ ?_; rotate_left; (show Act.put _ (some 6) _ = _; simp only [Act.put, List.setIfInBounds_toArray, List.set_cons_zero, List.set_cons_succ, i64_w, i32_w]; rfl)
                   refine one_ (i := 3) (N := some 31) (bL 11 271) rfl rfl (by kernel_rfl) (by decide) (fun K hK => ?_)
                   refine goes_ Try.func36 (by kernel_rfl) rfl #[.agg #[.int .i64 Aj, .int .i64 Ak, .int .i64 Al, .int .i64 Am, .int .i64 An, .slice Ao Ai.length Ap, .int .i64 Aq, .bool Ar]] (by rfl) rfl rfl mp_q ?_
                   (with_reducible refine (laws_toRecord.calls k Aj Ak Al Am An Ao Ap Ai Aq Ar t9 Cp Cq Cr Cs Ct Cu Cv _ ?side1 ?side2 EQ9.out).mono ?_)
                   (case side1 => exact cs_q (Kd.C_below Bw.out HB.out))
                   (case side2 => exact Bx.out)
                   rintro e_ w7 ⟨v17, rfl, ho0, hb⟩
                   refine ⟨_, rfl, ?_⟩
                   replace Av := ak (Kd.S_below (kS_q Av) hb); replace BKgb1 := ak (blk_below (g := Ac) (bk_q BKgb1) hb); replace BKgb34 := ak (blk_below (g := Ab) (bk_q BKgb34) hb); have NL7 := ak ((hb.size : w6.heap.size ≤ w7.heap.size))
                   have At := ak (laws_FnExactFind.newR (Kd.R_mono ho0 (fun _ _ => trivial)) (b := w.heap.size) (n := w6.heap.size) (Below.size HB.out) (Nat.le_refl _))
                   replace HB := ak (below_step (bw_q HB) hb); (try clear hb); (try clear hk); (try clear ho0); obtain ⟨Ao18, co19, e_v17⟩ := Kd.R_slice At.out; subst e_v17; clear hz11_0 hy11_0 hz11_1 hy11_1 hz11_2 hy11_2 hz11_3 hy11_3 hz11_4 hy11_4 hz11_5 hy11_5 hz11_6 hy11_6 hz11_7 hy11_7
                   refine hK.out _ _ (cz8_ BKgb1) (fun hHeld => ?_)
                   clear hK K
                   refine norm_ (a' := ?_) ?_ ?_; rotate_left; (show Act.put _ (some 31) _ = _; simp only [Act.put, List.setIfInBounds_toArray, List.set_cons_zero, List.set_cons_succ, i64_w, i32_w]; rfl)
                   obtain ⟨lo20, el20⟩ : ∃ n_ : Nat, n_ = w6.heap.size := ⟨_, rfl⟩; obtain ⟨hi20, eh20⟩ : ∃ n_ : Nat, n_ = w7.heap.size := ⟨_, rfl⟩
                   replace At := ak (Kd.R_mono At.out (fun k_ h_ => (⟨by have h1_ := h_.1; omega, by have h2_ := h_.2; omega⟩ : lo20 ≤ k_ ∧ k_ < hi20)))
                   have JA20 := ak (And.intro el20 eh20); clear el20 eh20
                   refine one_ (i := 4) (N := some 32) (bL 11 287) rfl rfl (by kernel_rfl) (by decide) (fun K hK => ?_)
                   refine goes_ Try.func35 (by kernel_rfl) rfl #[.slice Ao6 t4.length co7, .agg #[.int .i64 t9, .int .i64 Cp, .int .i64 Cq, .int .i64 Cr, .int .i64 Cs, .slice Ao18 Ct.length co19, .int .i64 Cu, .bool Cv]] (by rfl) rfl rfl mp_q ?_
                   (with_reducible refine (spec_Find.calls k Ao6 co7 t4 t9 Cp Cq Cr Cs Ao18 co19 Ct Cu Cv Ay Az Ba Bb Bc Bd Be Bf Co _ ?side1 ?side2 ?side3 ?side4 EQ10.out).mono ?_)
                   (case side1 => repeat (first | exact (Kd.S_reads' Av.out).2.2 | (with_reducible refine Kd.C_alloc ?_ _) | (with_reducible refine Kd.C_drewN ?_ _) | (with_reducible refine Kd.C_drew ?_)))
                   (case side2 => exact (by have e_ := Kd.S_reads' Av.out; exact Nat.le_trans (Nat.le_of_eq e_.1.symm) e_.2.1))
                   (case side3 => repeat (first | exact (Kd.R_reads' At.out).2.2 | (with_reducible refine Kd.C_alloc ?_ _) | (with_reducible refine Kd.C_drewN ?_ _) | (with_reducible refine Kd.C_drew ?_)))
                   (case side4 => exact (by have e_ := Kd.R_reads' At.out; exact Nat.le_trans (Nat.le_of_eq e_.1.symm) e_.2.1))
                   rintro e_ w8 ⟨v30, rfl, ho0, hb⟩
                   refine ⟨_, rfl, ?_⟩
                   replace Av := ak (Kd.S_below (kS_q Av) hb); replace At := ak (Kd.R_below (kR_q At) hb); replace BKgb1 := ak (blk_below (g := Ac) (bk_q BKgb1) hb); replace BKgb34 := ak (blk_below (g := Ab) (bk_q BKgb34) hb); have NL8 := ak ((hb.size : w7.heap.size ≤ w8.heap.size))
                   have Ad := ak (laws_FnExactFind.newR (Kd.R_mono ho0 (fun _ _ => trivial)) (b := w.heap.size) (n := w7.heap.size) (Below.size HB.out) (Nat.le_refl _))
                   replace HB := ak (below_step (bw_q HB) hb); (try clear hb); (try clear hk); (try clear ho0); obtain ⟨Ao31, co32, e_v30⟩ := Kd.R_slice Ad.out; subst e_v30
                   refine hK.out _ _ (cz8_ BKgb1) (fun hHeld => ?_)
                   clear hK K
                   refine norm_ (a' := ?_) ?_ ?_; rotate_left; (show Act.put _ (some 32) _ = _; simp only [Act.put, List.setIfInBounds_toArray, List.set_cons_zero, List.set_cons_succ, i64_w, i32_w]; rfl)
                   obtain ⟨lo33, el33⟩ : ∃ n_ : Nat, n_ = w7.heap.size := ⟨_, rfl⟩; obtain ⟨hi33, eh33⟩ : ∃ n_ : Nat, n_ = w8.heap.size := ⟨_, rfl⟩
                   replace Ad := ak (Kd.R_mono Ad.out (fun k_ h_ => (⟨by have h1_ := h_.1; omega, by have h2_ := h_.2; omega⟩ : lo33 ≤ k_ ∧ k_ < hi33)))
                   have JA33 := ak (And.intro el33 eh33); clear el33 eh33
                   refine pr_ 5 27 (bL 11 319) rfl rfl ?_
                   refine pr_ 6 33 (bL 11 383) rfl rfl ?_
                   refine pr_ 7 34 (bL 11 511) rfl rfl ?_
                   refine one_ (i := 9) (N := none) (bL 11 1023) rfl rfl (by kernel_rfl) (by decide) (fun K hK => ?_)
                   have hqa0 : w8.cell? ⟨Ab, 0, none⟩ = some (.int .i64 0) := (blk_cell BKgb34.out 0).trans rfl
                   have hqb0 := blk_frozen BKgb34.out 0
                   have hqa1 : w8.cell? ⟨Ab, 1, none⟩ = some (.int .i64 0) := (blk_cell BKgb34.out 1).trans rfl
                   have hqb1 := blk_frozen BKgb34.out 1
                   have hqa2 : w8.cell? ⟨Ab, 2, none⟩ = some (.int .i64 0) := (blk_cell BKgb34.out 2).trans rfl
                   have hqb2 := blk_frozen BKgb34.out 2
                   have hqa3 : w8.cell? ⟨Ab, 3, none⟩ = some (.int .i64 0) := (blk_cell BKgb34.out 3).trans rfl
                   have hqb3 := blk_frozen BKgb34.out 3
                   have hqa4 : w8.cell? ⟨Ab, 4, none⟩ = some (.int .i64 0) := (blk_cell BKgb34.out 4).trans rfl
                   have hqb4 := blk_frozen BKgb34.out 4
                   have hqa5 : w8.cell? ⟨Ab, 5, none⟩ = some (.slice none 0 0) := (blk_cell BKgb34.out 5).trans rfl
                   have hqb5 := blk_frozen BKgb34.out 5
                   have hqa6 : w8.cell? ⟨Ab, 6, none⟩ = some (.int .i64 0) := (blk_cell BKgb34.out 6).trans rfl
                   have hqb6 := blk_frozen BKgb34.out 6
                   have hqa7 : w8.cell? ⟨Ab, 7, none⟩ = some (.bool false) := (blk_cell BKgb34.out 7).trans rfl
                   have hqb7 := blk_frozen BKgb34.out 7
                   refine laws_FnExactFind.skip_box (w1 := ((((((((w8.setCell ⟨Ab, 0, none⟩ (.int .i64 Ay)).setCell ⟨Ab, 1, none⟩ (.int .i64 Az)).setCell ⟨Ab, 2, none⟩ (.int .i64 Ba)).setCell ⟨Ab, 3, none⟩ (.int .i64 Bb)).setCell ⟨Ab, 4, none⟩ (.int .i64 Bc)).setCell ⟨Ab, 5, none⟩ (.slice Ao31 Bd.length co32)).setCell ⟨Ab, 6, none⟩ (.int .i64 Be)).setCell ⟨Ab, 7, none⟩ (.bool Bf))) (by rfl) rfl ?hr ?_
                   (case hr => first | (go_simp; done) | (go_simp; rfl))
                   intro w9 hw
                   have hk : Kept w8 w9 (fun k_ => k_ = Ab) := (by rw [hw]; exact Kept.setCell (Kept.setCell (Kept.setCell (Kept.setCell (Kept.setCell (Kept.setCell (Kept.setCell (Kept.setCell (Kept.refl w8 (fun k_ => k_ = Ab)) (.inl rfl) _) (.inl rfl) _) (.inl rfl) _) (.inl rfl) _) (.inl rfl) _) (.inl rfl) _) (.inl rfl) _) (.inl rfl) _)
                   replace Av := ak (Kd.S_kept (kS_q Av) hk (fun k_ h1_ h2_ => by have q0 := NL1.out; have q1 := NL2.out; have q2 := NL3.out; have q3 := NL4.out; have q4 := NL5.out; have q5 := JA8.out; have q6 := NL6.out; have q7 := NL7.out; have q8 := JA20.out; have q9 := NL8.out; have q10 := JA33.out; have g1 := GLgb34.out; have g2 := GHgb34.out; have a1 := h1_.1; have a2 := h1_.2; have a3 : k_ = Ab := h2_; omega))
                   replace At := ak (Kd.R_kept (kR_q At) hk (fun k_ h1_ h2_ => by have q0 := NL1.out; have q1 := NL2.out; have q2 := NL3.out; have q3 := NL4.out; have q4 := NL5.out; have q5 := JA8.out; have q6 := NL6.out; have q7 := NL7.out; have q8 := JA20.out; have q9 := NL8.out; have q10 := JA33.out; have g1 := GLgb34.out; have g2 := GHgb34.out; have a1 := h1_.1; have a2 := h1_.2; have a3 : k_ = Ab := h2_; omega))
                   replace Ad := ak (Kd.R_kept (kR_q Ad) hk (fun k_ h1_ h2_ => by have q0 := NL1.out; have q1 := NL2.out; have q2 := NL3.out; have q3 := NL4.out; have q4 := NL5.out; have q5 := JA8.out; have q6 := NL6.out; have q7 := NL7.out; have q8 := JA20.out; have q9 := NL8.out; have q10 := JA33.out; have g1 := GLgb34.out; have g2 := GHgb34.out; have a1 := h1_.1; have a2 := h1_.2; have a3 : k_ = Ab := h2_; omega))
                   replace BKgb1 := ak (blk_kept (g := Ac) (o := .cells #[.int .i64 Aj, .int .i64 Ak, .int .i64 Al, .int .i64 Am, .int .i64 An, .slice Ao Ai.length Ap, .int .i64 Aq, .bool Ar] 57 (0, 0)) (bk_q BKgb1) hk (fun h2_ => by have a3 : Ac = Ab := h2_; have q0 := NL1.out; have q1 := NL2.out; have q2 := NL3.out; have q3 := NL4.out; have q4 := NL5.out; have q5 := JA8.out; have q6 := NL6.out; have q7 := NL7.out; have q8 := JA20.out; have q9 := NL8.out; have q10 := JA33.out; have g1 := GLgb34.out; have g2 := GHgb34.out; have g3 := GLgb1.out; have g4 := GHgb1.out; omega))
                   replace BKgb34 := ak ((by rw [hw]; exact laws_FnExactFind.set8 BKgb34.out : w9.heap[Ab]? = some (.cells #[.int .i64 Ay, .int .i64 Az, .int .i64 Ba, .int .i64 Bb, .int .i64 Bc, .slice Ao31 Bd.length co32, .int .i64 Be, .bool Bf] 61 (0, 0))))
                   replace HB := ak ((by rw [hw]; exact below_set (below_set (below_set (below_set (below_set (below_set (below_set (below_set (HB.out) GEgb34.out) GEgb34.out) GEgb34.out) GEgb34.out) GEgb34.out) GEgb34.out) GEgb34.out) GEgb34.out : Below w.heap.size w w9))
                   have NL9 := ak ((hk.1 : w8.heap.size ≤ w9.heap.size)); (try clear hb); (try clear hk); (try clear hw); (try clear hbox); (try clear hg)
                   refine hK.out _ _ (cz8_ BKgb1) (fun hHeld => ?_)
                   clear hK K; clear hqa0 hqb0 hqa1 hqb1 hqa2 hqb2 hqa3 hqb3 hqa4 hqb4 hqa5 hqb5 hqa6 hqb6 hqa7 hqb7
                   refine pr_ 10 7 (bL 11 2047) rfl rfl ?_
                   have JN0 : Aside0 (w4.heap.size ≤ w9.heap.size ∧ w4.heap.size ≤ lo20 ∧ lo20 ≤ hi20 ∧ hi20 ≤ w9.heap.size ∧ w4.heap.size ≤ lo33 ∧ lo33 ≤ hi33 ∧ hi33 ≤ w9.heap.size ∧ w4.heap.size ≤ lo8 ∧ lo8 ≤ hi8 ∧ hi8 ≤ w9.heap.size ∧ w4.heap.size ≤ Ab ∧ Ab ≤ Ab + 1 ∧ Ab + 1 ≤ w9.heap.size ∧ (hi33 ≤ lo20 ∨ hi20 ≤ lo33) ∧ (hi8 ≤ lo20 ∨ hi20 ≤ lo8) ∧ (hi8 ≤ lo33 ∨ hi33 ≤ lo8) ∧ (Ab + 1 ≤ lo20 ∨ hi20 ≤ Ab) ∧ (Ab + 1 ≤ lo33 ∨ hi33 ≤ Ab) ∧ (Ab + 1 ≤ lo8 ∨ hi8 ≤ Ab)) := ⟨by have q0_ := NL1.out; have q1_ := NL2.out; have q2_ := NL3.out; have q3_ := NL4.out; have q4_ := NL5.out; have q5_ := JA8.out; have q6_ := NL6.out; have q7_ := NL7.out; have q8_ := JA20.out; have q9_ := NL8.out; have q10_ := JA33.out; have q11_ := NL9.out; have g0_ := GLgb34.out; have h0_ := GHgb34.out; refine ⟨by omega, by omega, by omega, by omega, by omega, by omega, by omega, by omega, by omega, by omega, by omega, by omega, by omega, by omega, by omega, by omega, by omega, by omega, by omega⟩⟩
                   have GL2_ : Aside0 (w4.heap.size ≤ Ab) := ⟨by have j_ := JN0.out; omega⟩
                   have GH2_ : Aside0 (Ab < w9.heap.size) := ⟨by have j_ := JN0.out; omega⟩
                   clear GLgb34 GHgb34; have GLgb34 := GL2_; have GHgb34 := GH2_; clear GL2_ GH2_
                   (try clear NL5); (try clear JA8); (try clear NL6); (try clear NL7); (try clear JA20); (try clear NL8); (try clear JA33); (try clear NL9); (try clear hHeld)
                   revert JN0
                   revert HB
                   revert GEgb34
                   revert GHgb34
                   revert GLgb34
                   revert BKgb34
                   revert BKgb1
                   revert Av
                   revert Ad
                   revert At
                   revert co7
                   revert Ao6
                   revert co32
                   revert Ao31
                   revert co19
                   revert Ao18
                   revert hi8
                   revert lo8
                   revert hi33
                   revert lo33
                   revert hi20
                   revert lo20
                   revert Ab
                   revert w9
                   exact J.out
                 ·skip
                  refine laws_FnExactFind.value_box (cs := #[.int .i64 0, .int .i64 0, .int .i64 0, .int .i64 0, .int .i64 0, .slice none 0 0, .int .i64 0, .bool false]) (t := 61) (by rfl) rfl ?hr ?_
                  (case hr => first | (go_simp; done) | (go_simp; rfl))
                  intro Ab hg w5 hbox hb
                  replace BKgb1 := ak (blk_below (g := Ac) (bk_q BKgb1) hb); have BKgb34 := ak (hbox)
                  have GLgb34 := ak ((by rw [hg]; exact Nat.le_refl _ : w4.heap.size ≤ Ab))
                  have GHgb34 := ak ((blk_lt hbox : Ab < w5.heap.size))
                  have GEgb34 := ak ((by rw [hg]; exact below_size (bw_q HB) : w.heap.size ≤ Ab))
                  have NL5 := ak ((hb.size : w4.heap.size ≤ w5.heap.size)); replace HB := ak (below_step (bw_q HB) hb); (try clear hb); (try clear hk); (try clear hw); (try clear hbox); (try clear hg)
                  have hz11_0 : w5.cell? ⟨Ab, 0, none⟩ = some (.int .i64 0) := (blk_cell BKgb34.out 0).trans rfl
                  have hy11_0 := blk_frozen BKgb34.out 0
                  have hz11_1 : w5.cell? ⟨Ab, 1, none⟩ = some (.int .i64 0) := (blk_cell BKgb34.out 1).trans rfl
                  have hy11_1 := blk_frozen BKgb34.out 1
                  have hz11_2 : w5.cell? ⟨Ab, 2, none⟩ = some (.int .i64 0) := (blk_cell BKgb34.out 2).trans rfl
                  have hy11_2 := blk_frozen BKgb34.out 2
                  have hz11_3 : w5.cell? ⟨Ab, 3, none⟩ = some (.int .i64 0) := (blk_cell BKgb34.out 3).trans rfl
                  have hy11_3 := blk_frozen BKgb34.out 3
                  have hz11_4 : w5.cell? ⟨Ab, 4, none⟩ = some (.int .i64 0) := (blk_cell BKgb34.out 4).trans rfl
                  have hy11_4 := blk_frozen BKgb34.out 4
                  have hz11_5 : w5.cell? ⟨Ab, 5, none⟩ = some (.slice none 0 0) := (blk_cell BKgb34.out 5).trans rfl
                  have hy11_5 := blk_frozen BKgb34.out 5
                  have hz11_6 : w5.cell? ⟨Ab, 6, none⟩ = some (.int .i64 0) := (blk_cell BKgb34.out 6).trans rfl
                  have hy11_6 := blk_frozen BKgb34.out 6
                  have hz11_7 : w5.cell? ⟨Ab, 7, none⟩ = some (.bool false) := (blk_cell BKgb34.out 7).trans rfl
                  have hy11_7 := blk_frozen BKgb34.out 7
                  refine hK.out _ _ (cz8_ BKgb1) (fun hHeld => ?_)
                  clear hK K
                  refine norm_ (a' := ?_) ?_ ?_; rotate_left; (show Act.put _ (some 6) _ = _; simp only [Act.put, List.setIfInBounds_toArray, List.set_cons_zero, List.set_cons_succ, i64_w, i32_w]; rfl)
                  refine one_ (i := 1) (N := some 29) (bL 11 263) rfl rfl (by kernel_rfl) (by decide) (fun K hK => ?_)
                  refine goes_ Try.func27 (by kernel_rfl) rfl #[.slice A0 l0.length c0] (by rfl) rfl rfl mp_q ?_
                  (with_reducible refine (laws_toRecordS.calls k A0 c0 l0 t4 _ ?side1 ?side2 EQ7.out).mono ?_)
                  (case side1 => exact cs_q (Kd.C_below HR0.out HB.out))
                  (case side2 => exact Cx.out)
                  rintro e_ w6 ⟨v5, rfl, ho0, hb⟩
                  refine ⟨_, rfl, ?_⟩
                  replace BKgb1 := ak (blk_below (g := Ac) (bk_q BKgb1) hb); replace BKgb34 := ak (blk_below (g := Ab) (bk_q BKgb34) hb); have NL6 := ak ((hb.size : w5.heap.size ≤ w6.heap.size))
                  have Av := ak (laws_FnExactFind.newS (Kd.S_mono ho0 (fun _ _ => trivial)) (b := w.heap.size) (n := w5.heap.size) (Below.size HB.out) (Nat.le_refl _))
                  replace HB := ak (below_step (bw_q HB) hb); (try clear hb); (try clear hk); (try clear ho0); obtain ⟨Ao6, co7, e_v5⟩ := Kd.S_slice Av.out; subst e_v5; clear hz11_0 hy11_0 hz11_1 hy11_1 hz11_2 hy11_2 hz11_3 hy11_3 hz11_4 hy11_4 hz11_5 hy11_5 hz11_6 hy11_6 hz11_7 hy11_7
                  have hl7_gb1_0 : w6.cell? ⟨Ac, 0, none⟩ = some (.int .i64 Aj) := (blk_cell BKgb1.out 0).trans rfl
                  have hl7_gb1_1 : w6.cell? ⟨Ac, 1, none⟩ = some (.int .i64 Ak) := (blk_cell BKgb1.out 1).trans rfl
                  have hl7_gb1_2 : w6.cell? ⟨Ac, 2, none⟩ = some (.int .i64 Al) := (blk_cell BKgb1.out 2).trans rfl
                  have hl7_gb1_3 : w6.cell? ⟨Ac, 3, none⟩ = some (.int .i64 Am) := (blk_cell BKgb1.out 3).trans rfl
                  have hl7_gb1_4 : w6.cell? ⟨Ac, 4, none⟩ = some (.int .i64 An) := (blk_cell BKgb1.out 4).trans rfl
                  have hl7_gb1_5 : w6.cell? ⟨Ac, 5, none⟩ = some (.slice Ao Ai.length Ap) := (blk_cell BKgb1.out 5).trans rfl
                  have hl7_gb1_6 : w6.cell? ⟨Ac, 6, none⟩ = some (.int .i64 Aq) := (blk_cell BKgb1.out 6).trans rfl
                  have hl7_gb1_7 : w6.cell? ⟨Ac, 7, none⟩ = some (.bool Ar) := (blk_cell BKgb1.out 7).trans rfl
                  refine hK.out _ _ (cz8_ BKgb1) (fun hHeld => ?_)
                  clear hK K
                  refine norm_ (a' := ?_) ?_ ?_; rotate_left; (show Act.put _ (some 29) _ = _; simp only [Act.put, List.setIfInBounds_toArray, List.set_cons_zero, List.set_cons_succ, i64_w, i32_w]; rfl)
                  obtain ⟨lo8, el8⟩ : ∃ n_ : Nat, n_ = w5.heap.size := ⟨_, rfl⟩; obtain ⟨hi8, eh8⟩ : ∃ n_ : Nat, n_ = w6.heap.size := ⟨_, rfl⟩
                  replace Av := ak (Kd.S_mono Av.out (fun k_ h_ => (⟨by have h1_ := h_.1; omega, by have h2_ := h_.2; omega⟩ : lo8 ≤ k_ ∧ k_ < hi8)))
                  have JA8 := ak (And.intro el8 eh8); clear el8 eh8
                  refine one_ (i := 3) (N := some 31) (bL 11 271) rfl rfl (by kernel_rfl) (by decide) (fun K hK => ?_)
                  refine goes_ Try.func36 (by kernel_rfl) rfl #[.agg #[.int .i64 Aj, .int .i64 Ak, .int .i64 Al, .int .i64 Am, .int .i64 An, .slice Ao Ai.length Ap, .int .i64 Aq, .bool Ar]] (by rfl) rfl rfl mp_q ?_
                  (with_reducible refine (laws_toRecord.calls k Aj Ak Al Am An Ao Ap Ai Aq Ar t9 Cp Cq Cr Cs Ct Cu Cv _ ?side1 ?side2 EQ9.out).mono ?_)
                  (case side1 => exact cs_q (Kd.C_below Bw.out HB.out))
                  (case side2 => exact Bx.out)
                  rintro e_ w7 ⟨v17, rfl, ho0, hb⟩
                  refine ⟨_, rfl, ?_⟩
                  replace Av := ak (Kd.S_below (kS_q Av) hb); replace BKgb1 := ak (blk_below (g := Ac) (bk_q BKgb1) hb); replace BKgb34 := ak (blk_below (g := Ab) (bk_q BKgb34) hb); have NL7 := ak ((hb.size : w6.heap.size ≤ w7.heap.size))
                  have At := ak (laws_FnExactFind.newR (Kd.R_mono ho0 (fun _ _ => trivial)) (b := w.heap.size) (n := w6.heap.size) (Below.size HB.out) (Nat.le_refl _))
                  replace HB := ak (below_step (bw_q HB) hb); (try clear hb); (try clear hk); (try clear ho0); obtain ⟨Ao18, co19, e_v17⟩ := Kd.R_slice At.out; subst e_v17; clear hl7_gb1_0 hl7_gb1_1 hl7_gb1_2 hl7_gb1_3 hl7_gb1_4 hl7_gb1_5 hl7_gb1_6 hl7_gb1_7
                  refine hK.out _ _ (cz8_ BKgb1) (fun hHeld => ?_)
                  clear hK K
                  refine norm_ (a' := ?_) ?_ ?_; rotate_left; (show Act.put _ (some 31) _ = _; simp only [Act.put, List.setIfInBounds_toArray, List.set_cons_zero, List.set_cons_succ, i64_w, i32_w]; rfl)
                  obtain ⟨lo20, el20⟩ : ∃ n_ : Nat, n_ = w6.heap.size := ⟨_, rfl⟩; obtain ⟨hi20, eh20⟩ : ∃ n_ : Nat, n_ = w7.heap.size := ⟨_, rfl⟩
                  replace At := ak (Kd.R_mono At.out (fun k_ h_ => (⟨by have h1_ := h_.1; omega, by have h2_ := h_.2; omega⟩ : lo20 ≤ k_ ∧ k_ < hi20)))
                  have JA20 := ak (And.intro el20 eh20); clear el20 eh20
                  refine one_ (i := 4) (N := some 32) (bL 11 287) rfl rfl (by kernel_rfl) (by decide) (fun K hK => ?_)
                  refine goes_ Try.func35 (by kernel_rfl) rfl #[.slice Ao6 t4.length co7, .agg #[.int .i64 t9, .int .i64 Cp, .int .i64 Cq, .int .i64 Cr, .int .i64 Cs, .slice Ao18 Ct.length co19, .int .i64 Cu, .bool Cv]] (by rfl) rfl rfl mp_q ?_
                  (with_reducible refine (spec_Find.calls k Ao6 co7 t4 t9 Cp Cq Cr Cs Ao18 co19 Ct Cu Cv Ay Az Ba Bb Bc Bd Be Bf Co _ ?side1 ?side2 ?side3 ?side4 EQ10.out).mono ?_)
                  (case side1 => repeat (first | exact (Kd.S_reads' Av.out).2.2 | (with_reducible refine Kd.C_alloc ?_ _) | (with_reducible refine Kd.C_drewN ?_ _) | (with_reducible refine Kd.C_drew ?_)))
                  (case side2 => exact (by have e_ := Kd.S_reads' Av.out; exact Nat.le_trans (Nat.le_of_eq e_.1.symm) e_.2.1))
                  (case side3 => repeat (first | exact (Kd.R_reads' At.out).2.2 | (with_reducible refine Kd.C_alloc ?_ _) | (with_reducible refine Kd.C_drewN ?_ _) | (with_reducible refine Kd.C_drew ?_)))
                  (case side4 => exact (by have e_ := Kd.R_reads' At.out; exact Nat.le_trans (Nat.le_of_eq e_.1.symm) e_.2.1))
                  rintro e_ w8 ⟨v30, rfl, ho0, hb⟩
                  refine ⟨_, rfl, ?_⟩
                  replace Av := ak (Kd.S_below (kS_q Av) hb); replace At := ak (Kd.R_below (kR_q At) hb); replace BKgb1 := ak (blk_below (g := Ac) (bk_q BKgb1) hb); replace BKgb34 := ak (blk_below (g := Ab) (bk_q BKgb34) hb); have NL8 := ak ((hb.size : w7.heap.size ≤ w8.heap.size))
                  have Ad := ak (laws_FnExactFind.newR (Kd.R_mono ho0 (fun _ _ => trivial)) (b := w.heap.size) (n := w7.heap.size) (Below.size HB.out) (Nat.le_refl _))
                  replace HB := ak (below_step (bw_q HB) hb); (try clear hb); (try clear hk); (try clear ho0); obtain ⟨Ao31, co32, e_v30⟩ := Kd.R_slice Ad.out; subst e_v30
                  refine hK.out _ _ (cz8_ BKgb1) (fun hHeld => ?_)
                  clear hK K
                  refine norm_ (a' := ?_) ?_ ?_; rotate_left; (show Act.put _ (some 32) _ = _; simp only [Act.put, List.setIfInBounds_toArray, List.set_cons_zero, List.set_cons_succ, i64_w, i32_w]; rfl)
                  obtain ⟨lo33, el33⟩ : ∃ n_ : Nat, n_ = w7.heap.size := ⟨_, rfl⟩; obtain ⟨hi33, eh33⟩ : ∃ n_ : Nat, n_ = w8.heap.size := ⟨_, rfl⟩
                  replace Ad := ak (Kd.R_mono Ad.out (fun k_ h_ => (⟨by have h1_ := h_.1; omega, by have h2_ := h_.2; omega⟩ : lo33 ≤ k_ ∧ k_ < hi33)))
                  have JA33 := ak (And.intro el33 eh33); clear el33 eh33
                  refine pr_ 5 27 (bL 11 319) rfl rfl ?_
                  refine pr_ 6 33 (bL 11 383) rfl rfl ?_
                  refine pr_ 7 34 (bL 11 511) rfl rfl ?_
                  refine one_ (i := 9) (N := none) (bL 11 1023) rfl rfl (by kernel_rfl) (by decide) (fun K hK => ?_)
                  have hqa0 : w8.cell? ⟨Ab, 0, none⟩ = some (.int .i64 0) := (blk_cell BKgb34.out 0).trans rfl
                  have hqb0 := blk_frozen BKgb34.out 0
                  have hqa1 : w8.cell? ⟨Ab, 1, none⟩ = some (.int .i64 0) := (blk_cell BKgb34.out 1).trans rfl
                  have hqb1 := blk_frozen BKgb34.out 1
                  have hqa2 : w8.cell? ⟨Ab, 2, none⟩ = some (.int .i64 0) := (blk_cell BKgb34.out 2).trans rfl
                  have hqb2 := blk_frozen BKgb34.out 2
                  have hqa3 : w8.cell? ⟨Ab, 3, none⟩ = some (.int .i64 0) := (blk_cell BKgb34.out 3).trans rfl
                  have hqb3 := blk_frozen BKgb34.out 3
                  have hqa4 : w8.cell? ⟨Ab, 4, none⟩ = some (.int .i64 0) := (blk_cell BKgb34.out 4).trans rfl
                  have hqb4 := blk_frozen BKgb34.out 4
                  have hqa5 : w8.cell? ⟨Ab, 5, none⟩ = some (.slice none 0 0) := (blk_cell BKgb34.out 5).trans rfl
                  have hqb5 := blk_frozen BKgb34.out 5
                  have hqa6 : w8.cell? ⟨Ab, 6, none⟩ = some (.int .i64 0) := (blk_cell BKgb34.out 6).trans rfl
                  have hqb6 := blk_frozen BKgb34.out 6
                  have hqa7 : w8.cell? ⟨Ab, 7, none⟩ = some (.bool false) := (blk_cell BKgb34.out 7).trans rfl
                  have hqb7 := blk_frozen BKgb34.out 7
                  refine laws_FnExactFind.skip_box (w1 := ((((((((w8.setCell ⟨Ab, 0, none⟩ (.int .i64 Ay)).setCell ⟨Ab, 1, none⟩ (.int .i64 Az)).setCell ⟨Ab, 2, none⟩ (.int .i64 Ba)).setCell ⟨Ab, 3, none⟩ (.int .i64 Bb)).setCell ⟨Ab, 4, none⟩ (.int .i64 Bc)).setCell ⟨Ab, 5, none⟩ (.slice Ao31 Bd.length co32)).setCell ⟨Ab, 6, none⟩ (.int .i64 Be)).setCell ⟨Ab, 7, none⟩ (.bool Bf))) (by rfl) rfl ?hr ?_
                  (case hr => first | (go_simp; done) | (go_simp; rfl))
                  intro w9 hw
                  have hk : Kept w8 w9 (fun k_ => k_ = Ab) := (by rw [hw]; exact Kept.setCell (Kept.setCell (Kept.setCell (Kept.setCell (Kept.setCell (Kept.setCell (Kept.setCell (Kept.setCell (Kept.refl w8 (fun k_ => k_ = Ab)) (.inl rfl) _) (.inl rfl) _) (.inl rfl) _) (.inl rfl) _) (.inl rfl) _) (.inl rfl) _) (.inl rfl) _) (.inl rfl) _)
                  replace Av := ak (Kd.S_kept (kS_q Av) hk (fun k_ h1_ h2_ => by have q0 := NL1.out; have q1 := NL2.out; have q2 := NL3.out; have q3 := NL4.out; have q4 := NL5.out; have q5 := NL6.out; have q6 := JA8.out; have q7 := NL7.out; have q8 := JA20.out; have q9 := NL8.out; have q10 := JA33.out; have g1 := GLgb34.out; have g2 := GHgb34.out; have a1 := h1_.1; have a2 := h1_.2; have a3 : k_ = Ab := h2_; omega))
                  replace At := ak (Kd.R_kept (kR_q At) hk (fun k_ h1_ h2_ => by have q0 := NL1.out; have q1 := NL2.out; have q2 := NL3.out; have q3 := NL4.out; have q4 := NL5.out; have q5 := NL6.out; have q6 := JA8.out; have q7 := NL7.out; have q8 := JA20.out; have q9 := NL8.out; have q10 := JA33.out; have g1 := GLgb34.out; have g2 := GHgb34.out; have a1 := h1_.1; have a2 := h1_.2; have a3 : k_ = Ab := h2_; omega))
                  replace Ad := ak (Kd.R_kept (kR_q Ad) hk (fun k_ h1_ h2_ => by have q0 := NL1.out; have q1 := NL2.out; have q2 := NL3.out; have q3 := NL4.out; have q4 := NL5.out; have q5 := NL6.out; have q6 := JA8.out; have q7 := NL7.out; have q8 := JA20.out; have q9 := NL8.out; have q10 := JA33.out; have g1 := GLgb34.out; have g2 := GHgb34.out; have a1 := h1_.1; have a2 := h1_.2; have a3 : k_ = Ab := h2_; omega))
                  replace BKgb1 := ak (blk_kept (g := Ac) (o := .cells #[.int .i64 Aj, .int .i64 Ak, .int .i64 Al, .int .i64 Am, .int .i64 An, .slice Ao Ai.length Ap, .int .i64 Aq, .bool Ar] 57 (0, 0)) (bk_q BKgb1) hk (fun h2_ => by have a3 : Ac = Ab := h2_; have q0 := NL1.out; have q1 := NL2.out; have q2 := NL3.out; have q3 := NL4.out; have q4 := NL5.out; have q5 := NL6.out; have q6 := JA8.out; have q7 := NL7.out; have q8 := JA20.out; have q9 := NL8.out; have q10 := JA33.out; have g1 := GLgb34.out; have g2 := GHgb34.out; have g3 := GLgb1.out; have g4 := GHgb1.out; omega))
                  replace BKgb34 := ak ((by rw [hw]; exact laws_FnExactFind.set8 BKgb34.out : w9.heap[Ab]? = some (.cells #[.int .i64 Ay, .int .i64 Az, .int .i64 Ba, .int .i64 Bb, .int .i64 Bc, .slice Ao31 Bd.length co32, .int .i64 Be, .bool Bf] 61 (0, 0))))
                  replace HB := ak ((by rw [hw]; exact below_set (below_set (below_set (below_set (below_set (below_set (below_set (below_set (HB.out) GEgb34.out) GEgb34.out) GEgb34.out) GEgb34.out) GEgb34.out) GEgb34.out) GEgb34.out) GEgb34.out : Below w.heap.size w w9))
                  have NL9 := ak ((hk.1 : w8.heap.size ≤ w9.heap.size)); (try clear hb); (try clear hk); (try clear hw); (try clear hbox); (try clear hg)
                  refine hK.out _ _ (cz8_ BKgb1) (fun hHeld => ?_)
                  clear hK K; clear hqa0 hqb0 hqa1 hqb1 hqa2 hqb2 hqa3 hqb3 hqa4 hqb4 hqa5 hqb5 hqa6 hqb6 hqa7 hqb7
                  refine pr_ 10 7 (bL 11 2047) rfl rfl ?_
                  have JN0 : Aside0 (w4.heap.size ≤ w9.heap.size ∧ w4.heap.size ≤ lo20 ∧ lo20 ≤ hi20 ∧ hi20 ≤ w9.heap.size ∧ w4.heap.size ≤ lo33 ∧ lo33 ≤ hi33 ∧ hi33 ≤ w9.heap.size ∧ w4.heap.size ≤ lo8 ∧ lo8 ≤ hi8 ∧ hi8 ≤ w9.heap.size ∧ w4.heap.size ≤ Ab ∧ Ab ≤ Ab + 1 ∧ Ab + 1 ≤ w9.heap.size ∧ (hi33 ≤ lo20 ∨ hi20 ≤ lo33) ∧ (hi8 ≤ lo20 ∨ hi20 ≤ lo8) ∧ (hi8 ≤ lo33 ∨ hi33 ≤ lo8) ∧ (Ab + 1 ≤ lo20 ∨ hi20 ≤ Ab) ∧ (Ab + 1 ≤ lo33 ∨ hi33 ≤ Ab) ∧ (Ab + 1 ≤ lo8 ∨ hi8 ≤ Ab)) := ⟨by have q0_ := NL1.out; have q1_ := NL2.out; have q2_ := NL3.out; have q3_ := NL4.out; have q4_ := NL5.out; have q5_ := NL6.out; have q6_ := JA8.out; have q7_ := NL7.out; have q8_ := JA20.out; have q9_ := NL8.out; have q10_ := JA33.out; have q11_ := NL9.out; have g0_ := GLgb34.out; have h0_ := GHgb34.out; refine ⟨by omega, by omega, by omega, by omega, by omega, by omega, by omega, by omega, by omega, by omega, by omega, by omega, by omega, by omega, by omega, by omega, by omega, by omega, by omega⟩⟩
                  have GL2_ : Aside0 (w4.heap.size ≤ Ab) := ⟨by have j_ := JN0.out; omega⟩
                  have GH2_ : Aside0 (Ab < w9.heap.size) := ⟨by have j_ := JN0.out; omega⟩
                  clear GLgb34 GHgb34; have GLgb34 := GL2_; have GHgb34 := GH2_; clear GL2_ GH2_
                  (try clear NL5); (try clear NL6); (try clear JA8); (try clear NL7); (try clear JA20); (try clear NL8); (try clear JA33); (try clear NL9); (try clear hHeld)
                  revert JN0
                  revert HB
                  revert GEgb34
                  revert GHgb34
                  revert GLgb34
                  revert BKgb34
                  revert BKgb1
                  revert Av
                  revert Ad
                  revert At
                  revert co7
                  revert Ao6
                  revert co32
                  revert Ao31
                  revert co19
                  revert Ao18
                  revert hi8
                  revert lo8
                  revert hi33
                  revert lo33
                  revert hi20
                  revert lo20
                  revert Ab
                  revert w9
                  exact J.out
                ·intro w9 Ab lo20 hi20 lo33 hi33 lo8 hi8 Ao18 co19 Ao31 co32 Ao6 co7 At Ad Av BKgb1 BKgb34 GLgb34 GHgb34 GEgb34 HB JN0
                 have hv0_gb34_0 : w9.cell? ⟨Ab, 0, none⟩ = some (.int .i64 Ay) := (blk_cell BKgb34.out 0).trans rfl
                 have hu0_gb34_0 := blk_frozen BKgb34.out 0
                 have hv0_gb34_1 : w9.cell? ⟨Ab, 1, none⟩ = some (.int .i64 Az) := (blk_cell BKgb34.out 1).trans rfl
                 have hu0_gb34_1 := blk_frozen BKgb34.out 1
                 have hv0_gb34_2 : w9.cell? ⟨Ab, 2, none⟩ = some (.int .i64 Ba) := (blk_cell BKgb34.out 2).trans rfl
                 have hu0_gb34_2 := blk_frozen BKgb34.out 2
                 have hv0_gb34_3 : w9.cell? ⟨Ab, 3, none⟩ = some (.int .i64 Bb) := (blk_cell BKgb34.out 3).trans rfl
                 have hu0_gb34_3 := blk_frozen BKgb34.out 3
                 have hv0_gb34_4 : w9.cell? ⟨Ab, 4, none⟩ = some (.int .i64 Bc) := (blk_cell BKgb34.out 4).trans rfl
                 have hu0_gb34_4 := blk_frozen BKgb34.out 4
                 have hv0_gb34_5 : w9.cell? ⟨Ab, 5, none⟩ = some (.slice Ao31 Bd.length co32) := (blk_cell BKgb34.out 5).trans rfl
                 have hu0_gb34_5 := blk_frozen BKgb34.out 5
                 have hv0_gb34_6 : w9.cell? ⟨Ab, 6, none⟩ = some (.int .i64 Be) := (blk_cell BKgb34.out 6).trans rfl
                 have hu0_gb34_6 := blk_frozen BKgb34.out 6
                 have hv0_gb34_7 : w9.cell? ⟨Ab, 7, none⟩ = some (.bool Bf) := (blk_cell BKgb34.out 7).trans rfl
                 have hu0_gb34_7 := blk_frozen BKgb34.out 7
                 refine done_ (by kernel_rfl) ?_
                 try go_wp2_with (first | ((with_reducible refine gate_callee (f := 27) rfl ?_); refine goesL_ (some 36) rfl rfl Try.func27 (by kernel_rfl) rfl #[.slice A0 l0.length c0] rfl mp_q ?_; (with_reducible refine (laws_toRecordS.calls k A0 c0 l0 Cz _ ?side1 ?side2 EQ14.out).mono ?_); (case side1 => exact cs_q (Kd.C_below HR0.out HB.out)); (case side2 => exact Cx.out); rintro e_ w10 ⟨v36, rfl, ho0, hb⟩; refine ⟨_, rfl, ?_⟩; replace Ad := ak (Kd.R_below (kR_q Ad) hb); replace BKgb1 := ak (blk_below (g := Ac) (bk_q BKgb1) hb); replace BKgb34 := ak (blk_below (g := Ab) (bk_q BKgb34) hb); have NL10 := ak ((hb.size : w9.heap.size ≤ w10.heap.size)); have Aw := ak (laws_FnExactFind.newS (Kd.S_mono ho0 (fun _ _ => trivial)) (b := w.heap.size) (n := w9.heap.size) (Below.size HB.out) (Nat.le_refl _)); replace HB := ak (below_step (bw_q HB) hb); clear Av At; (try clear hb); (try clear hk); (try clear ho0); obtain ⟨Ao37, co38, e_v36⟩ := Kd.S_slice Aw.out; subst e_v36; have hl14_gb1_0 : w10.cell? ⟨Ac, 0, none⟩ = some (.int .i64 Aj) := (blk_cell BKgb1.out 0).trans rfl; have hl14_gb1_1 : w10.cell? ⟨Ac, 1, none⟩ = some (.int .i64 Ak) := (blk_cell BKgb1.out 1).trans rfl; have hl14_gb1_2 : w10.cell? ⟨Ac, 2, none⟩ = some (.int .i64 Al) := (blk_cell BKgb1.out 2).trans rfl; have hl14_gb1_3 : w10.cell? ⟨Ac, 3, none⟩ = some (.int .i64 Am) := (blk_cell BKgb1.out 3).trans rfl; have hl14_gb1_4 : w10.cell? ⟨Ac, 4, none⟩ = some (.int .i64 An) := (blk_cell BKgb1.out 4).trans rfl; have hl14_gb1_5 : w10.cell? ⟨Ac, 5, none⟩ = some (.slice Ao Ai.length Ap) := (blk_cell BKgb1.out 5).trans rfl; have hl14_gb1_6 : w10.cell? ⟨Ac, 6, none⟩ = some (.int .i64 Aq) := (blk_cell BKgb1.out 6).trans rfl; have hl14_gb1_7 : w10.cell? ⟨Ac, 7, none⟩ = some (.bool Ar) := (blk_cell BKgb1.out 7).trans rfl) | ((with_reducible refine gate_callee (f := 36) rfl ?_); refine goesL_ (some 38) rfl rfl Try.func36 (by kernel_rfl) rfl #[.agg #[.int .i64 Aj, .int .i64 Ak, .int .i64 Al, .int .i64 Am, .int .i64 An, .slice Ao Ai.length Ap, .int .i64 Aq, .bool Ar]] rfl mp_q ?_; (with_reducible refine (laws_toRecord.calls k Aj Ak Al Am An Ao Ap Ai Aq Ar Bz Ca Cb Cc Cd By Ce Cf _ ?side1 ?side2 EQ16.out).mono ?_); (case side1 => exact cs_q (Kd.C_below Bw.out HB.out)); (case side2 => exact Bx.out); rintro e_ w11 ⟨v48, rfl, ho0, hb⟩; refine ⟨_, rfl, ?_⟩; replace Ad := ak (Kd.R_below (kR_q Ad) hb); replace Aw := ak (Kd.S_below (kS_q Aw) hb); replace BKgb1 := ak (blk_below (g := Ac) (bk_q BKgb1) hb); replace BKgb34 := ak (blk_below (g := Ab) (bk_q BKgb34) hb); have NL11 := ak ((hb.size : w10.heap.size ≤ w11.heap.size)); have Ax := ak (laws_FnExactFind.newR (Kd.R_mono ho0 (fun _ _ => trivial)) (b := w.heap.size) (n := w10.heap.size) (Below.size HB.out) (Nat.le_refl _)); replace HB := ak (below_step (bw_q HB) hb); (try clear hb); (try clear hk); (try clear ho0); obtain ⟨Ao49, co50, e_v48⟩ := Kd.R_slice Ax.out; subst e_v48; clear hl14_gb1_0 hl14_gb1_1 hl14_gb1_2 hl14_gb1_3 hl14_gb1_4 hl14_gb1_5 hl14_gb1_6 hl14_gb1_7) | ((with_reducible refine gate_dst (N := 9) rfl ?_); refine box_q 9 #[.int .i64 0, .int .i64 0, .int .i64 0, .int .i64 0, .int .i64 0, .slice none 0 0, .int .i64 0, .bool false] 61 ?_; intro Ag hg w12 hbox hb; replace Ad := ak (Kd.R_below (kR_q Ad) hb); replace Aw := ak (Kd.S_below (kS_q Aw) hb); replace Ax := ak (Kd.R_below (kR_q Ax) hb); replace BKgb1 := ak (blk_below (g := Ac) (bk_q BKgb1) hb); replace BKgb34 := ak (blk_below (g := Ab) (bk_q BKgb34) hb); have BKgb52 := ak (hbox); have GLgb52 := ak ((by rw [hg]; exact Nat.le_refl _ : w11.heap.size ≤ Ag)); have GHgb52 := ak ((blk_lt hbox : Ag < w12.heap.size)); have GEgb52 := ak ((by rw [hg]; exact below_size (bw_q HB) : w.heap.size ≤ Ag)); have NL12 := ak ((hb.size : w11.heap.size ≤ w12.heap.size)); replace HB := ak (below_step (bw_q HB) hb); (try clear hb); (try clear hk); (try clear hw); (try clear hbox); (try clear hg); have hz17_0 : w12.cell? ⟨Ag, 0, none⟩ = some (.int .i64 0) := (blk_cell BKgb52.out 0).trans rfl; have hy17_0 := blk_frozen BKgb52.out 0; have hz17_1 : w12.cell? ⟨Ag, 1, none⟩ = some (.int .i64 0) := (blk_cell BKgb52.out 1).trans rfl; have hy17_1 := blk_frozen BKgb52.out 1; have hz17_2 : w12.cell? ⟨Ag, 2, none⟩ = some (.int .i64 0) := (blk_cell BKgb52.out 2).trans rfl; have hy17_2 := blk_frozen BKgb52.out 2; have hz17_3 : w12.cell? ⟨Ag, 3, none⟩ = some (.int .i64 0) := (blk_cell BKgb52.out 3).trans rfl; have hy17_3 := blk_frozen BKgb52.out 3; have hz17_4 : w12.cell? ⟨Ag, 4, none⟩ = some (.int .i64 0) := (blk_cell BKgb52.out 4).trans rfl; have hy17_4 := blk_frozen BKgb52.out 4; have hz17_5 : w12.cell? ⟨Ag, 5, none⟩ = some (.slice none 0 0) := (blk_cell BKgb52.out 5).trans rfl; have hy17_5 := blk_frozen BKgb52.out 5; have hz17_6 : w12.cell? ⟨Ag, 6, none⟩ = some (.int .i64 0) := (blk_cell BKgb52.out 6).trans rfl; have hy17_6 := blk_frozen BKgb52.out 6; have hz17_7 : w12.cell? ⟨Ag, 7, none⟩ = some (.bool false) := (blk_cell BKgb52.out 7).trans rfl; have hy17_7 := blk_frozen BKgb52.out 7) | ((with_reducible refine gate_store (t := 61) (p := 9) rfl ?_); refine store_event (t := 61) (p := 9) (v := ?vo_w13) (w1 := ((((((((w12.setCell ⟨Ag, 0, none⟩ (.int .i64 Bz)).setCell ⟨Ag, 1, none⟩ (.int .i64 Ca)).setCell ⟨Ag, 2, none⟩ (.int .i64 Cb)).setCell ⟨Ag, 3, none⟩ (.int .i64 Cc)).setCell ⟨Ag, 4, none⟩ (.int .i64 Cd)).setCell ⟨Ag, 5, none⟩ (.slice Ao49 By.length co50)).setCell ⟨Ag, 6, none⟩ (.int .i64 Ce)).setCell ⟨Ag, 7, none⟩ (.bool Cf))) ?hg ?ho ?hn ?hr ?_; (case ho => rfl); (case hg => rfl); (case hn => rfl); (case hr => first | (go_simp; done) | (go_simp; rfl)); intro w13 hw; have hk : Kept w12 w13 (fun k_ => k_ = Ag) := (by rw [hw]; exact Kept.setCell (Kept.setCell (Kept.setCell (Kept.setCell (Kept.setCell (Kept.setCell (Kept.setCell (Kept.setCell (Kept.refl w12 (fun k_ => k_ = Ag)) (.inl rfl) _) (.inl rfl) _) (.inl rfl) _) (.inl rfl) _) (.inl rfl) _) (.inl rfl) _) (.inl rfl) _) (.inl rfl) _); replace Ad := ak (Kd.R_kept (kR_q Ad) hk (fun k_ h1_ h2_ => by have q0 := NL1.out; have q1 := NL2.out; have q2 := NL3.out; have q3 := NL4.out; have q4 := JN0.out; have q5 := NL10.out; have q6 := NL11.out; have q7 := NL12.out; have g1 := GLgb52.out; have g2 := GHgb52.out; have a1 := h1_.1; have a2 := h1_.2; have a3 : k_ = Ag := h2_; omega)); replace Aw := ak (Kd.S_kept (kS_q Aw) hk (fun k_ h1_ h2_ => by have q0 := NL1.out; have q1 := NL2.out; have q2 := NL3.out; have q3 := NL4.out; have q4 := JN0.out; have q5 := NL10.out; have q6 := NL11.out; have q7 := NL12.out; have g1 := GLgb52.out; have g2 := GHgb52.out; have a1 := h1_.1; have a2 := h1_.2; have a3 : k_ = Ag := h2_; omega)); replace Ax := ak (Kd.R_kept (kR_q Ax) hk (fun k_ h1_ h2_ => by have q0 := NL1.out; have q1 := NL2.out; have q2 := NL3.out; have q3 := NL4.out; have q4 := JN0.out; have q5 := NL10.out; have q6 := NL11.out; have q7 := NL12.out; have g1 := GLgb52.out; have g2 := GHgb52.out; have a1 := h1_.1; have a2 := h1_.2; have a3 : k_ = Ag := h2_; omega)); replace BKgb1 := ak (blk_kept (g := Ac) (o := .cells #[.int .i64 Aj, .int .i64 Ak, .int .i64 Al, .int .i64 Am, .int .i64 An, .slice Ao Ai.length Ap, .int .i64 Aq, .bool Ar] 57 (0, 0)) (bk_q BKgb1) hk (fun h2_ => by have a3 : Ac = Ag := h2_; have q0 := NL1.out; have q1 := NL2.out; have q2 := NL3.out; have q3 := NL4.out; have q4 := JN0.out; have q5 := NL10.out; have q6 := NL11.out; have q7 := NL12.out; have g1 := GLgb52.out; have g2 := GHgb52.out; have g3 := GLgb1.out; have g4 := GHgb1.out; omega)); replace BKgb34 := ak (blk_kept (g := Ab) (o := .cells #[.int .i64 Ay, .int .i64 Az, .int .i64 Ba, .int .i64 Bb, .int .i64 Bc, .slice Ao31 Bd.length co32, .int .i64 Be, .bool Bf] 61 (0, 0)) (bk_q BKgb34) hk (fun h2_ => by have a3 : Ab = Ag := h2_; have q0 := NL1.out; have q1 := NL2.out; have q2 := NL3.out; have q3 := NL4.out; have q4 := JN0.out; have q5 := NL10.out; have q6 := NL11.out; have q7 := NL12.out; have g1 := GLgb52.out; have g2 := GHgb52.out; have g3 := GLgb34.out; have g4 := GHgb34.out; omega)); replace BKgb52 := ak ((by rw [hw]; exact laws_FnExactFind.set8 BKgb52.out : w13.heap[Ag]? = some (.cells #[.int .i64 Bz, .int .i64 Ca, .int .i64 Cb, .int .i64 Cc, .int .i64 Cd, .slice Ao49 By.length co50, .int .i64 Ce, .bool Cf] 61 (0, 0)))); replace HB := ak ((by rw [hw]; exact below_set (below_set (below_set (below_set (below_set (below_set (below_set (below_set (HB.out) GEgb52.out) GEgb52.out) GEgb52.out) GEgb52.out) GEgb52.out) GEgb52.out) GEgb52.out) GEgb52.out : Below w.heap.size w w13)); have NL13 := ak ((hk.1 : w12.heap.size ≤ w13.heap.size)); (try clear hb); (try clear hk); (try clear hw); (try clear hbox); (try clear hg); clear hz17_0 hy17_0 hz17_1 hy17_1 hz17_2 hy17_2 hz17_3 hy17_3 hz17_4 hy17_4 hz17_5 hy17_5 hz17_6 hy17_6 hz17_7 hy17_7; have hl18_gb52_0 : w13.cell? ⟨Ag, 0, none⟩ = some (.int .i64 Bz) := (blk_cell BKgb52.out 0).trans rfl; have hl18_gb52_1 : w13.cell? ⟨Ag, 1, none⟩ = some (.int .i64 Ca) := (blk_cell BKgb52.out 1).trans rfl; have hl18_gb52_2 : w13.cell? ⟨Ag, 2, none⟩ = some (.int .i64 Cb) := (blk_cell BKgb52.out 2).trans rfl; have hl18_gb52_3 : w13.cell? ⟨Ag, 3, none⟩ = some (.int .i64 Cc) := (blk_cell BKgb52.out 3).trans rfl; have hl18_gb52_4 : w13.cell? ⟨Ag, 4, none⟩ = some (.int .i64 Cd) := (blk_cell BKgb52.out 4).trans rfl; have hl18_gb52_5 : w13.cell? ⟨Ag, 5, none⟩ = some (.slice Ao49 By.length co50) := (blk_cell BKgb52.out 5).trans rfl; have hl18_gb52_6 : w13.cell? ⟨Ag, 6, none⟩ = some (.int .i64 Ce) := (blk_cell BKgb52.out 6).trans rfl; have hl18_gb52_7 : w13.cell? ⟨Ag, 7, none⟩ = some (.bool Cf) := (blk_cell BKgb52.out 7).trans rfl) | ((with_reducible refine gate_callee (f := 37) rfl ?_); refine goesL_ (some 42) rfl rfl Try.func37 (by kernel_rfl) rfl #[.slice Ao37 Cz.length co38, .agg #[.int .i64 Bz, .int .i64 Ca, .int .i64 Cb, .int .i64 Cc, .int .i64 Cd, .slice Ao49 By.length co50, .int .i64 Ce, .bool Cf]] rfl mp_q ?_; (with_reducible refine (impl_Find.calls k Ao37 co38 Cz Bz Ca Cb Cc Cd Ao49 co50 By Ce Cf Bo Bp Bq Br Bs Bv Bt Bu Co _ ?side1 ?side2 ?side3 ?side4 EQ20.out).mono ?_); (case side1 => repeat (first | exact (Kd.S_reads' Aw.out).2.2 | (with_reducible refine Kd.C_alloc ?_ _) | (with_reducible refine Kd.C_drewN ?_ _) | (with_reducible refine Kd.C_drew ?_))); (case side2 => exact (by have e_ := Kd.S_reads' Aw.out; exact Nat.le_trans (Nat.le_of_eq e_.1.symm) e_.2.1)); (case side3 => repeat (first | exact (Kd.R_reads' Ax.out).2.2 | (with_reducible refine Kd.C_alloc ?_ _) | (with_reducible refine Kd.C_drewN ?_ _) | (with_reducible refine Kd.C_drew ?_))); (case side4 => exact (by have e_ := Kd.R_reads' Ax.out; exact Nat.le_trans (Nat.le_of_eq e_.1.symm) e_.2.1)); rintro e_ w14 ⟨v62, rfl, ho0, hb⟩; refine ⟨_, rfl, ?_⟩; replace Ad := ak (Kd.R_below (kR_q Ad) hb); replace Aw := ak (Kd.S_below (kS_q Aw) hb); replace Ax := ak (Kd.R_below (kR_q Ax) hb); replace BKgb1 := ak (blk_below (g := Ac) (bk_q BKgb1) hb); replace BKgb34 := ak (blk_below (g := Ab) (bk_q BKgb34) hb); replace BKgb52 := ak (blk_below (g := Ag) (bk_q BKgb52) hb); have NL14 := ak ((hb.size : w13.heap.size ≤ w14.heap.size)); have Af := ak (laws_FnExactFind.newR (Kd.R_mono ho0 (fun _ _ => trivial)) (b := w.heap.size) (n := w13.heap.size) (Below.size HB.out) (Nat.le_refl _)); replace HB := ak (below_step (bw_q HB) hb); (try clear hb); (try clear hk); (try clear ho0); obtain ⟨Ao63, co64, e_v62⟩ := Kd.R_slice Af.out; subst e_v62; clear hl18_gb52_0 hl18_gb52_1 hl18_gb52_2 hl18_gb52_3 hl18_gb52_4 hl18_gb52_5 hl18_gb52_6 hl18_gb52_7) | ((with_reducible refine gate_dst (N := 10) rfl ?_); refine box_q 10 #[.int .i64 0, .int .i64 0, .int .i64 0, .int .i64 0, .int .i64 0, .slice none 0 0, .int .i64 0, .bool false] 61 ?_; intro Ae hg w15 hbox hb; replace Ad := ak (Kd.R_below (kR_q Ad) hb); replace Aw := ak (Kd.S_below (kS_q Aw) hb); replace Ax := ak (Kd.R_below (kR_q Ax) hb); replace Af := ak (Kd.R_below (kR_q Af) hb); replace BKgb1 := ak (blk_below (g := Ac) (bk_q BKgb1) hb); replace BKgb34 := ak (blk_below (g := Ab) (bk_q BKgb34) hb); replace BKgb52 := ak (blk_below (g := Ag) (bk_q BKgb52) hb); have BKgb66 := ak (hbox); have GLgb66 := ak ((by rw [hg]; exact Nat.le_refl _ : w14.heap.size ≤ Ae)); have GHgb66 := ak ((blk_lt hbox : Ae < w15.heap.size)); have GEgb66 := ak ((by rw [hg]; exact below_size (bw_q HB) : w.heap.size ≤ Ae)); have NL15 := ak ((hb.size : w14.heap.size ≤ w15.heap.size)); replace HB := ak (below_step (bw_q HB) hb); (try clear hb); (try clear hk); (try clear hw); (try clear hbox); (try clear hg); have hz21_0 : w15.cell? ⟨Ae, 0, none⟩ = some (.int .i64 0) := (blk_cell BKgb66.out 0).trans rfl; have hy21_0 := blk_frozen BKgb66.out 0; have hz21_1 : w15.cell? ⟨Ae, 1, none⟩ = some (.int .i64 0) := (blk_cell BKgb66.out 1).trans rfl; have hy21_1 := blk_frozen BKgb66.out 1; have hz21_2 : w15.cell? ⟨Ae, 2, none⟩ = some (.int .i64 0) := (blk_cell BKgb66.out 2).trans rfl; have hy21_2 := blk_frozen BKgb66.out 2; have hz21_3 : w15.cell? ⟨Ae, 3, none⟩ = some (.int .i64 0) := (blk_cell BKgb66.out 3).trans rfl; have hy21_3 := blk_frozen BKgb66.out 3; have hz21_4 : w15.cell? ⟨Ae, 4, none⟩ = some (.int .i64 0) := (blk_cell BKgb66.out 4).trans rfl; have hy21_4 := blk_frozen BKgb66.out 4; have hz21_5 : w15.cell? ⟨Ae, 5, none⟩ = some (.slice none 0 0) := (blk_cell BKgb66.out 5).trans rfl; have hy21_5 := blk_frozen BKgb66.out 5; have hz21_6 : w15.cell? ⟨Ae, 6, none⟩ = some (.int .i64 0) := (blk_cell BKgb66.out 6).trans rfl; have hy21_6 := blk_frozen BKgb66.out 6; have hz21_7 : w15.cell? ⟨Ae, 7, none⟩ = some (.bool false) := (blk_cell BKgb66.out 7).trans rfl; have hy21_7 := blk_frozen BKgb66.out 7) | ((with_reducible refine gate_store (t := 61) (p := 10) rfl ?_); refine store_event (t := 61) (p := 10) (v := ?vo_w16) (w1 := ((((((((w15.setCell ⟨Ae, 0, none⟩ (.int .i64 Bo)).setCell ⟨Ae, 1, none⟩ (.int .i64 Bp)).setCell ⟨Ae, 2, none⟩ (.int .i64 Bq)).setCell ⟨Ae, 3, none⟩ (.int .i64 Br)).setCell ⟨Ae, 4, none⟩ (.int .i64 Bs)).setCell ⟨Ae, 5, none⟩ (.slice Ao63 Bv.length co64)).setCell ⟨Ae, 6, none⟩ (.int .i64 Bt)).setCell ⟨Ae, 7, none⟩ (.bool Bu))) ?hg ?ho ?hn ?hr ?_; (case ho => rfl); (case hg => rfl); (case hn => rfl); (case hr => first | (go_simp; done) | (go_simp; rfl)); intro w16 hw; have hk : Kept w15 w16 (fun k_ => k_ = Ae) := (by rw [hw]; exact Kept.setCell (Kept.setCell (Kept.setCell (Kept.setCell (Kept.setCell (Kept.setCell (Kept.setCell (Kept.setCell (Kept.refl w15 (fun k_ => k_ = Ae)) (.inl rfl) _) (.inl rfl) _) (.inl rfl) _) (.inl rfl) _) (.inl rfl) _) (.inl rfl) _) (.inl rfl) _) (.inl rfl) _); replace Ad := ak (Kd.R_kept (kR_q Ad) hk (fun k_ h1_ h2_ => by have q0 := NL1.out; have q1 := NL2.out; have q2 := NL3.out; have q3 := NL4.out; have q4 := JN0.out; have q5 := NL10.out; have q6 := NL11.out; have q7 := NL12.out; have q8 := NL13.out; have q9 := NL14.out; have q10 := NL15.out; have g1 := GLgb66.out; have g2 := GHgb66.out; have a1 := h1_.1; have a2 := h1_.2; have a3 : k_ = Ae := h2_; omega)); replace Aw := ak (Kd.S_kept (kS_q Aw) hk (fun k_ h1_ h2_ => by have q0 := NL1.out; have q1 := NL2.out; have q2 := NL3.out; have q3 := NL4.out; have q4 := JN0.out; have q5 := NL10.out; have q6 := NL11.out; have q7 := NL12.out; have q8 := NL13.out; have q9 := NL14.out; have q10 := NL15.out; have g1 := GLgb66.out; have g2 := GHgb66.out; have a1 := h1_.1; have a2 := h1_.2; have a3 : k_ = Ae := h2_; omega)); replace Ax := ak (Kd.R_kept (kR_q Ax) hk (fun k_ h1_ h2_ => by have q0 := NL1.out; have q1 := NL2.out; have q2 := NL3.out; have q3 := NL4.out; have q4 := JN0.out; have q5 := NL10.out; have q6 := NL11.out; have q7 := NL12.out; have q8 := NL13.out; have q9 := NL14.out; have q10 := NL15.out; have g1 := GLgb66.out; have g2 := GHgb66.out; have a1 := h1_.1; have a2 := h1_.2; have a3 : k_ = Ae := h2_; omega)); replace Af := ak (Kd.R_kept (kR_q Af) hk (fun k_ h1_ h2_ => by have q0 := NL1.out; have q1 := NL2.out; have q2 := NL3.out; have q3 := NL4.out; have q4 := JN0.out; have q5 := NL10.out; have q6 := NL11.out; have q7 := NL12.out; have q8 := NL13.out; have q9 := NL14.out; have q10 := NL15.out; have g1 := GLgb66.out; have g2 := GHgb66.out; have a1 := h1_.1; have a2 := h1_.2; have a3 : k_ = Ae := h2_; omega)); replace BKgb1 := ak (blk_kept (g := Ac) (o := .cells #[.int .i64 Aj, .int .i64 Ak, .int .i64 Al, .int .i64 Am, .int .i64 An, .slice Ao Ai.length Ap, .int .i64 Aq, .bool Ar] 57 (0, 0)) (bk_q BKgb1) hk (fun h2_ => by have a3 : Ac = Ae := h2_; have q0 := NL1.out; have q1 := NL2.out; have q2 := NL3.out; have q3 := NL4.out; have q4 := JN0.out; have q5 := NL10.out; have q6 := NL11.out; have q7 := NL12.out; have q8 := NL13.out; have q9 := NL14.out; have q10 := NL15.out; have g1 := GLgb66.out; have g2 := GHgb66.out; have g3 := GLgb1.out; have g4 := GHgb1.out; omega)); replace BKgb34 := ak (blk_kept (g := Ab) (o := .cells #[.int .i64 Ay, .int .i64 Az, .int .i64 Ba, .int .i64 Bb, .int .i64 Bc, .slice Ao31 Bd.length co32, .int .i64 Be, .bool Bf] 61 (0, 0)) (bk_q BKgb34) hk (fun h2_ => by have a3 : Ab = Ae := h2_; have q0 := NL1.out; have q1 := NL2.out; have q2 := NL3.out; have q3 := NL4.out; have q4 := JN0.out; have q5 := NL10.out; have q6 := NL11.out; have q7 := NL12.out; have q8 := NL13.out; have q9 := NL14.out; have q10 := NL15.out; have g1 := GLgb66.out; have g2 := GHgb66.out; have g3 := GLgb34.out; have g4 := GHgb34.out; omega)); replace BKgb52 := ak (blk_kept (g := Ag) (o := .cells #[.int .i64 Bz, .int .i64 Ca, .int .i64 Cb, .int .i64 Cc, .int .i64 Cd, .slice Ao49 By.length co50, .int .i64 Ce, .bool Cf] 61 (0, 0)) (bk_q BKgb52) hk (fun h2_ => by have a3 : Ag = Ae := h2_; have q0 := NL1.out; have q1 := NL2.out; have q2 := NL3.out; have q3 := NL4.out; have q4 := JN0.out; have q5 := NL10.out; have q6 := NL11.out; have q7 := NL12.out; have q8 := NL13.out; have q9 := NL14.out; have q10 := NL15.out; have g1 := GLgb66.out; have g2 := GHgb66.out; have g3 := GLgb52.out; have g4 := GHgb52.out; omega)); replace BKgb66 := ak ((by rw [hw]; exact laws_FnExactFind.set8 BKgb66.out : w16.heap[Ae]? = some (.cells #[.int .i64 Bo, .int .i64 Bp, .int .i64 Bq, .int .i64 Br, .int .i64 Bs, .slice Ao63 Bv.length co64, .int .i64 Bt, .bool Bu] 61 (0, 0)))); replace HB := ak ((by rw [hw]; exact below_set (below_set (below_set (below_set (below_set (below_set (below_set (below_set (HB.out) GEgb66.out) GEgb66.out) GEgb66.out) GEgb66.out) GEgb66.out) GEgb66.out) GEgb66.out) GEgb66.out : Below w.heap.size w w16)); have NL16 := ak ((hk.1 : w15.heap.size ≤ w16.heap.size)); (try clear hb); (try clear hk); (try clear hw); (try clear hbox); (try clear hg); clear hz21_0 hy21_0 hz21_1 hy21_1 hz21_2 hy21_2 hz21_3 hy21_3 hz21_4 hy21_4 hz21_5 hy21_5 hz21_6 hy21_6 hz21_7 hy21_7; have hl22_gb66_0 : w16.cell? ⟨Ae, 0, none⟩ = some (.int .i64 Bo) := (blk_cell BKgb66.out 0).trans rfl; have hl22_gb66_1 : w16.cell? ⟨Ae, 1, none⟩ = some (.int .i64 Bp) := (blk_cell BKgb66.out 1).trans rfl; have hl22_gb66_2 : w16.cell? ⟨Ae, 2, none⟩ = some (.int .i64 Bq) := (blk_cell BKgb66.out 2).trans rfl; have hl22_gb66_3 : w16.cell? ⟨Ae, 3, none⟩ = some (.int .i64 Br) := (blk_cell BKgb66.out 3).trans rfl; have hl22_gb66_4 : w16.cell? ⟨Ae, 4, none⟩ = some (.int .i64 Bs) := (blk_cell BKgb66.out 4).trans rfl; have hl22_gb66_5 : w16.cell? ⟨Ae, 5, none⟩ = some (.slice Ao63 Bv.length co64) := (blk_cell BKgb66.out 5).trans rfl; have hl22_gb66_6 : w16.cell? ⟨Ae, 6, none⟩ = some (.int .i64 Bt) := (blk_cell BKgb66.out 6).trans rfl; have hl22_gb66_7 : w16.cell? ⟨Ae, 7, none⟩ = some (.bool Bu) := (blk_cell BKgb66.out 7).trans rfl; have hl22_gb34_0 : w16.cell? ⟨Ab, 0, none⟩ = some (.int .i64 Ay) := (blk_cell BKgb34.out 0).trans rfl; have hl22_gb34_1 : w16.cell? ⟨Ab, 1, none⟩ = some (.int .i64 Az) := (blk_cell BKgb34.out 1).trans rfl; have hl22_gb34_2 : w16.cell? ⟨Ab, 2, none⟩ = some (.int .i64 Ba) := (blk_cell BKgb34.out 2).trans rfl; have hl22_gb34_3 : w16.cell? ⟨Ab, 3, none⟩ = some (.int .i64 Bb) := (blk_cell BKgb34.out 3).trans rfl; have hl22_gb34_4 : w16.cell? ⟨Ab, 4, none⟩ = some (.int .i64 Bc) := (blk_cell BKgb34.out 4).trans rfl; have hl22_gb34_5 : w16.cell? ⟨Ab, 5, none⟩ = some (.slice Ao31 Bd.length co32) := (blk_cell BKgb34.out 5).trans rfl; have hl22_gb34_6 : w16.cell? ⟨Ab, 6, none⟩ = some (.int .i64 Be) := (blk_cell BKgb34.out 6).trans rfl; have hl22_gb34_7 : w16.cell? ⟨Ab, 7, none⟩ = some (.bool Bf) := (blk_cell BKgb34.out 7).trans rfl) | ((with_reducible refine gate_callee (f := 38) rfl ?_); refine goesL_ (some 47) rfl rfl Try.func38 (by kernel_rfl) rfl #[.agg #[.int .i64 Bo, .int .i64 Bp, .int .i64 Bq, .int .i64 Br, .int .i64 Bs, .slice Ao63 Bv.length co64, .int .i64 Bt, .bool Bu], .agg #[.int .i64 Ay, .int .i64 Az, .int .i64 Ba, .int .i64 Bb, .int .i64 Bc, .slice Ao31 Bd.length co32, .int .i64 Be, .bool Bf]] rfl mp_q ?_; (with_reducible refine (laws_eqRecord.calls k Bo Bp Bq Br Bs Ao63 co64 Bv Bt Bu Ay Az Ba Bb Bc Ao31 co32 Bd Be Bf true _ ?side1 ?side2 ?side3 ?side4 EQ25.out).mono ?_); (case side1 => repeat (first | exact (Kd.R_reads' Af.out).2.2 | (with_reducible refine Kd.C_alloc ?_ _) | (with_reducible refine Kd.C_drewN ?_ _) | (with_reducible refine Kd.C_drew ?_))); (case side2 => exact (by have e_ := Kd.R_reads' Af.out; exact Nat.le_trans (Nat.le_of_eq e_.1.symm) e_.2.1)); (case side3 => repeat (first | exact (Kd.R_reads' Ad.out).2.2 | (with_reducible refine Kd.C_alloc ?_ _) | (with_reducible refine Kd.C_drewN ?_ _) | (with_reducible refine Kd.C_drew ?_))); (case side4 => exact (by have e_ := Kd.R_reads' Ad.out; exact Nat.le_trans (Nat.le_of_eq e_.1.symm) e_.2.1)); rintro e_ w17 ⟨rfl, hb⟩; refine ⟨_, rfl, ?_⟩; replace Ad := ak (Kd.R_below (kR_q Ad) hb); replace Aw := ak (Kd.S_below (kS_q Aw) hb); replace Ax := ak (Kd.R_below (kR_q Ax) hb); replace Af := ak (Kd.R_below (kR_q Af) hb); replace BKgb1 := ak (blk_below (g := Ac) (bk_q BKgb1) hb); replace BKgb34 := ak (blk_below (g := Ab) (bk_q BKgb34) hb); replace BKgb52 := ak (blk_below (g := Ag) (bk_q BKgb52) hb); replace BKgb66 := ak (blk_below (g := Ae) (bk_q BKgb66) hb); have NL17 := ak ((hb.size : w16.heap.size ≤ w17.heap.size)); replace HB := ak (below_step (bw_q HB) hb); (try clear hb); (try clear hk); clear hl22_gb66_0 hl22_gb66_1 hl22_gb66_2 hl22_gb66_3 hl22_gb66_4 hl22_gb66_5 hl22_gb66_6 hl22_gb66_7 hl22_gb34_0 hl22_gb34_1 hl22_gb34_2 hl22_gb34_3 hl22_gb34_4 hl22_gb34_5 hl22_gb34_6 hl22_gb34_7) | ((with_reducible refine gate_callee (f := 27) rfl ?_); refine goesL_ (some 56) rfl rfl Try.func27 (by kernel_rfl) rfl #[.slice A0 l0.length c0] rfl mp_q ?_; (with_reducible refine (laws_toRecordS.calls k A0 c0 l0 Df _ ?side1 ?side2 EQ28.out).mono ?_); (case side1 => exact cs_q (Kd.C_below HR0.out HB.out)); (case side2 => exact Cx.out); rintro e_ w18 ⟨v69, rfl, ho0, hb⟩; refine ⟨_, rfl, ?_⟩; replace Ad := ak (Kd.R_below (kR_q Ad) hb); replace Aw := ak (Kd.S_below (kS_q Aw) hb); replace Ax := ak (Kd.R_below (kR_q Ax) hb); replace Af := ak (Kd.R_below (kR_q Af) hb); replace BKgb1 := ak (blk_below (g := Ac) (bk_q BKgb1) hb); replace BKgb34 := ak (blk_below (g := Ab) (bk_q BKgb34) hb); replace BKgb52 := ak (blk_below (g := Ag) (bk_q BKgb52) hb); replace BKgb66 := ak (blk_below (g := Ae) (bk_q BKgb66) hb); have NL18 := ak ((hb.size : w17.heap.size ≤ w18.heap.size)); have Dc := ak (laws_FnExactFind.newS (Kd.S_mono ho0 (fun _ _ => trivial)) (b := w.heap.size) (n := w17.heap.size) (Below.size HB.out) (Nat.le_refl _)); replace HB := ak (below_step (bw_q HB) hb); (try clear hb); (try clear hk); (try clear ho0); obtain ⟨Ao70, co71, e_v69⟩ := Kd.S_slice Dc.out; subst e_v69) | ((with_reducible refine gate_callee (f := 29) rfl ?_); refine goesL_ (some 57) rfl rfl Try.func29 (by kernel_rfl) rfl #[.slice Ao37 Cz.length co38, .slice Ao70 Df.length co71] rfl mp_q ?_; (with_reducible refine (laws_eqRecordS.calls k Ao37 co38 Cz Ao70 co71 Df true _ ?side1 ?side2 ?side3 ?side4 EQ29.out).mono ?_); (case side1 => repeat (first | exact (Kd.S_reads' Aw.out).2.2 | (with_reducible refine Kd.C_alloc ?_ _) | (with_reducible refine Kd.C_drewN ?_ _) | (with_reducible refine Kd.C_drew ?_))); (case side2 => exact (by have e_ := Kd.S_reads' Aw.out; exact Nat.le_trans (Nat.le_of_eq e_.1.symm) e_.2.1)); (case side3 => repeat (first | exact (Kd.S_reads' Dc.out).2.2 | (with_reducible refine Kd.C_alloc ?_ _) | (with_reducible refine Kd.C_drewN ?_ _) | (with_reducible refine Kd.C_drew ?_))); (case side4 => exact (by have e_ := Kd.S_reads' Dc.out; exact Nat.le_trans (Nat.le_of_eq e_.1.symm) e_.2.1)); rintro e_ w19 ⟨rfl, hb⟩; refine ⟨_, rfl, ?_⟩; replace Ad := ak (Kd.R_below (kR_q Ad) hb); replace Aw := ak (Kd.S_below (kS_q Aw) hb); replace Ax := ak (Kd.R_below (kR_q Ax) hb); replace Af := ak (Kd.R_below (kR_q Af) hb); replace BKgb1 := ak (blk_below (g := Ac) (bk_q BKgb1) hb); replace BKgb34 := ak (blk_below (g := Ab) (bk_q BKgb34) hb); replace BKgb52 := ak (blk_below (g := Ag) (bk_q BKgb52) hb); replace BKgb66 := ak (blk_below (g := Ae) (bk_q BKgb66) hb); have NL19 := ak ((hb.size : w18.heap.size ≤ w19.heap.size)); replace HB := ak (below_step (bw_q HB) hb); clear Dc; (try clear hb); (try clear hk); have hl29_gb52_0 : w19.cell? ⟨Ag, 0, none⟩ = some (.int .i64 Bz) := (blk_cell BKgb52.out 0).trans rfl; have hl29_gb52_1 : w19.cell? ⟨Ag, 1, none⟩ = some (.int .i64 Ca) := (blk_cell BKgb52.out 1).trans rfl; have hl29_gb52_2 : w19.cell? ⟨Ag, 2, none⟩ = some (.int .i64 Cb) := (blk_cell BKgb52.out 2).trans rfl; have hl29_gb52_3 : w19.cell? ⟨Ag, 3, none⟩ = some (.int .i64 Cc) := (blk_cell BKgb52.out 3).trans rfl; have hl29_gb52_4 : w19.cell? ⟨Ag, 4, none⟩ = some (.int .i64 Cd) := (blk_cell BKgb52.out 4).trans rfl; have hl29_gb52_5 : w19.cell? ⟨Ag, 5, none⟩ = some (.slice Ao49 By.length co50) := (blk_cell BKgb52.out 5).trans rfl; have hl29_gb52_6 : w19.cell? ⟨Ag, 6, none⟩ = some (.int .i64 Ce) := (blk_cell BKgb52.out 6).trans rfl; have hl29_gb52_7 : w19.cell? ⟨Ag, 7, none⟩ = some (.bool Cf) := (blk_cell BKgb52.out 7).trans rfl; have hl29_gb1_0 : w19.cell? ⟨Ac, 0, none⟩ = some (.int .i64 Aj) := (blk_cell BKgb1.out 0).trans rfl; have hl29_gb1_1 : w19.cell? ⟨Ac, 1, none⟩ = some (.int .i64 Ak) := (blk_cell BKgb1.out 1).trans rfl; have hl29_gb1_2 : w19.cell? ⟨Ac, 2, none⟩ = some (.int .i64 Al) := (blk_cell BKgb1.out 2).trans rfl; have hl29_gb1_3 : w19.cell? ⟨Ac, 3, none⟩ = some (.int .i64 Am) := (blk_cell BKgb1.out 3).trans rfl; have hl29_gb1_4 : w19.cell? ⟨Ac, 4, none⟩ = some (.int .i64 An) := (blk_cell BKgb1.out 4).trans rfl; have hl29_gb1_5 : w19.cell? ⟨Ac, 5, none⟩ = some (.slice Ao Ai.length Ap) := (blk_cell BKgb1.out 5).trans rfl; have hl29_gb1_6 : w19.cell? ⟨Ac, 6, none⟩ = some (.int .i64 Aq) := (blk_cell BKgb1.out 6).trans rfl; have hl29_gb1_7 : w19.cell? ⟨Ac, 7, none⟩ = some (.bool Ar) := (blk_cell BKgb1.out 7).trans rfl))
                 replace Ad := ak (Kd.R_drew Ad.out); replace Aw := ak (Kd.S_drew Aw.out); replace Ax := ak (Kd.R_drew Ax.out); replace Af := ak (Kd.R_drew Af.out); replace BKgb1 := ak (blk_drew BKgb1.out); replace BKgb34 := ak (blk_drew BKgb34.out); replace BKgb52 := ak (blk_drew BKgb52.out); replace BKgb66 := ak (blk_drew BKgb66.out); replace HB := ak (below_drew1 HB.out)
                 have NL20 := ak (show w19.heap.size ≤ w19.drew.heap.size from Nat.le_refl _)
                 refine start_ (n := 5) (S := fun w' => w'.cell? ⟨Ag, 0, none⟩ = some (.int .i64 Bz) ∧ w'.cell? ⟨Ag, 1, none⟩ = some (.int .i64 Ca) ∧ w'.cell? ⟨Ag, 2, none⟩ = some (.int .i64 Cb) ∧ w'.cell? ⟨Ag, 3, none⟩ = some (.int .i64 Cc) ∧ w'.cell? ⟨Ag, 4, none⟩ = some (.int .i64 Cd) ∧ w'.cell? ⟨Ag, 5, none⟩ = some (.slice Ao49 By.length co50) ∧ w'.cell? ⟨Ag, 6, none⟩ = some (.int .i64 Ce) ∧ w'.cell? ⟨Ag, 7, none⟩ = some (.bool Cf) ∧ w'.cell? ⟨Ac, 0, none⟩ = some (.int .i64 Aj) ∧ w'.cell? ⟨Ac, 1, none⟩ = some (.int .i64 Ak) ∧ w'.cell? ⟨Ac, 2, none⟩ = some (.int .i64 Al) ∧ w'.cell? ⟨Ac, 3, none⟩ = some (.int .i64 Am) ∧ w'.cell? ⟨Ac, 4, none⟩ = some (.int .i64 An) ∧ w'.cell? ⟨Ac, 5, none⟩ = some (.slice Ao Ai.length Ap) ∧ w'.cell? ⟨Ac, 6, none⟩ = some (.int .i64 Aq) ∧ w'.cell? ⟨Ac, 7, none⟩ = some (.bool Ar)) (ds := []) (bL 5 0) (by kernel_rfl) rfl rfl ⟨(blk_cell BKgb52.out 0).trans rfl, (blk_cell BKgb52.out 1).trans rfl, (blk_cell BKgb52.out 2).trans rfl, (blk_cell BKgb52.out 3).trans rfl, (blk_cell BKgb52.out 4).trans rfl, (blk_cell BKgb52.out 5).trans rfl, (blk_cell BKgb52.out 6).trans rfl, (blk_cell BKgb52.out 7).trans rfl, (blk_cell BKgb1.out 0).trans rfl, (blk_cell BKgb1.out 1).trans rfl, (blk_cell BKgb1.out 2).trans rfl, (blk_cell BKgb1.out 3).trans rfl, (blk_cell BKgb1.out 4).trans rfl, (blk_cell BKgb1.out 5).trans rfl, (blk_cell BKgb1.out 6).trans rfl, (blk_cell BKgb1.out 7).trans rfl⟩ (fun hHeld => ?_)
                 generalize w19.drew = w20 at Ad Aw Ax Af BKgb1 BKgb34 BKgb52 BKgb66 HB NL20 hHeld ⊢
                 refine take_ (i := 0) (N := some 59) (v := ?_) (a' := ?_) (bL 5 1) rfl rfl (by kernel_rfl) (fun _ _ _ h => h) (Or.inl ⟨by rfl, ?_⟩) hHeld ?_ ?_; rotate_left; (rintro w' ⟨s0, s1, s2, s3, s4, s5, s6, s7, s8, s9, s10, s11, s12, s13, s14, s15⟩; go_simp; with_reducible rfl); rotate_left; (exact put_q)
                 refine take_ (i := 1) (N := some 60) (v := ?_) (a' := ?_) (bL 5 3) rfl rfl (by kernel_rfl) (fun _ _ _ h => h) (Or.inl ⟨by rfl, ?_⟩) hHeld ?_ ?_; rotate_left; (rintro w' ⟨s0, s1, s2, s3, s4, s5, s6, s7, s8, s9, s10, s11, s12, s13, s14, s15⟩; go_simp; with_reducible rfl); rotate_left; (exact put_q)
                 refine one_ (i := 2) (N := some 61) (bL 5 7) rfl rfl (by kernel_rfl) (by decide) (fun K hK => ?_)
                 refine goes_ Try.func36 (by kernel_rfl) rfl #[.agg #[.int .i64 Aj, .int .i64 Ak, .int .i64 Al, .int .i64 Am, .int .i64 An, .slice Ao Ai.length Ap, .int .i64 Aq, .bool Ar]] (by rfl) rfl rfl mp_q ?_
                 (with_reducible refine (laws_toRecord.calls k Aj Ak Al Am An Ao Ap Ai Aq Ar Dg Dh Di Dj Dk Dl Dm Dn _ ?side1 ?side2 EQ34.out).mono ?_)
                 (case side1 => exact cs_q (Kd.C_below Bw.out HB.out))
                 (case side2 => exact Bx.out)
                 rintro e_ w21 ⟨v82, rfl, ho0, hb⟩
                 refine ⟨_, rfl, ?_⟩
                 replace Ad := ak (Kd.R_below (kR_q Ad) hb); replace Aw := ak (Kd.S_below (kS_q Aw) hb); replace Ax := ak (Kd.R_below (kR_q Ax) hb); replace Af := ak (Kd.R_below (kR_q Af) hb); replace BKgb1 := ak (blk_below (g := Ac) (bk_q BKgb1) hb); replace BKgb34 := ak (blk_below (g := Ab) (bk_q BKgb34) hb); replace BKgb52 := ak (blk_below (g := Ag) (bk_q BKgb52) hb); replace BKgb66 := ak (blk_below (g := Ae) (bk_q BKgb66) hb); have NL21 := ak ((hb.size : w20.heap.size ≤ w21.heap.size))
                 have Dd := ak (laws_FnExactFind.newR (Kd.R_mono ho0 (fun _ _ => trivial)) (b := w.heap.size) (n := w20.heap.size) (Below.size HB.out) (Nat.le_refl _))
                 replace HB := ak (below_step (bw_q HB) hb); (try clear hb); (try clear hk); (try clear ho0); obtain ⟨Ao83, co84, e_v82⟩ := Kd.R_slice Dd.out; subst e_v82; clear hl29_gb52_0 hl29_gb52_1 hl29_gb52_2 hl29_gb52_3 hl29_gb52_4 hl29_gb52_5 hl29_gb52_6 hl29_gb52_7 hl29_gb1_0 hl29_gb1_1 hl29_gb1_2 hl29_gb1_3 hl29_gb1_4 hl29_gb1_5 hl29_gb1_6 hl29_gb1_7
                 refine hK.out _ _ ⟨(blk_cell BKgb52.out 0).trans rfl, (blk_cell BKgb52.out 1).trans rfl, (blk_cell BKgb52.out 2).trans rfl, (blk_cell BKgb52.out 3).trans rfl, (blk_cell BKgb52.out 4).trans rfl, (blk_cell BKgb52.out 5).trans rfl, (blk_cell BKgb52.out 6).trans rfl, (blk_cell BKgb52.out 7).trans rfl, (blk_cell BKgb1.out 0).trans rfl, (blk_cell BKgb1.out 1).trans rfl, (blk_cell BKgb1.out 2).trans rfl, (blk_cell BKgb1.out 3).trans rfl, (blk_cell BKgb1.out 4).trans rfl, (blk_cell BKgb1.out 5).trans rfl, (blk_cell BKgb1.out 6).trans rfl, (blk_cell BKgb1.out 7).trans rfl⟩ (fun hHeld => ?_)
                 clear hK K
                 refine norm_ (a' := ?_) ?_ ?_; rotate_left; (show Act.put _ (some 61) _ = _; simp only [Act.put, List.setIfInBounds_toArray, List.set_cons_zero, List.set_cons_succ, i64_w, i32_w]; rfl)
                 refine one_ (i := 3) (N := some 62) (bL 5 15) rfl rfl (by kernel_rfl) (by decide) (fun K hK => ?_)
                 refine goes_ Try.func38 (by kernel_rfl) rfl #[.agg #[.int .i64 Bz, .int .i64 Ca, .int .i64 Cb, .int .i64 Cc, .int .i64 Cd, .slice Ao49 By.length co50, .int .i64 Ce, .bool Cf], .agg #[.int .i64 Dg, .int .i64 Dh, .int .i64 Di, .int .i64 Dj, .int .i64 Dk, .slice Ao83 Dl.length co84, .int .i64 Dm, .bool Dn]] (by rfl) rfl rfl mp_q ?_
                 (with_reducible refine (laws_eqRecord.calls k Bz Ca Cb Cc Cd Ao49 co50 By Ce Cf Dg Dh Di Dj Dk Ao83 co84 Dl Dm Dn true _ ?side1 ?side2 ?side3 ?side4 EQ35.out).mono ?_)
                 (case side1 => repeat (first | exact (Kd.R_reads' Ax.out).2.2 | (with_reducible refine Kd.C_alloc ?_ _) | (with_reducible refine Kd.C_drewN ?_ _) | (with_reducible refine Kd.C_drew ?_)))
                 (case side2 => exact (by have e_ := Kd.R_reads' Ax.out; exact Nat.le_trans (Nat.le_of_eq e_.1.symm) e_.2.1))
                 (case side3 => repeat (first | exact (Kd.R_reads' Dd.out).2.2 | (with_reducible refine Kd.C_alloc ?_ _) | (with_reducible refine Kd.C_drewN ?_ _) | (with_reducible refine Kd.C_drew ?_)))
                 (case side4 => exact (by have e_ := Kd.R_reads' Dd.out; exact Nat.le_trans (Nat.le_of_eq e_.1.symm) e_.2.1))
                 rintro e_ w22 ⟨rfl, hb⟩
                 refine ⟨_, rfl, ?_⟩
                 replace Ad := ak (Kd.R_below (kR_q Ad) hb); replace Aw := ak (Kd.S_below (kS_q Aw) hb); replace Ax := ak (Kd.R_below (kR_q Ax) hb); replace Af := ak (Kd.R_below (kR_q Af) hb); replace BKgb1 := ak (blk_below (g := Ac) (bk_q BKgb1) hb); replace BKgb34 := ak (blk_below (g := Ab) (bk_q BKgb34) hb); replace BKgb52 := ak (blk_below (g := Ag) (bk_q BKgb52) hb); replace BKgb66 := ak (blk_below (g := Ae) (bk_q BKgb66) hb); have NL22 := ak ((hb.size : w21.heap.size ≤ w22.heap.size)); replace HB := ak (below_step (bw_q HB) hb); clear Dd; (try clear hb); (try clear hk)
                 refine hK.out _ _ ⟨(blk_cell BKgb52.out 0).trans rfl, (blk_cell BKgb52.out 1).trans rfl, (blk_cell BKgb52.out 2).trans rfl, (blk_cell BKgb52.out 3).trans rfl, (blk_cell BKgb52.out 4).trans rfl, (blk_cell BKgb52.out 5).trans rfl, (blk_cell BKgb52.out 6).trans rfl, (blk_cell BKgb52.out 7).trans rfl, (blk_cell BKgb1.out 0).trans rfl, (blk_cell BKgb1.out 1).trans rfl, (blk_cell BKgb1.out 2).trans rfl, (blk_cell BKgb1.out 3).trans rfl, (blk_cell BKgb1.out 4).trans rfl, (blk_cell BKgb1.out 5).trans rfl, (blk_cell BKgb1.out 6).trans rfl, (blk_cell BKgb1.out 7).trans rfl⟩ (fun hHeld => ?_)
                 clear hK K
                 refine norm_ (a' := ?_) ?_ ?_; rotate_left; (show Act.put _ (some 62) _ = _; simp only [Act.put, List.setIfInBounds_toArray, List.set_cons_zero, List.set_cons_succ, i64_w, i32_w]; rfl)
                 refine pr_ 4 63 (bL 5 31) rfl rfl ?_
                 refine done_ (by kernel_rfl) ?_
                 try go_wp2_with (first | ((with_reducible refine gate_callee (f := 31) rfl ?_); refine goesL_ (some 66) rfl rfl Try.func31 (by kernel_rfl) rfl #[.slice Ao37 Cz.length co38, .int .i64 1] rfl mp_q ?_; (with_reducible refine (laws_markRecordS.calls k (fun k_ => w9.heap.size ≤ k_ ∧ k_ < w10.heap.size) (.slice Ao37 Cz.length co38) Cz 1 Do Dv w _ ?side1 ?side2 EQ38.out).mono ?_); (case side1 => exact (bw_q HB)); (case side2 => exact (kS_q Aw)); rintro e_ w23 ⟨rfl, hm0, hb, hk⟩; refine ⟨_, rfl, ?_⟩; replace Ad := ak (Kd.R_kept (kR_q Ad) hk (fun k_ h1_ h2_ => by have q0 := NL1.out; have q1 := NL2.out; have q2 := NL3.out; have q3 := NL4.out; have q4 := JN0.out; have q5 := NL10.out; have q6 := NL11.out; have q7 := NL12.out; have q8 := NL13.out; have q9 := NL14.out; have q10 := NL15.out; have q11 := NL16.out; have q12 := NL17.out; have q13 := NL18.out; have q14 := NL19.out; have q15 := NL20.out; have q16 := NL21.out; have q17 := NL22.out; have a1 := h1_.1; have a2 := h1_.2; have a3 := h2_.1; have a4 := h2_.2; omega)); replace Ax := ak (Kd.R_kept (kR_q Ax) hk (fun k_ h1_ h2_ => by have q0 := NL1.out; have q1 := NL2.out; have q2 := NL3.out; have q3 := NL4.out; have q4 := JN0.out; have q5 := NL10.out; have q6 := NL11.out; have q7 := NL12.out; have q8 := NL13.out; have q9 := NL14.out; have q10 := NL15.out; have q11 := NL16.out; have q12 := NL17.out; have q13 := NL18.out; have q14 := NL19.out; have q15 := NL20.out; have q16 := NL21.out; have q17 := NL22.out; have a1 := h1_.1; have a2 := h1_.2; have a3 := h2_.1; have a4 := h2_.2; omega)); replace Af := ak (Kd.R_kept (kR_q Af) hk (fun k_ h1_ h2_ => by have q0 := NL1.out; have q1 := NL2.out; have q2 := NL3.out; have q3 := NL4.out; have q4 := JN0.out; have q5 := NL10.out; have q6 := NL11.out; have q7 := NL12.out; have q8 := NL13.out; have q9 := NL14.out; have q10 := NL15.out; have q11 := NL16.out; have q12 := NL17.out; have q13 := NL18.out; have q14 := NL19.out; have q15 := NL20.out; have q16 := NL21.out; have q17 := NL22.out; have a1 := h1_.1; have a2 := h1_.2; have a3 := h2_.1; have a4 := h2_.2; omega)); replace BKgb1 := ak (blk_kept (g := Ac) (o := .cells #[.int .i64 Aj, .int .i64 Ak, .int .i64 Al, .int .i64 Am, .int .i64 An, .slice Ao Ai.length Ap, .int .i64 Aq, .bool Ar] 57 (0, 0)) (bk_q BKgb1) hk (fun h2_ => by have q0 := NL1.out; have q1 := NL2.out; have q2 := NL3.out; have q3 := NL4.out; have q4 := JN0.out; have q5 := NL10.out; have q6 := NL11.out; have q7 := NL12.out; have q8 := NL13.out; have q9 := NL14.out; have q10 := NL15.out; have q11 := NL16.out; have q12 := NL17.out; have q13 := NL18.out; have q14 := NL19.out; have q15 := NL20.out; have q16 := NL21.out; have q17 := NL22.out; have g1 := GLgb1.out; have g2 := GHgb1.out; have a3 := h2_.1; have a4 := h2_.2; omega)); replace BKgb34 := ak (blk_kept (g := Ab) (o := .cells #[.int .i64 Ay, .int .i64 Az, .int .i64 Ba, .int .i64 Bb, .int .i64 Bc, .slice Ao31 Bd.length co32, .int .i64 Be, .bool Bf] 61 (0, 0)) (bk_q BKgb34) hk (fun h2_ => by have q0 := NL1.out; have q1 := NL2.out; have q2 := NL3.out; have q3 := NL4.out; have q4 := JN0.out; have q5 := NL10.out; have q6 := NL11.out; have q7 := NL12.out; have q8 := NL13.out; have q9 := NL14.out; have q10 := NL15.out; have q11 := NL16.out; have q12 := NL17.out; have q13 := NL18.out; have q14 := NL19.out; have q15 := NL20.out; have q16 := NL21.out; have q17 := NL22.out; have g1 := GLgb34.out; have g2 := GHgb34.out; have a3 := h2_.1; have a4 := h2_.2; omega)); replace BKgb52 := ak (blk_kept (g := Ag) (o := .cells #[.int .i64 Bz, .int .i64 Ca, .int .i64 Cb, .int .i64 Cc, .int .i64 Cd, .slice Ao49 By.length co50, .int .i64 Ce, .bool Cf] 61 (0, 0)) (bk_q BKgb52) hk (fun h2_ => by have q0 := NL1.out; have q1 := NL2.out; have q2 := NL3.out; have q3 := NL4.out; have q4 := JN0.out; have q5 := NL10.out; have q6 := NL11.out; have q7 := NL12.out; have q8 := NL13.out; have q9 := NL14.out; have q10 := NL15.out; have q11 := NL16.out; have q12 := NL17.out; have q13 := NL18.out; have q14 := NL19.out; have q15 := NL20.out; have q16 := NL21.out; have q17 := NL22.out; have g1 := GLgb52.out; have g2 := GHgb52.out; have a3 := h2_.1; have a4 := h2_.2; omega)); replace BKgb66 := ak (blk_kept (g := Ae) (o := .cells #[.int .i64 Bo, .int .i64 Bp, .int .i64 Bq, .int .i64 Br, .int .i64 Bs, .slice Ao63 Bv.length co64, .int .i64 Bt, .bool Bu] 61 (0, 0)) (bk_q BKgb66) hk (fun h2_ => by have q0 := NL1.out; have q1 := NL2.out; have q2 := NL3.out; have q3 := NL4.out; have q4 := JN0.out; have q5 := NL10.out; have q6 := NL11.out; have q7 := NL12.out; have q8 := NL13.out; have q9 := NL14.out; have q10 := NL15.out; have q11 := NL16.out; have q12 := NL17.out; have q13 := NL18.out; have q14 := NL19.out; have q15 := NL20.out; have q16 := NL21.out; have q17 := NL22.out; have g1 := GLgb66.out; have g2 := GHgb66.out; have a3 := h2_.1; have a4 := h2_.2; omega)); replace HB := ak (hb); have NL23 := ak ((hk.1 : w22.heap.size ≤ w23.heap.size)); clear Aw; (try clear hb); (try clear hk); (try clear hm0); have hl38_gb52_0 : w23.cell? ⟨Ag, 0, none⟩ = some (.int .i64 Bz) := (blk_cell BKgb52.out 0).trans rfl; have hl38_gb52_1 : w23.cell? ⟨Ag, 1, none⟩ = some (.int .i64 Ca) := (blk_cell BKgb52.out 1).trans rfl; have hl38_gb52_2 : w23.cell? ⟨Ag, 2, none⟩ = some (.int .i64 Cb) := (blk_cell BKgb52.out 2).trans rfl; have hl38_gb52_3 : w23.cell? ⟨Ag, 3, none⟩ = some (.int .i64 Cc) := (blk_cell BKgb52.out 3).trans rfl; have hl38_gb52_4 : w23.cell? ⟨Ag, 4, none⟩ = some (.int .i64 Cd) := (blk_cell BKgb52.out 4).trans rfl; have hl38_gb52_5 : w23.cell? ⟨Ag, 5, none⟩ = some (.slice Ao49 By.length co50) := (blk_cell BKgb52.out 5).trans rfl; have hl38_gb52_6 : w23.cell? ⟨Ag, 6, none⟩ = some (.int .i64 Ce) := (blk_cell BKgb52.out 6).trans rfl; have hl38_gb52_7 : w23.cell? ⟨Ag, 7, none⟩ = some (.bool Cf) := (blk_cell BKgb52.out 7).trans rfl) | ((with_reducible refine gate_callee (f := 39) rfl ?_); refine goesL_ (some 69) rfl rfl Try.func39 (by kernel_rfl) rfl #[.agg #[.int .i64 Bz, .int .i64 Ca, .int .i64 Cb, .int .i64 Cc, .int .i64 Cd, .slice Ao49 By.length co50, .int .i64 Ce, .bool Cf], .int .i64 Do] rfl mp_q ?_; (with_reducible refine (laws_markRecord.calls k Bz Ca Cb Cc Cd (fun k_ => w10.heap.size ≤ k_ ∧ k_ < w11.heap.size) (.slice Ao49 By.length co50) By Ce Cf Do Dp Dw w _ ?side1 ?side2 EQ40.out).mono ?_); (case side1 => exact (bw_q HB)); (case side2 => exact (kR_q Ax)); rintro e_ w24 ⟨rfl, hm0, hb, hk⟩; refine ⟨_, rfl, ?_⟩; replace Ad := ak (Kd.R_kept (kR_q Ad) hk (fun k_ h1_ h2_ => by have q0 := NL1.out; have q1 := NL2.out; have q2 := NL3.out; have q3 := NL4.out; have q4 := JN0.out; have q5 := NL10.out; have q6 := NL11.out; have q7 := NL12.out; have q8 := NL13.out; have q9 := NL14.out; have q10 := NL15.out; have q11 := NL16.out; have q12 := NL17.out; have q13 := NL18.out; have q14 := NL19.out; have q15 := NL20.out; have q16 := NL21.out; have q17 := NL22.out; have q18 := NL23.out; have a1 := h1_.1; have a2 := h1_.2; have a3 := h2_.1; have a4 := h2_.2; omega)); replace Af := ak (Kd.R_kept (kR_q Af) hk (fun k_ h1_ h2_ => by have q0 := NL1.out; have q1 := NL2.out; have q2 := NL3.out; have q3 := NL4.out; have q4 := JN0.out; have q5 := NL10.out; have q6 := NL11.out; have q7 := NL12.out; have q8 := NL13.out; have q9 := NL14.out; have q10 := NL15.out; have q11 := NL16.out; have q12 := NL17.out; have q13 := NL18.out; have q14 := NL19.out; have q15 := NL20.out; have q16 := NL21.out; have q17 := NL22.out; have q18 := NL23.out; have a1 := h1_.1; have a2 := h1_.2; have a3 := h2_.1; have a4 := h2_.2; omega)); replace BKgb1 := ak (blk_kept (g := Ac) (o := .cells #[.int .i64 Aj, .int .i64 Ak, .int .i64 Al, .int .i64 Am, .int .i64 An, .slice Ao Ai.length Ap, .int .i64 Aq, .bool Ar] 57 (0, 0)) (bk_q BKgb1) hk (fun h2_ => by have q0 := NL1.out; have q1 := NL2.out; have q2 := NL3.out; have q3 := NL4.out; have q4 := JN0.out; have q5 := NL10.out; have q6 := NL11.out; have q7 := NL12.out; have q8 := NL13.out; have q9 := NL14.out; have q10 := NL15.out; have q11 := NL16.out; have q12 := NL17.out; have q13 := NL18.out; have q14 := NL19.out; have q15 := NL20.out; have q16 := NL21.out; have q17 := NL22.out; have q18 := NL23.out; have g1 := GLgb1.out; have g2 := GHgb1.out; have a3 := h2_.1; have a4 := h2_.2; omega)); replace BKgb34 := ak (blk_kept (g := Ab) (o := .cells #[.int .i64 Ay, .int .i64 Az, .int .i64 Ba, .int .i64 Bb, .int .i64 Bc, .slice Ao31 Bd.length co32, .int .i64 Be, .bool Bf] 61 (0, 0)) (bk_q BKgb34) hk (fun h2_ => by have q0 := NL1.out; have q1 := NL2.out; have q2 := NL3.out; have q3 := NL4.out; have q4 := JN0.out; have q5 := NL10.out; have q6 := NL11.out; have q7 := NL12.out; have q8 := NL13.out; have q9 := NL14.out; have q10 := NL15.out; have q11 := NL16.out; have q12 := NL17.out; have q13 := NL18.out; have q14 := NL19.out; have q15 := NL20.out; have q16 := NL21.out; have q17 := NL22.out; have q18 := NL23.out; have g1 := GLgb34.out; have g2 := GHgb34.out; have a3 := h2_.1; have a4 := h2_.2; omega)); replace BKgb66 := ak (blk_kept (g := Ae) (o := .cells #[.int .i64 Bo, .int .i64 Bp, .int .i64 Bq, .int .i64 Br, .int .i64 Bs, .slice Ao63 Bv.length co64, .int .i64 Bt, .bool Bu] 61 (0, 0)) (bk_q BKgb66) hk (fun h2_ => by have q0 := NL1.out; have q1 := NL2.out; have q2 := NL3.out; have q3 := NL4.out; have q4 := JN0.out; have q5 := NL10.out; have q6 := NL11.out; have q7 := NL12.out; have q8 := NL13.out; have q9 := NL14.out; have q10 := NL15.out; have q11 := NL16.out; have q12 := NL17.out; have q13 := NL18.out; have q14 := NL19.out; have q15 := NL20.out; have q16 := NL21.out; have q17 := NL22.out; have q18 := NL23.out; have g1 := GLgb66.out; have g2 := GHgb66.out; have a3 := h2_.1; have a4 := h2_.2; omega)); replace HB := ak (hb); have NL24 := ak ((hk.1 : w23.heap.size ≤ w24.heap.size)); clear Ax BKgb52; (try clear hb); (try clear hk); (try clear hm0); clear hl38_gb52_0 hl38_gb52_1 hl38_gb52_2 hl38_gb52_3 hl38_gb52_4 hl38_gb52_5 hl38_gb52_6 hl38_gb52_7; have hl40_gb66_0 : w24.cell? ⟨Ae, 0, none⟩ = some (.int .i64 Bo) := (blk_cell BKgb66.out 0).trans rfl; have hl40_gb66_1 : w24.cell? ⟨Ae, 1, none⟩ = some (.int .i64 Bp) := (blk_cell BKgb66.out 1).trans rfl; have hl40_gb66_2 : w24.cell? ⟨Ae, 2, none⟩ = some (.int .i64 Bq) := (blk_cell BKgb66.out 2).trans rfl; have hl40_gb66_3 : w24.cell? ⟨Ae, 3, none⟩ = some (.int .i64 Br) := (blk_cell BKgb66.out 3).trans rfl; have hl40_gb66_4 : w24.cell? ⟨Ae, 4, none⟩ = some (.int .i64 Bs) := (blk_cell BKgb66.out 4).trans rfl; have hl40_gb66_5 : w24.cell? ⟨Ae, 5, none⟩ = some (.slice Ao63 Bv.length co64) := (blk_cell BKgb66.out 5).trans rfl; have hl40_gb66_6 : w24.cell? ⟨Ae, 6, none⟩ = some (.int .i64 Bt) := (blk_cell BKgb66.out 6).trans rfl; have hl40_gb66_7 : w24.cell? ⟨Ae, 7, none⟩ = some (.bool Bu) := (blk_cell BKgb66.out 7).trans rfl; have hl40_gb34_0 : w24.cell? ⟨Ab, 0, none⟩ = some (.int .i64 Ay) := (blk_cell BKgb34.out 0).trans rfl; have hl40_gb34_1 : w24.cell? ⟨Ab, 1, none⟩ = some (.int .i64 Az) := (blk_cell BKgb34.out 1).trans rfl; have hl40_gb34_2 : w24.cell? ⟨Ab, 2, none⟩ = some (.int .i64 Ba) := (blk_cell BKgb34.out 2).trans rfl; have hl40_gb34_3 : w24.cell? ⟨Ab, 3, none⟩ = some (.int .i64 Bb) := (blk_cell BKgb34.out 3).trans rfl; have hl40_gb34_4 : w24.cell? ⟨Ab, 4, none⟩ = some (.int .i64 Bc) := (blk_cell BKgb34.out 4).trans rfl; have hl40_gb34_5 : w24.cell? ⟨Ab, 5, none⟩ = some (.slice Ao31 Bd.length co32) := (blk_cell BKgb34.out 5).trans rfl; have hl40_gb34_6 : w24.cell? ⟨Ab, 6, none⟩ = some (.int .i64 Be) := (blk_cell BKgb34.out 6).trans rfl; have hl40_gb34_7 : w24.cell? ⟨Ab, 7, none⟩ = some (.bool Bf) := (blk_cell BKgb34.out 7).trans rfl) | ((with_reducible refine gate_callee (f := 38) rfl ?_); (try (refine gate_guard (by rfl) ?_; dsimp only)); refine goesL_ (some 75) rfl rfl Try.func38 (by kernel_rfl) rfl #[.agg #[.int .i64 Bo, .int .i64 Bp, .int .i64 Bq, .int .i64 Br, .int .i64 Bs, .slice Ao63 Bv.length co64, .int .i64 Bt, .bool Bu], .agg #[.int .i64 Ay, .int .i64 Az, .int .i64 Ba, .int .i64 Bb, .int .i64 Bc, .slice Ao31 Bd.length co32, .int .i64 Be, .bool Bf]] rfl mp_q ?_; (with_reducible refine (laws_eqRecord.calls k Bo Bp Bq Br Bs Ao63 co64 Bv Bt Bu Ay Az Ba Bb Bc Ao31 co32 Bd Be Bf true _ ?side1 ?side2 ?side3 ?side4 EQ44.out).mono ?_); (case side1 => repeat (first | exact (Kd.R_reads' Af.out).2.2 | (with_reducible refine Kd.C_alloc ?_ _) | (with_reducible refine Kd.C_drewN ?_ _) | (with_reducible refine Kd.C_drew ?_))); (case side2 => exact (by have e_ := Kd.R_reads' Af.out; exact Nat.le_trans (Nat.le_of_eq e_.1.symm) e_.2.1)); (case side3 => repeat (first | exact (Kd.R_reads' Ad.out).2.2 | (with_reducible refine Kd.C_alloc ?_ _) | (with_reducible refine Kd.C_drewN ?_ _) | (with_reducible refine Kd.C_drew ?_))); (case side4 => exact (by have e_ := Kd.R_reads' Ad.out; exact Nat.le_trans (Nat.le_of_eq e_.1.symm) e_.2.1)); rintro e_ w25 ⟨rfl, hb⟩; refine ⟨_, rfl, ?_⟩; replace Ad := ak (Kd.R_below (kR_q Ad) hb); replace Af := ak (Kd.R_below (kR_q Af) hb); replace BKgb1 := ak (blk_below (g := Ac) (bk_q BKgb1) hb); replace BKgb34 := ak (blk_below (g := Ab) (bk_q BKgb34) hb); replace BKgb66 := ak (blk_below (g := Ae) (bk_q BKgb66) hb); have NL25 := ak ((hb.size : w24.heap.size ≤ w25.heap.size)); replace HB := ak (below_step (bw_q HB) hb); (try clear hb); (try clear hk); clear hl40_gb66_0 hl40_gb66_1 hl40_gb66_2 hl40_gb66_3 hl40_gb66_4 hl40_gb66_5 hl40_gb66_6 hl40_gb66_7 hl40_gb34_0 hl40_gb34_1 hl40_gb34_2 hl40_gb34_3 hl40_gb34_4 hl40_gb34_5 hl40_gb34_6 hl40_gb34_7; have hl44_gb66_0 : w25.cell? ⟨Ae, 0, none⟩ = some (.int .i64 Bo) := (blk_cell BKgb66.out 0).trans rfl; have hl44_gb66_1 : w25.cell? ⟨Ae, 1, none⟩ = some (.int .i64 Bp) := (blk_cell BKgb66.out 1).trans rfl; have hl44_gb66_2 : w25.cell? ⟨Ae, 2, none⟩ = some (.int .i64 Bq) := (blk_cell BKgb66.out 2).trans rfl; have hl44_gb66_3 : w25.cell? ⟨Ae, 3, none⟩ = some (.int .i64 Br) := (blk_cell BKgb66.out 3).trans rfl; have hl44_gb66_4 : w25.cell? ⟨Ae, 4, none⟩ = some (.int .i64 Bs) := (blk_cell BKgb66.out 4).trans rfl; have hl44_gb66_5 : w25.cell? ⟨Ae, 5, none⟩ = some (.slice Ao63 Bv.length co64) := (blk_cell BKgb66.out 5).trans rfl; have hl44_gb66_6 : w25.cell? ⟨Ae, 6, none⟩ = some (.int .i64 Bt) := (blk_cell BKgb66.out 6).trans rfl; have hl44_gb66_7 : w25.cell? ⟨Ae, 7, none⟩ = some (.bool Bu) := (blk_cell BKgb66.out 7).trans rfl) | ((with_reducible refine gate_callee (f := 39) rfl ?_); refine goesL_ (some 85) rfl rfl Try.func39 (by kernel_rfl) rfl #[.agg #[.int .i64 Bo, .int .i64 Bp, .int .i64 Bq, .int .i64 Br, .int .i64 Bs, .slice Ao63 Bv.length co64, .int .i64 Bt, .bool Bu], .int .i64 1] rfl mp_q ?_; (with_reducible refine (laws_markRecord.calls k Bo Bp Bq Br Bs (fun k_ => w13.heap.size ≤ k_ ∧ k_ < w14.heap.size) (.slice Ao63 Bv.length co64) Bv Bt Bu 1 Cy Da w _ ?side1 ?side2 EQ48.out).mono ?_); (case side1 => exact (bw_q HB)); (case side2 => exact (kR_q Af)); rintro e_ w26 ⟨rfl, hm0, hb, hk⟩; refine ⟨_, rfl, ?_⟩; replace Ad := ak (Kd.R_kept (kR_q Ad) hk (fun k_ h1_ h2_ => by have q0 := NL1.out; have q1 := NL2.out; have q2 := NL3.out; have q3 := NL4.out; have q4 := JN0.out; have q5 := NL10.out; have q6 := NL11.out; have q7 := NL12.out; have q8 := NL13.out; have q9 := NL14.out; have q10 := NL15.out; have q11 := NL16.out; have q12 := NL17.out; have q13 := NL18.out; have q14 := NL19.out; have q15 := NL20.out; have q16 := NL21.out; have q17 := NL22.out; have q18 := NL23.out; have q19 := NL24.out; have q20 := NL25.out; have a1 := h1_.1; have a2 := h1_.2; have a3 := h2_.1; have a4 := h2_.2; omega)); replace Af := ak (laws_FnExactFind.sameR Af.out hm0 rfl); replace BKgb1 := ak (blk_kept (g := Ac) (o := .cells #[.int .i64 Aj, .int .i64 Ak, .int .i64 Al, .int .i64 Am, .int .i64 An, .slice Ao Ai.length Ap, .int .i64 Aq, .bool Ar] 57 (0, 0)) (bk_q BKgb1) hk (fun h2_ => by have q0 := NL1.out; have q1 := NL2.out; have q2 := NL3.out; have q3 := NL4.out; have q4 := JN0.out; have q5 := NL10.out; have q6 := NL11.out; have q7 := NL12.out; have q8 := NL13.out; have q9 := NL14.out; have q10 := NL15.out; have q11 := NL16.out; have q12 := NL17.out; have q13 := NL18.out; have q14 := NL19.out; have q15 := NL20.out; have q16 := NL21.out; have q17 := NL22.out; have q18 := NL23.out; have q19 := NL24.out; have q20 := NL25.out; have g1 := GLgb1.out; have g2 := GHgb1.out; have a3 := h2_.1; have a4 := h2_.2; omega)); replace BKgb34 := ak (blk_kept (g := Ab) (o := .cells #[.int .i64 Ay, .int .i64 Az, .int .i64 Ba, .int .i64 Bb, .int .i64 Bc, .slice Ao31 Bd.length co32, .int .i64 Be, .bool Bf] 61 (0, 0)) (bk_q BKgb34) hk (fun h2_ => by have q0 := NL1.out; have q1 := NL2.out; have q2 := NL3.out; have q3 := NL4.out; have q4 := JN0.out; have q5 := NL10.out; have q6 := NL11.out; have q7 := NL12.out; have q8 := NL13.out; have q9 := NL14.out; have q10 := NL15.out; have q11 := NL16.out; have q12 := NL17.out; have q13 := NL18.out; have q14 := NL19.out; have q15 := NL20.out; have q16 := NL21.out; have q17 := NL22.out; have q18 := NL23.out; have q19 := NL24.out; have q20 := NL25.out; have g1 := GLgb34.out; have g2 := GHgb34.out; have a3 := h2_.1; have a4 := h2_.2; omega)); replace BKgb66 := ak (blk_kept (g := Ae) (o := .cells #[.int .i64 Bo, .int .i64 Bp, .int .i64 Bq, .int .i64 Br, .int .i64 Bs, .slice Ao63 Bv.length co64, .int .i64 Bt, .bool Bu] 61 (0, 0)) (bk_q BKgb66) hk (fun h2_ => by have q0 := NL1.out; have q1 := NL2.out; have q2 := NL3.out; have q3 := NL4.out; have q4 := JN0.out; have q5 := NL10.out; have q6 := NL11.out; have q7 := NL12.out; have q8 := NL13.out; have q9 := NL14.out; have q10 := NL15.out; have q11 := NL16.out; have q12 := NL17.out; have q13 := NL18.out; have q14 := NL19.out; have q15 := NL20.out; have q16 := NL21.out; have q17 := NL22.out; have q18 := NL23.out; have q19 := NL24.out; have q20 := NL25.out; have g1 := GLgb66.out; have g2 := GHgb66.out; have a3 := h2_.1; have a4 := h2_.2; omega)); replace HB := ak (hb); have NL26 := ak ((hk.1 : w25.heap.size ≤ w26.heap.size)); (try clear hb); (try clear hk); (try clear hm0); clear hl44_gb66_0 hl44_gb66_1 hl44_gb66_2 hl44_gb66_3 hl44_gb66_4 hl44_gb66_5 hl44_gb66_6 hl44_gb66_7; have hl48_gb66_0 : w26.cell? ⟨Ae, 0, none⟩ = some (.int .i64 Bo) := (blk_cell BKgb66.out 0).trans rfl; have hl48_gb66_1 : w26.cell? ⟨Ae, 1, none⟩ = some (.int .i64 Bp) := (blk_cell BKgb66.out 1).trans rfl; have hl48_gb66_2 : w26.cell? ⟨Ae, 2, none⟩ = some (.int .i64 Bq) := (blk_cell BKgb66.out 2).trans rfl; have hl48_gb66_3 : w26.cell? ⟨Ae, 3, none⟩ = some (.int .i64 Br) := (blk_cell BKgb66.out 3).trans rfl; have hl48_gb66_4 : w26.cell? ⟨Ae, 4, none⟩ = some (.int .i64 Bs) := (blk_cell BKgb66.out 4).trans rfl; have hl48_gb66_5 : w26.cell? ⟨Ae, 5, none⟩ = some (.slice Ao63 Bv.length co64) := (blk_cell BKgb66.out 5).trans rfl; have hl48_gb66_6 : w26.cell? ⟨Ae, 6, none⟩ = some (.int .i64 Bt) := (blk_cell BKgb66.out 6).trans rfl; have hl48_gb66_7 : w26.cell? ⟨Ae, 7, none⟩ = some (.bool Bu) := (blk_cell BKgb66.out 7).trans rfl) | ((with_reducible refine gate_callee (f := 40) rfl ?_); refine goesL_ (some 88) rfl rfl Try.func40 (by kernel_rfl) rfl #[.agg #[.int .i64 Bo, .int .i64 Bp, .int .i64 Bq, .int .i64 Br, .int .i64 Bs, .slice Ao63 Da.length co64, .int .i64 Bt, .bool Bu], .int .i64 1] rfl (by (try simp only [List.map_toArray, List.map_cons, List.map_nil]); first | done | rfl | (rw [show Da.length = Bv.length from (Kd.R_reads' Af.out).1.symm] <;> rfl) | (simp only [List.length_drop, List.length_take]; rfl)) ?_; (with_reducible refine (laws_heldRecord.calls k Bo Bp Bq Br Bs Ao63 co64 Da Bt Bu 1 Cy _ ?side1 ?side2 EQ50.out).mono ?_); (case side1 => repeat (first | exact (Kd.R_reads' Af.out).2.2 | (with_reducible refine Kd.C_alloc ?_ _) | (with_reducible refine Kd.C_drewN ?_ _) | (with_reducible refine Kd.C_drew ?_))); (case side2 => exact (by have e_ := Kd.R_reads' Af.out; exact Nat.le_trans (Nat.le_of_eq e_.1.symm) e_.2.1)); rintro e_ w27 ⟨rfl, hb⟩; refine ⟨_, rfl, ?_⟩; replace Ad := ak (Kd.R_below (kR_q Ad) hb); replace Af := ak (Kd.R_below (kR_q Af) hb); replace BKgb1 := ak (blk_below (g := Ac) (bk_q BKgb1) hb); replace BKgb34 := ak (blk_below (g := Ab) (bk_q BKgb34) hb); replace BKgb66 := ak (blk_below (g := Ae) (bk_q BKgb66) hb); have NL27 := ak ((hb.size : w26.heap.size ≤ w27.heap.size)); replace HB := ak (below_step (bw_q HB) hb); (try clear hb); (try clear hk); clear hl48_gb66_0 hl48_gb66_1 hl48_gb66_2 hl48_gb66_3 hl48_gb66_4 hl48_gb66_5 hl48_gb66_6 hl48_gb66_7))
                 replace Ad := ak (Kd.R_drew Ad.out); replace Af := ak (Kd.R_drew Af.out); replace BKgb1 := ak (blk_drew BKgb1.out); replace BKgb34 := ak (blk_drew BKgb34.out); replace BKgb66 := ak (blk_drew BKgb66.out); replace HB := ak (below_drew1 HB.out)
                 have NL28 := ak (show w27.heap.size ≤ w27.drew.heap.size from Nat.le_refl _)
                 refine start_ (n := 11) (S := fun w' => w'.cell? ⟨Ac, 0, none⟩ = some (.int .i64 Aj) ∧ w'.cell? ⟨Ac, 1, none⟩ = some (.int .i64 Ak) ∧ w'.cell? ⟨Ac, 2, none⟩ = some (.int .i64 Al) ∧ w'.cell? ⟨Ac, 3, none⟩ = some (.int .i64 Am) ∧ w'.cell? ⟨Ac, 4, none⟩ = some (.int .i64 An) ∧ w'.cell? ⟨Ac, 5, none⟩ = some (.slice Ao Ai.length Ap) ∧ w'.cell? ⟨Ac, 6, none⟩ = some (.int .i64 Aq) ∧ w'.cell? ⟨Ac, 7, none⟩ = some (.bool Ar)) (ds := []) (bL 11 0) (by kernel_rfl) rfl rfl (cz8_ BKgb1) (fun hHeld => ?_)
                 generalize w27.drew = w28 at Ad Af BKgb1 BKgb34 BKgb66 HB NL28 hHeld ⊢
                 refine take_ (i := 2) (N := some 97) (v := ?_) (a' := ?_) (bL 11 4) rfl rfl (by kernel_rfl) (fun _ _ _ h => h) (Or.inl ⟨by rfl, ?_⟩) hHeld ?_ ?_; rotate_left; (rintro w' ⟨s0, s1, s2, s3, s4, s5, s6, s7⟩; go_simp; with_reducible rfl); rotate_left; (exact put_q)
                 refine pr_ 0 95 (bL 11 5) rfl rfl ?_
                 apply laws_FnExactFind.join_
                 ·intro J
                  refine two_ (i := 1) (j := 8) (Ni := some 96) (Nj := some 15) (bL 11 7) (bL 11 261) rfl rfl rfl rfl (by kernel_rfl) (by decide) (by decide) (fun K hK => ?_) (fun K hK => ?_)
                  ·skip
                   refine goes_ Try.func27 (by kernel_rfl) rfl #[.slice A0 l0.length c0] (by rfl) rfl rfl mp_q ?_
                   (with_reducible refine (laws_toRecordS.calls k A0 c0 l0 Cw _ ?side1 ?side2 EQ54.out).mono ?_)
                   (case side1 => exact cs_q (Kd.C_below HR0.out HB.out))
                   (case side2 => exact Cx.out)
                   rintro e_ w29 ⟨v96, rfl, ho0, hb⟩
                   refine ⟨_, rfl, ?_⟩
                   replace Ad := ak (Kd.R_below (kR_q Ad) hb); replace Af := ak (Kd.R_below (kR_q Af) hb); replace BKgb1 := ak (blk_below (g := Ac) (bk_q BKgb1) hb); replace BKgb34 := ak (blk_below (g := Ab) (bk_q BKgb34) hb); replace BKgb66 := ak (blk_below (g := Ae) (bk_q BKgb66) hb); have NL29 := ak ((hb.size : w28.heap.size ≤ w29.heap.size))
                   have As := ak (laws_FnExactFind.newS (Kd.S_mono ho0 (fun _ _ => trivial)) (b := w.heap.size) (n := w28.heap.size) (Below.size HB.out) (Nat.le_refl _))
                   replace HB := ak (below_step (bw_q HB) hb); (try clear hb); (try clear hk); (try clear ho0); obtain ⟨Ao97, co98, e_v96⟩ := Kd.S_slice As.out; subst e_v96
                   have hl54_gb1_0 : w29.cell? ⟨Ac, 0, none⟩ = some (.int .i64 Aj) := (blk_cell BKgb1.out 0).trans rfl
                   have hl54_gb1_1 : w29.cell? ⟨Ac, 1, none⟩ = some (.int .i64 Ak) := (blk_cell BKgb1.out 1).trans rfl
                   have hl54_gb1_2 : w29.cell? ⟨Ac, 2, none⟩ = some (.int .i64 Al) := (blk_cell BKgb1.out 2).trans rfl
                   have hl54_gb1_3 : w29.cell? ⟨Ac, 3, none⟩ = some (.int .i64 Am) := (blk_cell BKgb1.out 3).trans rfl
                   have hl54_gb1_4 : w29.cell? ⟨Ac, 4, none⟩ = some (.int .i64 An) := (blk_cell BKgb1.out 4).trans rfl
                   have hl54_gb1_5 : w29.cell? ⟨Ac, 5, none⟩ = some (.slice Ao Ai.length Ap) := (blk_cell BKgb1.out 5).trans rfl
                   have hl54_gb1_6 : w29.cell? ⟨Ac, 6, none⟩ = some (.int .i64 Aq) := (blk_cell BKgb1.out 6).trans rfl
                   have hl54_gb1_7 : w29.cell? ⟨Ac, 7, none⟩ = some (.bool Ar) := (blk_cell BKgb1.out 7).trans rfl
                   refine hK.out _ _ (cz8_ BKgb1) (fun hHeld => ?_)
                   clear hK K
                   refine norm_ (a' := ?_) ?_ ?_; rotate_left; (show Act.put _ (some 96) _ = _; simp only [Act.put, List.setIfInBounds_toArray, List.set_cons_zero, List.set_cons_succ, i64_w, i32_w]; rfl)
                   obtain ⟨lo99, el99⟩ : ∃ n_ : Nat, n_ = w28.heap.size := ⟨_, rfl⟩; obtain ⟨hi99, eh99⟩ : ∃ n_ : Nat, n_ = w29.heap.size := ⟨_, rfl⟩
                   replace As := ak (Kd.S_mono As.out (fun k_ h_ => (⟨by have h1_ := h_.1; omega, by have h2_ := h_.2; omega⟩ : lo99 ≤ k_ ∧ k_ < hi99)))
                   have JA99 := ak (And.intro el99 eh99); clear el99 eh99
                   refine two_ (i := 3) (j := 8) (Ni := some 98) (Nj := some 15) (bL 11 15) (bL 11 263) rfl rfl rfl rfl (by kernel_rfl) (by decide) (by decide) (fun K hK => ?_) (fun K hK => ?_)
                   ·skip
                    refine goes_ Try.func36 (by kernel_rfl) rfl #[.agg #[.int .i64 Aj, .int .i64 Ak, .int .i64 Al, .int .i64 Am, .int .i64 An, .slice Ao Ai.length Ap, .int .i64 Aq, .bool Ar]] (by rfl) rfl rfl mp_q ?_
                    (with_reducible refine (laws_toRecord.calls k Aj Ak Al Am An Ao Ap Ai Aq Ar Cg Ch Ci Cj Ck Cl Cm Cn _ ?side1 ?side2 EQ56.out).mono ?_)
                    (case side1 => exact cs_q (Kd.C_below Bw.out HB.out))
                    (case side2 => exact Bx.out)
                    rintro e_ w30 ⟨v108, rfl, ho0, hb⟩
                    refine ⟨_, rfl, ?_⟩
                    replace Ad := ak (Kd.R_below (kR_q Ad) hb); replace Af := ak (Kd.R_below (kR_q Af) hb); replace As := ak (Kd.S_below (kS_q As) hb); replace BKgb1 := ak (blk_below (g := Ac) (bk_q BKgb1) hb); replace BKgb34 := ak (blk_below (g := Ab) (bk_q BKgb34) hb); replace BKgb66 := ak (blk_below (g := Ae) (bk_q BKgb66) hb); have NL30 := ak ((hb.size : w29.heap.size ≤ w30.heap.size))
                    have Ah := ak (laws_FnExactFind.newR (Kd.R_mono ho0 (fun _ _ => trivial)) (b := w.heap.size) (n := w29.heap.size) (Below.size HB.out) (Nat.le_refl _))
                    replace HB := ak (below_step (bw_q HB) hb); (try clear hb); (try clear hk); (try clear ho0); obtain ⟨Ao109, co110, e_v108⟩ := Kd.R_slice Ah.out; subst e_v108; clear hl54_gb1_0 hl54_gb1_1 hl54_gb1_2 hl54_gb1_3 hl54_gb1_4 hl54_gb1_5 hl54_gb1_6 hl54_gb1_7
                    refine hK.out _ _ (cz8_ BKgb1) (fun hHeld => ?_)
                    clear hK K
                    refine norm_ (a' := ?_) ?_ ?_; rotate_left; (show Act.put _ (some 98) _ = _; simp only [Act.put, List.setIfInBounds_toArray, List.set_cons_zero, List.set_cons_succ, i64_w, i32_w]; rfl)
                    obtain ⟨lo111, el111⟩ : ∃ n_ : Nat, n_ = w29.heap.size := ⟨_, rfl⟩; obtain ⟨hi111, eh111⟩ : ∃ n_ : Nat, n_ = w30.heap.size := ⟨_, rfl⟩
                    replace Ah := ak (Kd.R_mono Ah.out (fun k_ h_ => (⟨by have h1_ := h_.1; omega, by have h2_ := h_.2; omega⟩ : lo111 ≤ k_ ∧ k_ < hi111)))
                    have JA111 := ak (And.intro el111 eh111); clear el111 eh111
                    refine two_ (i := 4) (j := 8) (Ni := some 99) (Nj := some 15) (bL 11 31) (bL 11 271) rfl rfl rfl rfl (by kernel_rfl) (by decide) (by decide) (fun K hK => ?_) (fun K hK => ?_)
                    ·skip
                     refine goes_ Try.func37 (by kernel_rfl) rfl #[.slice Ao97 Cw.length co98, .agg #[.int .i64 Cg, .int .i64 Ch, .int .i64 Ci, .int .i64 Cj, .int .i64 Ck, .slice Ao109 Cl.length co110, .int .i64 Cm, .bool Cn]] (by rfl) rfl rfl mp_q ?_
                     (with_reducible refine (impl_Find.calls k Ao97 co98 Cw Cg Ch Ci Cj Ck Ao109 co110 Cl Cm Cn Bg Bh Bi Bj Bk Bl Bm Bn Co _ ?side1 ?side2 ?side3 ?side4 EQ57.out).mono ?_)
                     (case side1 => repeat (first | exact (Kd.S_reads' As.out).2.2 | (with_reducible refine Kd.C_alloc ?_ _) | (with_reducible refine Kd.C_drewN ?_ _) | (with_reducible refine Kd.C_drew ?_)))
                     (case side2 => exact (by have e_ := Kd.S_reads' As.out; exact Nat.le_trans (Nat.le_of_eq e_.1.symm) e_.2.1))
                     (case side3 => repeat (first | exact (Kd.R_reads' Ah.out).2.2 | (with_reducible refine Kd.C_alloc ?_ _) | (with_reducible refine Kd.C_drewN ?_ _) | (with_reducible refine Kd.C_drew ?_)))
                     (case side4 => exact (by have e_ := Kd.R_reads' Ah.out; exact Nat.le_trans (Nat.le_of_eq e_.1.symm) e_.2.1))
                     rintro e_ w31 ⟨v121, rfl, ho0, hb⟩
                     refine ⟨_, rfl, ?_⟩
                     replace Ad := ak (Kd.R_below (kR_q Ad) hb); replace Af := ak (Kd.R_below (kR_q Af) hb); replace As := ak (Kd.S_below (kS_q As) hb); replace Ah := ak (Kd.R_below (kR_q Ah) hb); replace BKgb1 := ak (blk_below (g := Ac) (bk_q BKgb1) hb); replace BKgb34 := ak (blk_below (g := Ab) (bk_q BKgb34) hb); replace BKgb66 := ak (blk_below (g := Ae) (bk_q BKgb66) hb); have NL31 := ak ((hb.size : w30.heap.size ≤ w31.heap.size))
                     have Au := ak (laws_FnExactFind.newR (Kd.R_mono ho0 (fun _ _ => trivial)) (b := w.heap.size) (n := w30.heap.size) (Below.size HB.out) (Nat.le_refl _))
                     replace HB := ak (below_step (bw_q HB) hb); (try clear hb); (try clear hk); (try clear ho0); obtain ⟨Ao122, co123, e_v121⟩ := Kd.R_slice Au.out; subst e_v121
                     refine hK.out _ _ (cz8_ BKgb1) (fun hHeld => ?_)
                     clear hK K
                     refine norm_ (a' := ?_) ?_ ?_; rotate_left; (show Act.put _ (some 99) _ = _; simp only [Act.put, List.setIfInBounds_toArray, List.set_cons_zero, List.set_cons_succ, i64_w, i32_w]; rfl)
                     obtain ⟨lo124, el124⟩ : ∃ n_ : Nat, n_ = w30.heap.size := ⟨_, rfl⟩; obtain ⟨hi124, eh124⟩ : ∃ n_ : Nat, n_ = w31.heap.size := ⟨_, rfl⟩
                     replace Au := ak (Kd.R_mono Au.out (fun k_ h_ => (⟨by have h1_ := h_.1; omega, by have h2_ := h_.2; omega⟩ : lo124 ≤ k_ ∧ k_ < hi124)))
                     have JA124 := ak (And.intro el124 eh124); clear el124 eh124
                     refine pr_ 5 94 (bL 11 63) rfl rfl ?_
                     refine pr_ 6 100 (bL 11 127) rfl rfl ?_
                     refine pr_ 7 101 (bL 11 255) rfl rfl ?_
                     refine one_ (i := 8) (N := some 15) (bL 11 511) rfl rfl (by kernel_rfl) (by decide) (fun K hK => ?_)
                     refine laws_FnExactFind.value_box (cs := #[.int .i64 0, .int .i64 0, .int .i64 0, .int .i64 0, .int .i64 0, .slice none 0 0, .int .i64 0, .bool false]) (t := 61) (by rfl) rfl ?hr ?_
                     (case hr => first | (go_simp; done) | (go_simp; rfl))
                     intro Aa hg w32 hbox hb
                     replace Ad := ak (Kd.R_below (kR_q Ad) hb); replace Af := ak (Kd.R_below (kR_q Af) hb); replace As := ak (Kd.S_below (kS_q As) hb); replace Ah := ak (Kd.R_below (kR_q Ah) hb); replace Au := ak (Kd.R_below (kR_q Au) hb); replace BKgb1 := ak (blk_below (g := Ac) (bk_q BKgb1) hb); replace BKgb34 := ak (blk_below (g := Ab) (bk_q BKgb34) hb); replace BKgb66 := ak (blk_below (g := Ae) (bk_q BKgb66) hb); have BKgb125 := ak (hbox)
                     have GLgb125 := ak ((by rw [hg]; exact Nat.le_refl _ : w31.heap.size ≤ Aa))
                     have GHgb125 := ak ((blk_lt hbox : Aa < w32.heap.size))
                     have GEgb125 := ak ((by rw [hg]; exact below_size (bw_q HB) : w.heap.size ≤ Aa))
                     have NL32 := ak ((hb.size : w31.heap.size ≤ w32.heap.size)); replace HB := ak (below_step (bw_q HB) hb); (try clear hb); (try clear hk); (try clear hw); (try clear hbox); (try clear hg)
                     have hz58_0 : w32.cell? ⟨Aa, 0, none⟩ = some (.int .i64 0) := (blk_cell BKgb125.out 0).trans rfl
                     have hy58_0 := blk_frozen BKgb125.out 0
                     have hz58_1 : w32.cell? ⟨Aa, 1, none⟩ = some (.int .i64 0) := (blk_cell BKgb125.out 1).trans rfl
                     have hy58_1 := blk_frozen BKgb125.out 1
                     have hz58_2 : w32.cell? ⟨Aa, 2, none⟩ = some (.int .i64 0) := (blk_cell BKgb125.out 2).trans rfl
                     have hy58_2 := blk_frozen BKgb125.out 2
                     have hz58_3 : w32.cell? ⟨Aa, 3, none⟩ = some (.int .i64 0) := (blk_cell BKgb125.out 3).trans rfl
                     have hy58_3 := blk_frozen BKgb125.out 3
                     have hz58_4 : w32.cell? ⟨Aa, 4, none⟩ = some (.int .i64 0) := (blk_cell BKgb125.out 4).trans rfl
                     have hy58_4 := blk_frozen BKgb125.out 4
                     have hz58_5 : w32.cell? ⟨Aa, 5, none⟩ = some (.slice none 0 0) := (blk_cell BKgb125.out 5).trans rfl
                     have hy58_5 := blk_frozen BKgb125.out 5
                     have hz58_6 : w32.cell? ⟨Aa, 6, none⟩ = some (.int .i64 0) := (blk_cell BKgb125.out 6).trans rfl
                     have hy58_6 := blk_frozen BKgb125.out 6
                     have hz58_7 : w32.cell? ⟨Aa, 7, none⟩ = some (.bool false) := (blk_cell BKgb125.out 7).trans rfl
                     have hy58_7 := blk_frozen BKgb125.out 7
                     refine hK.out _ _ (cz8_ BKgb1) (fun hHeld => ?_)
                     clear hK K
                     refine norm_ (a' := ?_) ?_ ?_; rotate_left; (show Act.put _ (some 15) _ = _; simp only [Act.put, List.setIfInBounds_toArray, List.set_cons_zero, List.set_cons_succ, i64_w, i32_w]; rfl)
                     refine one_ (i := 9) (N := none) (bL 11 1023) rfl rfl (by kernel_rfl) (by decide) (fun K hK => ?_)
                     have hqa0 : w32.cell? ⟨Aa, 0, none⟩ = some (.int .i64 0) := (blk_cell BKgb125.out 0).trans rfl
                     have hqb0 := blk_frozen BKgb125.out 0
                     have hqa1 : w32.cell? ⟨Aa, 1, none⟩ = some (.int .i64 0) := (blk_cell BKgb125.out 1).trans rfl
                     have hqb1 := blk_frozen BKgb125.out 1
                     have hqa2 : w32.cell? ⟨Aa, 2, none⟩ = some (.int .i64 0) := (blk_cell BKgb125.out 2).trans rfl
                     have hqb2 := blk_frozen BKgb125.out 2
                     have hqa3 : w32.cell? ⟨Aa, 3, none⟩ = some (.int .i64 0) := (blk_cell BKgb125.out 3).trans rfl
                     have hqb3 := blk_frozen BKgb125.out 3
                     have hqa4 : w32.cell? ⟨Aa, 4, none⟩ = some (.int .i64 0) := (blk_cell BKgb125.out 4).trans rfl
                     have hqb4 := blk_frozen BKgb125.out 4
                     have hqa5 : w32.cell? ⟨Aa, 5, none⟩ = some (.slice none 0 0) := (blk_cell BKgb125.out 5).trans rfl
                     have hqb5 := blk_frozen BKgb125.out 5
                     have hqa6 : w32.cell? ⟨Aa, 6, none⟩ = some (.int .i64 0) := (blk_cell BKgb125.out 6).trans rfl
                     have hqb6 := blk_frozen BKgb125.out 6
                     have hqa7 : w32.cell? ⟨Aa, 7, none⟩ = some (.bool false) := (blk_cell BKgb125.out 7).trans rfl
                     have hqb7 := blk_frozen BKgb125.out 7
                     refine laws_FnExactFind.skip_box (w1 := ((((((((w32.setCell ⟨Aa, 0, none⟩ (.int .i64 Bg)).setCell ⟨Aa, 1, none⟩ (.int .i64 Bh)).setCell ⟨Aa, 2, none⟩ (.int .i64 Bi)).setCell ⟨Aa, 3, none⟩ (.int .i64 Bj)).setCell ⟨Aa, 4, none⟩ (.int .i64 Bk)).setCell ⟨Aa, 5, none⟩ (.slice Ao122 Bl.length co123)).setCell ⟨Aa, 6, none⟩ (.int .i64 Bm)).setCell ⟨Aa, 7, none⟩ (.bool Bn))) (by rfl) rfl ?hr ?_
                     (case hr => first | (go_simp; done) | (go_simp; rfl))
                     intro w33 hw
                     have hk : Kept w32 w33 (fun k_ => k_ = Aa) := (by rw [hw]; exact Kept.setCell (Kept.setCell (Kept.setCell (Kept.setCell (Kept.setCell (Kept.setCell (Kept.setCell (Kept.setCell (Kept.refl w32 (fun k_ => k_ = Aa)) (.inl rfl) _) (.inl rfl) _) (.inl rfl) _) (.inl rfl) _) (.inl rfl) _) (.inl rfl) _) (.inl rfl) _) (.inl rfl) _)
                     replace Ad := ak (Kd.R_kept (kR_q Ad) hk (fun k_ h1_ h2_ => by have q0 := NL1.out; have q1 := NL2.out; have q2 := NL3.out; have q3 := NL4.out; have q4 := JN0.out; have q5 := NL10.out; have q6 := NL11.out; have q7 := NL12.out; have q8 := NL13.out; have q9 := NL14.out; have q10 := NL15.out; have q11 := NL16.out; have q12 := NL17.out; have q13 := NL18.out; have q14 := NL19.out; have q15 := NL20.out; have q16 := NL21.out; have q17 := NL22.out; have q18 := NL23.out; have q19 := NL24.out; have q20 := NL25.out; have q21 := NL26.out; have q22 := NL27.out; have q23 := NL28.out; have q24 := NL29.out; have q25 := JA99.out; have q26 := NL30.out; have q27 := JA111.out; have q28 := NL31.out; have q29 := JA124.out; have q30 := NL32.out; have g1 := GLgb125.out; have g2 := GHgb125.out; have a1 := h1_.1; have a2 := h1_.2; have a3 : k_ = Aa := h2_; omega))
                     replace Af := ak (Kd.R_kept (kR_q Af) hk (fun k_ h1_ h2_ => by have q0 := NL1.out; have q1 := NL2.out; have q2 := NL3.out; have q3 := NL4.out; have q4 := JN0.out; have q5 := NL10.out; have q6 := NL11.out; have q7 := NL12.out; have q8 := NL13.out; have q9 := NL14.out; have q10 := NL15.out; have q11 := NL16.out; have q12 := NL17.out; have q13 := NL18.out; have q14 := NL19.out; have q15 := NL20.out; have q16 := NL21.out; have q17 := NL22.out; have q18 := NL23.out; have q19 := NL24.out; have q20 := NL25.out; have q21 := NL26.out; have q22 := NL27.out; have q23 := NL28.out; have q24 := NL29.out; have q25 := JA99.out; have q26 := NL30.out; have q27 := JA111.out; have q28 := NL31.out; have q29 := JA124.out; have q30 := NL32.out; have g1 := GLgb125.out; have g2 := GHgb125.out; have a1 := h1_.1; have a2 := h1_.2; have a3 : k_ = Aa := h2_; omega))
                     replace As := ak (Kd.S_kept (kS_q As) hk (fun k_ h1_ h2_ => by have q0 := NL1.out; have q1 := NL2.out; have q2 := NL3.out; have q3 := NL4.out; have q4 := JN0.out; have q5 := NL10.out; have q6 := NL11.out; have q7 := NL12.out; have q8 := NL13.out; have q9 := NL14.out; have q10 := NL15.out; have q11 := NL16.out; have q12 := NL17.out; have q13 := NL18.out; have q14 := NL19.out; have q15 := NL20.out; have q16 := NL21.out; have q17 := NL22.out; have q18 := NL23.out; have q19 := NL24.out; have q20 := NL25.out; have q21 := NL26.out; have q22 := NL27.out; have q23 := NL28.out; have q24 := NL29.out; have q25 := JA99.out; have q26 := NL30.out; have q27 := JA111.out; have q28 := NL31.out; have q29 := JA124.out; have q30 := NL32.out; have g1 := GLgb125.out; have g2 := GHgb125.out; have a1 := h1_.1; have a2 := h1_.2; have a3 : k_ = Aa := h2_; omega))
                     replace Ah := ak (Kd.R_kept (kR_q Ah) hk (fun k_ h1_ h2_ => by have q0 := NL1.out; have q1 := NL2.out; have q2 := NL3.out; have q3 := NL4.out; have q4 := JN0.out; have q5 := NL10.out; have q6 := NL11.out; have q7 := NL12.out; have q8 := NL13.out; have q9 := NL14.out; have q10 := NL15.out; have q11 := NL16.out; have q12 := NL17.out; have q13 := NL18.out; have q14 := NL19.out; have q15 := NL20.out; have q16 := NL21.out; have q17 := NL22.out; have q18 := NL23.out; have q19 := NL24.out; have q20 := NL25.out; have q21 := NL26.out; have q22 := NL27.out; have q23 := NL28.out; have q24 := NL29.out; have q25 := JA99.out; have q26 := NL30.out; have q27 := JA111.out; have q28 := NL31.out; have q29 := JA124.out; have q30 := NL32.out; have g1 := GLgb125.out; have g2 := GHgb125.out; have a1 := h1_.1; have a2 := h1_.2; have a3 : k_ = Aa := h2_; omega))
                     replace Au := ak (Kd.R_kept (kR_q Au) hk (fun k_ h1_ h2_ => by have q0 := NL1.out; have q1 := NL2.out; have q2 := NL3.out; have q3 := NL4.out; have q4 := JN0.out; have q5 := NL10.out; have q6 := NL11.out; have q7 := NL12.out; have q8 := NL13.out; have q9 := NL14.out; have q10 := NL15.out; have q11 := NL16.out; have q12 := NL17.out; have q13 := NL18.out; have q14 := NL19.out; have q15 := NL20.out; have q16 := NL21.out; have q17 := NL22.out; have q18 := NL23.out; have q19 := NL24.out; have q20 := NL25.out; have q21 := NL26.out; have q22 := NL27.out; have q23 := NL28.out; have q24 := NL29.out; have q25 := JA99.out; have q26 := NL30.out; have q27 := JA111.out; have q28 := NL31.out; have q29 := JA124.out; have q30 := NL32.out; have g1 := GLgb125.out; have g2 := GHgb125.out; have a1 := h1_.1; have a2 := h1_.2; have a3 : k_ = Aa := h2_; omega))
                     replace BKgb1 := ak (blk_kept (g := Ac) (o := .cells #[.int .i64 Aj, .int .i64 Ak, .int .i64 Al, .int .i64 Am, .int .i64 An, .slice Ao Ai.length Ap, .int .i64 Aq, .bool Ar] 57 (0, 0)) (bk_q BKgb1) hk (fun h2_ => by have a3 : Ac = Aa := h2_; have q0 := NL1.out; have q1 := NL2.out; have q2 := NL3.out; have q3 := NL4.out; have q4 := JN0.out; have q5 := NL10.out; have q6 := NL11.out; have q7 := NL12.out; have q8 := NL13.out; have q9 := NL14.out; have q10 := NL15.out; have q11 := NL16.out; have q12 := NL17.out; have q13 := NL18.out; have q14 := NL19.out; have q15 := NL20.out; have q16 := NL21.out; have q17 := NL22.out; have q18 := NL23.out; have q19 := NL24.out; have q20 := NL25.out; have q21 := NL26.out; have q22 := NL27.out; have q23 := NL28.out; have q24 := NL29.out; have q25 := JA99.out; have q26 := NL30.out; have q27 := JA111.out; have q28 := NL31.out; have q29 := JA124.out; have q30 := NL32.out; have g1 := GLgb125.out; have g2 := GHgb125.out; have g3 := GLgb1.out; have g4 := GHgb1.out; omega))
                     replace BKgb34 := ak (blk_kept (g := Ab) (o := .cells #[.int .i64 Ay, .int .i64 Az, .int .i64 Ba, .int .i64 Bb, .int .i64 Bc, .slice Ao31 Bd.length co32, .int .i64 Be, .bool Bf] 61 (0, 0)) (bk_q BKgb34) hk (fun h2_ => by have a3 : Ab = Aa := h2_; have q0 := NL1.out; have q1 := NL2.out; have q2 := NL3.out; have q3 := NL4.out; have q4 := JN0.out; have q5 := NL10.out; have q6 := NL11.out; have q7 := NL12.out; have q8 := NL13.out; have q9 := NL14.out; have q10 := NL15.out; have q11 := NL16.out; have q12 := NL17.out; have q13 := NL18.out; have q14 := NL19.out; have q15 := NL20.out; have q16 := NL21.out; have q17 := NL22.out; have q18 := NL23.out; have q19 := NL24.out; have q20 := NL25.out; have q21 := NL26.out; have q22 := NL27.out; have q23 := NL28.out; have q24 := NL29.out; have q25 := JA99.out; have q26 := NL30.out; have q27 := JA111.out; have q28 := NL31.out; have q29 := JA124.out; have q30 := NL32.out; have g1 := GLgb125.out; have g2 := GHgb125.out; have g3 := GLgb34.out; have g4 := GHgb34.out; omega))
                     replace BKgb66 := ak (blk_kept (g := Ae) (o := .cells #[.int .i64 Bo, .int .i64 Bp, .int .i64 Bq, .int .i64 Br, .int .i64 Bs, .slice Ao63 Bv.length co64, .int .i64 Bt, .bool Bu] 61 (0, 0)) (bk_q BKgb66) hk (fun h2_ => by have a3 : Ae = Aa := h2_; have q0 := NL1.out; have q1 := NL2.out; have q2 := NL3.out; have q3 := NL4.out; have q4 := JN0.out; have q5 := NL10.out; have q6 := NL11.out; have q7 := NL12.out; have q8 := NL13.out; have q9 := NL14.out; have q10 := NL15.out; have q11 := NL16.out; have q12 := NL17.out; have q13 := NL18.out; have q14 := NL19.out; have q15 := NL20.out; have q16 := NL21.out; have q17 := NL22.out; have q18 := NL23.out; have q19 := NL24.out; have q20 := NL25.out; have q21 := NL26.out; have q22 := NL27.out; have q23 := NL28.out; have q24 := NL29.out; have q25 := JA99.out; have q26 := NL30.out; have q27 := JA111.out; have q28 := NL31.out; have q29 := JA124.out; have q30 := NL32.out; have g1 := GLgb125.out; have g2 := GHgb125.out; have g3 := GLgb66.out; have g4 := GHgb66.out; omega))
                     replace BKgb125 := ak ((by rw [hw]; exact laws_FnExactFind.set8 BKgb125.out : w33.heap[Aa]? = some (.cells #[.int .i64 Bg, .int .i64 Bh, .int .i64 Bi, .int .i64 Bj, .int .i64 Bk, .slice Ao122 Bl.length co123, .int .i64 Bm, .bool Bn] 61 (0, 0))))
                     replace HB := ak ((by rw [hw]; exact below_set (below_set (below_set (below_set (below_set (below_set (below_set (below_set (HB.out) GEgb125.out) GEgb125.out) GEgb125.out) GEgb125.out) GEgb125.out) GEgb125.out) GEgb125.out) GEgb125.out : Below w.heap.size w w33))
                     have NL33 := ak ((hk.1 : w32.heap.size ≤ w33.heap.size)); (try clear hb); (try clear hk); (try clear hw); (try clear hbox); (try clear hg); clear hz58_0 hy58_0 hz58_1 hy58_1 hz58_2 hy58_2 hz58_3 hy58_3 hz58_4 hy58_4 hz58_5 hy58_5 hz58_6 hy58_6 hz58_7 hy58_7
                     have hl59_gb125_0 : w33.cell? ⟨Aa, 0, none⟩ = some (.int .i64 Bg) := (blk_cell BKgb125.out 0).trans rfl
                     have hl59_gb125_1 : w33.cell? ⟨Aa, 1, none⟩ = some (.int .i64 Bh) := (blk_cell BKgb125.out 1).trans rfl
                     have hl59_gb125_2 : w33.cell? ⟨Aa, 2, none⟩ = some (.int .i64 Bi) := (blk_cell BKgb125.out 2).trans rfl
                     have hl59_gb125_3 : w33.cell? ⟨Aa, 3, none⟩ = some (.int .i64 Bj) := (blk_cell BKgb125.out 3).trans rfl
                     have hl59_gb125_4 : w33.cell? ⟨Aa, 4, none⟩ = some (.int .i64 Bk) := (blk_cell BKgb125.out 4).trans rfl
                     have hl59_gb125_5 : w33.cell? ⟨Aa, 5, none⟩ = some (.slice Ao122 Bl.length co123) := (blk_cell BKgb125.out 5).trans rfl
                     have hl59_gb125_6 : w33.cell? ⟨Aa, 6, none⟩ = some (.int .i64 Bm) := (blk_cell BKgb125.out 6).trans rfl
                     have hl59_gb125_7 : w33.cell? ⟨Aa, 7, none⟩ = some (.bool Bn) := (blk_cell BKgb125.out 7).trans rfl
                     have hl59_gb34_0 : w33.cell? ⟨Ab, 0, none⟩ = some (.int .i64 Ay) := (blk_cell BKgb34.out 0).trans rfl
                     have hl59_gb34_1 : w33.cell? ⟨Ab, 1, none⟩ = some (.int .i64 Az) := (blk_cell BKgb34.out 1).trans rfl
                     have hl59_gb34_2 : w33.cell? ⟨Ab, 2, none⟩ = some (.int .i64 Ba) := (blk_cell BKgb34.out 2).trans rfl
                     have hl59_gb34_3 : w33.cell? ⟨Ab, 3, none⟩ = some (.int .i64 Bb) := (blk_cell BKgb34.out 3).trans rfl
                     have hl59_gb34_4 : w33.cell? ⟨Ab, 4, none⟩ = some (.int .i64 Bc) := (blk_cell BKgb34.out 4).trans rfl
                     have hl59_gb34_5 : w33.cell? ⟨Ab, 5, none⟩ = some (.slice Ao31 Bd.length co32) := (blk_cell BKgb34.out 5).trans rfl
                     have hl59_gb34_6 : w33.cell? ⟨Ab, 6, none⟩ = some (.int .i64 Be) := (blk_cell BKgb34.out 6).trans rfl
                     have hl59_gb34_7 : w33.cell? ⟨Ab, 7, none⟩ = some (.bool Bf) := (blk_cell BKgb34.out 7).trans rfl
                     refine hK.out _ _ (cz8_ BKgb1) (fun hHeld => ?_)
                     clear hK K; clear hqa0 hqb0 hqa1 hqb1 hqa2 hqb2 hqa3 hqb3 hqa4 hqb4 hqa5 hqb5 hqa6 hqb6 hqa7 hqb7
                     refine pr_ 10 16 (bL 11 2047) rfl rfl ?_
                     have JN2 : Aside0 (w28.heap.size ≤ w33.heap.size ∧ w28.heap.size ≤ lo111 ∧ lo111 ≤ hi111 ∧ hi111 ≤ w33.heap.size ∧ w28.heap.size ≤ lo124 ∧ lo124 ≤ hi124 ∧ hi124 ≤ w33.heap.size ∧ w28.heap.size ≤ lo99 ∧ lo99 ≤ hi99 ∧ hi99 ≤ w33.heap.size ∧ w28.heap.size ≤ Aa ∧ Aa ≤ Aa + 1 ∧ Aa + 1 ≤ w33.heap.size ∧ (hi124 ≤ lo111 ∨ hi111 ≤ lo124) ∧ (hi99 ≤ lo111 ∨ hi111 ≤ lo99) ∧ (hi99 ≤ lo124 ∨ hi124 ≤ lo99) ∧ (Aa + 1 ≤ lo111 ∨ hi111 ≤ Aa) ∧ (Aa + 1 ≤ lo124 ∨ hi124 ≤ Aa) ∧ (Aa + 1 ≤ lo99 ∨ hi99 ≤ Aa)) := ⟨by have q0_ := NL1.out; have q1_ := NL2.out; have q2_ := NL3.out; have q3_ := NL4.out; have q4_ := JN0.out; have q5_ := NL10.out; have q6_ := NL11.out; have q7_ := NL12.out; have q8_ := NL13.out; have q9_ := NL14.out; have q10_ := NL15.out; have q11_ := NL16.out; have q12_ := NL17.out; have q13_ := NL18.out; have q14_ := NL19.out; have q15_ := NL20.out; have q16_ := NL21.out; have q17_ := NL22.out; have q18_ := NL23.out; have q19_ := NL24.out; have q20_ := NL25.out; have q21_ := NL26.out; have q22_ := NL27.out; have q23_ := NL28.out; have q24_ := NL29.out; have q25_ := JA99.out; have q26_ := NL30.out; have q27_ := JA111.out; have q28_ := NL31.out; have q29_ := JA124.out; have q30_ := NL32.out; have q31_ := NL33.out; have g0_ := GLgb125.out; have h0_ := GHgb125.out; refine ⟨by omega, by omega, by omega, by omega, by omega, by omega, by omega, by omega, by omega, by omega, by omega, by omega, by omega, by omega, by omega, by omega, by omega, by omega, by omega⟩⟩
                     have GL2_ : Aside0 (w28.heap.size ≤ Aa) := ⟨by have j_ := JN2.out; omega⟩
                     have GH2_ : Aside0 (Aa < w33.heap.size) := ⟨by have j_ := JN2.out; omega⟩
                     clear GLgb125 GHgb125; have GLgb125 := GL2_; have GHgb125 := GH2_; clear GL2_ GH2_
                     (try clear NL29); (try clear JA99); (try clear NL30); (try clear JA111); (try clear NL31); (try clear JA124); (try clear NL32); (try clear NL33); (try clear hl59_gb125_0); (try clear hl59_gb125_1); (try clear hl59_gb125_2); (try clear hl59_gb125_3); (try clear hl59_gb125_4); (try clear hl59_gb125_5); (try clear hl59_gb125_6); (try clear hl59_gb125_7); (try clear hl59_gb34_0); (try clear hl59_gb34_1); (try clear hl59_gb34_2); (try clear hl59_gb34_3); (try clear hl59_gb34_4); (try clear hl59_gb34_5); (try clear hl59_gb34_6); (try clear hl59_gb34_7); (try clear hHeld)
                     revert JN2
                     revert HB
                     revert GEgb125
                     revert GHgb125
                     revert GLgb125
                     revert BKgb66
                     revert BKgb34
                     revert BKgb125
                     revert BKgb1
                     revert As
                     revert Af
                     revert Ad
                     revert Au
                     revert Ah
                     revert co98
                     revert Ao97
                     revert co123
                     revert Ao122
                     revert co110
                     revert Ao109
                     revert hi99
                     revert lo99
                     revert hi124
                     revert lo124
                     revert hi111
                     revert lo111
                     revert Aa
                     revert w33
                     exact J.out
                    ·skip
                     refine laws_FnExactFind.value_box (cs := #[.int .i64 0, .int .i64 0, .int .i64 0, .int .i64 0, .int .i64 0, .slice none 0 0, .int .i64 0, .bool false]) (t := 61) (by rfl) rfl ?hr ?_
                     (case hr => first | (go_simp; done) | (go_simp; rfl))
                     intro Aa hg w31 hbox hb
                     replace Ad := ak (Kd.R_below (kR_q Ad) hb); replace Af := ak (Kd.R_below (kR_q Af) hb); replace As := ak (Kd.S_below (kS_q As) hb); replace Ah := ak (Kd.R_below (kR_q Ah) hb); replace BKgb1 := ak (blk_below (g := Ac) (bk_q BKgb1) hb); replace BKgb34 := ak (blk_below (g := Ab) (bk_q BKgb34) hb); replace BKgb66 := ak (blk_below (g := Ae) (bk_q BKgb66) hb); have BKgb125 := ak (hbox)
                     have GLgb125 := ak ((by rw [hg]; exact Nat.le_refl _ : w30.heap.size ≤ Aa))
                     have GHgb125 := ak ((blk_lt hbox : Aa < w31.heap.size))
                     have GEgb125 := ak ((by rw [hg]; exact below_size (bw_q HB) : w.heap.size ≤ Aa))
                     have NL31 := ak ((hb.size : w30.heap.size ≤ w31.heap.size)); replace HB := ak (below_step (bw_q HB) hb); (try clear hb); (try clear hk); (try clear hw); (try clear hbox); (try clear hg)
                     have hz58_0 : w31.cell? ⟨Aa, 0, none⟩ = some (.int .i64 0) := (blk_cell BKgb125.out 0).trans rfl
                     have hy58_0 := blk_frozen BKgb125.out 0
                     have hz58_1 : w31.cell? ⟨Aa, 1, none⟩ = some (.int .i64 0) := (blk_cell BKgb125.out 1).trans rfl
                     have hy58_1 := blk_frozen BKgb125.out 1
                     have hz58_2 : w31.cell? ⟨Aa, 2, none⟩ = some (.int .i64 0) := (blk_cell BKgb125.out 2).trans rfl
                     have hy58_2 := blk_frozen BKgb125.out 2
                     have hz58_3 : w31.cell? ⟨Aa, 3, none⟩ = some (.int .i64 0) := (blk_cell BKgb125.out 3).trans rfl
                     have hy58_3 := blk_frozen BKgb125.out 3
                     have hz58_4 : w31.cell? ⟨Aa, 4, none⟩ = some (.int .i64 0) := (blk_cell BKgb125.out 4).trans rfl
                     have hy58_4 := blk_frozen BKgb125.out 4
                     have hz58_5 : w31.cell? ⟨Aa, 5, none⟩ = some (.slice none 0 0) := (blk_cell BKgb125.out 5).trans rfl
                     have hy58_5 := blk_frozen BKgb125.out 5
                     have hz58_6 : w31.cell? ⟨Aa, 6, none⟩ = some (.int .i64 0) := (blk_cell BKgb125.out 6).trans rfl
                     have hy58_6 := blk_frozen BKgb125.out 6
                     have hz58_7 : w31.cell? ⟨Aa, 7, none⟩ = some (.bool false) := (blk_cell BKgb125.out 7).trans rfl
                     have hy58_7 := blk_frozen BKgb125.out 7
                     refine hK.out _ _ (cz8_ BKgb1) (fun hHeld => ?_)
                     clear hK K
                     refine norm_ (a' := ?_) ?_ ?_; rotate_left; (show Act.put _ (some 15) _ = _; simp only [Act.put, List.setIfInBounds_toArray, List.set_cons_zero, List.set_cons_succ, i64_w, i32_w]; rfl)
                     refine one_ (i := 4) (N := some 99) (bL 11 287) rfl rfl (by kernel_rfl) (by decide) (fun K hK => ?_)
                     refine goes_ Try.func37 (by kernel_rfl) rfl #[.slice Ao97 Cw.length co98, .agg #[.int .i64 Cg, .int .i64 Ch, .int .i64 Ci, .int .i64 Cj, .int .i64 Ck, .slice Ao109 Cl.length co110, .int .i64 Cm, .bool Cn]] (by rfl) rfl rfl mp_q ?_
                     (with_reducible refine (impl_Find.calls k Ao97 co98 Cw Cg Ch Ci Cj Ck Ao109 co110 Cl Cm Cn Bg Bh Bi Bj Bk Bl Bm Bn Co _ ?side1 ?side2 ?side3 ?side4 EQ57.out).mono ?_)
                     (case side1 => repeat (first | exact (Kd.S_reads' As.out).2.2 | (with_reducible refine Kd.C_alloc ?_ _) | (with_reducible refine Kd.C_drewN ?_ _) | (with_reducible refine Kd.C_drew ?_)))
                     (case side2 => exact (by have e_ := Kd.S_reads' As.out; exact Nat.le_trans (Nat.le_of_eq e_.1.symm) e_.2.1))
                     (case side3 => repeat (first | exact (Kd.R_reads' Ah.out).2.2 | (with_reducible refine Kd.C_alloc ?_ _) | (with_reducible refine Kd.C_drewN ?_ _) | (with_reducible refine Kd.C_drew ?_)))
                     (case side4 => exact (by have e_ := Kd.R_reads' Ah.out; exact Nat.le_trans (Nat.le_of_eq e_.1.symm) e_.2.1))
                     rintro e_ w32 ⟨v121, rfl, ho0, hb⟩
                     refine ⟨_, rfl, ?_⟩
                     replace Ad := ak (Kd.R_below (kR_q Ad) hb); replace Af := ak (Kd.R_below (kR_q Af) hb); replace As := ak (Kd.S_below (kS_q As) hb); replace Ah := ak (Kd.R_below (kR_q Ah) hb); replace BKgb1 := ak (blk_below (g := Ac) (bk_q BKgb1) hb); replace BKgb34 := ak (blk_below (g := Ab) (bk_q BKgb34) hb); replace BKgb66 := ak (blk_below (g := Ae) (bk_q BKgb66) hb); replace BKgb125 := ak (blk_below (g := Aa) (bk_q BKgb125) hb); have NL32 := ak ((hb.size : w31.heap.size ≤ w32.heap.size))
                     have Au := ak (laws_FnExactFind.newR (Kd.R_mono ho0 (fun _ _ => trivial)) (b := w.heap.size) (n := w31.heap.size) (Below.size HB.out) (Nat.le_refl _))
                     replace HB := ak (below_step (bw_q HB) hb); (try clear hb); (try clear hk); (try clear ho0); obtain ⟨Ao122, co123, e_v121⟩ := Kd.R_slice Au.out; subst e_v121; clear hz58_0 hy58_0 hz58_1 hy58_1 hz58_2 hy58_2 hz58_3 hy58_3 hz58_4 hy58_4 hz58_5 hy58_5 hz58_6 hy58_6 hz58_7 hy58_7
                     refine hK.out _ _ (cz8_ BKgb1) (fun hHeld => ?_)
                     clear hK K
                     refine norm_ (a' := ?_) ?_ ?_; rotate_left; (show Act.put _ (some 99) _ = _; simp only [Act.put, List.setIfInBounds_toArray, List.set_cons_zero, List.set_cons_succ, i64_w, i32_w]; rfl)
                     obtain ⟨lo124, el124⟩ : ∃ n_ : Nat, n_ = w31.heap.size := ⟨_, rfl⟩; obtain ⟨hi124, eh124⟩ : ∃ n_ : Nat, n_ = w32.heap.size := ⟨_, rfl⟩
                     replace Au := ak (Kd.R_mono Au.out (fun k_ h_ => (⟨by have h1_ := h_.1; omega, by have h2_ := h_.2; omega⟩ : lo124 ≤ k_ ∧ k_ < hi124)))
                     have JA124 := ak (And.intro el124 eh124); clear el124 eh124
                     refine pr_ 5 94 (bL 11 319) rfl rfl ?_
                     refine pr_ 6 100 (bL 11 383) rfl rfl ?_
                     refine pr_ 7 101 (bL 11 511) rfl rfl ?_
                     refine one_ (i := 9) (N := none) (bL 11 1023) rfl rfl (by kernel_rfl) (by decide) (fun K hK => ?_)
                     have hqa0 : w32.cell? ⟨Aa, 0, none⟩ = some (.int .i64 0) := (blk_cell BKgb125.out 0).trans rfl
                     have hqb0 := blk_frozen BKgb125.out 0
                     have hqa1 : w32.cell? ⟨Aa, 1, none⟩ = some (.int .i64 0) := (blk_cell BKgb125.out 1).trans rfl
                     have hqb1 := blk_frozen BKgb125.out 1
                     have hqa2 : w32.cell? ⟨Aa, 2, none⟩ = some (.int .i64 0) := (blk_cell BKgb125.out 2).trans rfl
                     have hqb2 := blk_frozen BKgb125.out 2
                     have hqa3 : w32.cell? ⟨Aa, 3, none⟩ = some (.int .i64 0) := (blk_cell BKgb125.out 3).trans rfl
                     have hqb3 := blk_frozen BKgb125.out 3
                     have hqa4 : w32.cell? ⟨Aa, 4, none⟩ = some (.int .i64 0) := (blk_cell BKgb125.out 4).trans rfl
                     have hqb4 := blk_frozen BKgb125.out 4
                     have hqa5 : w32.cell? ⟨Aa, 5, none⟩ = some (.slice none 0 0) := (blk_cell BKgb125.out 5).trans rfl
                     have hqb5 := blk_frozen BKgb125.out 5
                     have hqa6 : w32.cell? ⟨Aa, 6, none⟩ = some (.int .i64 0) := (blk_cell BKgb125.out 6).trans rfl
                     have hqb6 := blk_frozen BKgb125.out 6
                     have hqa7 : w32.cell? ⟨Aa, 7, none⟩ = some (.bool false) := (blk_cell BKgb125.out 7).trans rfl
                     have hqb7 := blk_frozen BKgb125.out 7
                     refine laws_FnExactFind.skip_box (w1 := ((((((((w32.setCell ⟨Aa, 0, none⟩ (.int .i64 Bg)).setCell ⟨Aa, 1, none⟩ (.int .i64 Bh)).setCell ⟨Aa, 2, none⟩ (.int .i64 Bi)).setCell ⟨Aa, 3, none⟩ (.int .i64 Bj)).setCell ⟨Aa, 4, none⟩ (.int .i64 Bk)).setCell ⟨Aa, 5, none⟩ (.slice Ao122 Bl.length co123)).setCell ⟨Aa, 6, none⟩ (.int .i64 Bm)).setCell ⟨Aa, 7, none⟩ (.bool Bn))) (by rfl) rfl ?hr ?_
                     (case hr => first | (go_simp; done) | (go_simp; rfl))
                     intro w33 hw
                     have hk : Kept w32 w33 (fun k_ => k_ = Aa) := (by rw [hw]; exact Kept.setCell (Kept.setCell (Kept.setCell (Kept.setCell (Kept.setCell (Kept.setCell (Kept.setCell (Kept.setCell (Kept.refl w32 (fun k_ => k_ = Aa)) (.inl rfl) _) (.inl rfl) _) (.inl rfl) _) (.inl rfl) _) (.inl rfl) _) (.inl rfl) _) (.inl rfl) _) (.inl rfl) _)
                     replace Ad := ak (Kd.R_kept (kR_q Ad) hk (fun k_ h1_ h2_ => by have q0 := NL1.out; have q1 := NL2.out; have q2 := NL3.out; have q3 := NL4.out; have q4 := JN0.out; have q5 := NL10.out; have q6 := NL11.out; have q7 := NL12.out; have q8 := NL13.out; have q9 := NL14.out; have q10 := NL15.out; have q11 := NL16.out; have q12 := NL17.out; have q13 := NL18.out; have q14 := NL19.out; have q15 := NL20.out; have q16 := NL21.out; have q17 := NL22.out; have q18 := NL23.out; have q19 := NL24.out; have q20 := NL25.out; have q21 := NL26.out; have q22 := NL27.out; have q23 := NL28.out; have q24 := NL29.out; have q25 := JA99.out; have q26 := NL30.out; have q27 := JA111.out; have q28 := NL31.out; have q29 := NL32.out; have q30 := JA124.out; have g1 := GLgb125.out; have g2 := GHgb125.out; have a1 := h1_.1; have a2 := h1_.2; have a3 : k_ = Aa := h2_; omega))
                     replace Af := ak (Kd.R_kept (kR_q Af) hk (fun k_ h1_ h2_ => by have q0 := NL1.out; have q1 := NL2.out; have q2 := NL3.out; have q3 := NL4.out; have q4 := JN0.out; have q5 := NL10.out; have q6 := NL11.out; have q7 := NL12.out; have q8 := NL13.out; have q9 := NL14.out; have q10 := NL15.out; have q11 := NL16.out; have q12 := NL17.out; have q13 := NL18.out; have q14 := NL19.out; have q15 := NL20.out; have q16 := NL21.out; have q17 := NL22.out; have q18 := NL23.out; have q19 := NL24.out; have q20 := NL25.out; have q21 := NL26.out; have q22 := NL27.out; have q23 := NL28.out; have q24 := NL29.out; have q25 := JA99.out; have q26 := NL30.out; have q27 := JA111.out; have q28 := NL31.out; have q29 := NL32.out; have q30 := JA124.out; have g1 := GLgb125.out; have g2 := GHgb125.out; have a1 := h1_.1; have a2 := h1_.2; have a3 : k_ = Aa := h2_; omega))
                     replace As := ak (Kd.S_kept (kS_q As) hk (fun k_ h1_ h2_ => by have q0 := NL1.out; have q1 := NL2.out; have q2 := NL3.out; have q3 := NL4.out; have q4 := JN0.out; have q5 := NL10.out; have q6 := NL11.out; have q7 := NL12.out; have q8 := NL13.out; have q9 := NL14.out; have q10 := NL15.out; have q11 := NL16.out; have q12 := NL17.out; have q13 := NL18.out; have q14 := NL19.out; have q15 := NL20.out; have q16 := NL21.out; have q17 := NL22.out; have q18 := NL23.out; have q19 := NL24.out; have q20 := NL25.out; have q21 := NL26.out; have q22 := NL27.out; have q23 := NL28.out; have q24 := NL29.out; have q25 := JA99.out; have q26 := NL30.out; have q27 := JA111.out; have q28 := NL31.out; have q29 := NL32.out; have q30 := JA124.out; have g1 := GLgb125.out; have g2 := GHgb125.out; have a1 := h1_.1; have a2 := h1_.2; have a3 : k_ = Aa := h2_; omega))
                     replace Ah := ak (Kd.R_kept (kR_q Ah) hk (fun k_ h1_ h2_ => by have q0 := NL1.out; have q1 := NL2.out; have q2 := NL3.out; have q3 := NL4.out; have q4 := JN0.out; have q5 := NL10.out; have q6 := NL11.out; have q7 := NL12.out; have q8 := NL13.out; have q9 := NL14.out; have q10 := NL15.out; have q11 := NL16.out; have q12 := NL17.out; have q13 := NL18.out; have q14 := NL19.out; have q15 := NL20.out; have q16 := NL21.out; have q17 := NL22.out; have q18 := NL23.out; have q19 := NL24.out; have q20 := NL25.out; have q21 := NL26.out; have q22 := NL27.out; have q23 := NL28.out; have q24 := NL29.out; have q25 := JA99.out; have q26 := NL30.out; have q27 := JA111.out; have q28 := NL31.out; have q29 := NL32.out; have q30 := JA124.out; have g1 := GLgb125.out; have g2 := GHgb125.out; have a1 := h1_.1; have a2 := h1_.2; have a3 : k_ = Aa := h2_; omega))
                     replace Au := ak (Kd.R_kept (kR_q Au) hk (fun k_ h1_ h2_ => by have q0 := NL1.out; have q1 := NL2.out; have q2 := NL3.out; have q3 := NL4.out; have q4 := JN0.out; have q5 := NL10.out; have q6 := NL11.out; have q7 := NL12.out; have q8 := NL13.out; have q9 := NL14.out; have q10 := NL15.out; have q11 := NL16.out; have q12 := NL17.out; have q13 := NL18.out; have q14 := NL19.out; have q15 := NL20.out; have q16 := NL21.out; have q17 := NL22.out; have q18 := NL23.out; have q19 := NL24.out; have q20 := NL25.out; have q21 := NL26.out; have q22 := NL27.out; have q23 := NL28.out; have q24 := NL29.out; have q25 := JA99.out; have q26 := NL30.out; have q27 := JA111.out; have q28 := NL31.out; have q29 := NL32.out; have q30 := JA124.out; have g1 := GLgb125.out; have g2 := GHgb125.out; have a1 := h1_.1; have a2 := h1_.2; have a3 : k_ = Aa := h2_; omega))
                     replace BKgb1 := ak (blk_kept (g := Ac) (o := .cells #[.int .i64 Aj, .int .i64 Ak, .int .i64 Al, .int .i64 Am, .int .i64 An, .slice Ao Ai.length Ap, .int .i64 Aq, .bool Ar] 57 (0, 0)) (bk_q BKgb1) hk (fun h2_ => by have a3 : Ac = Aa := h2_; have q0 := NL1.out; have q1 := NL2.out; have q2 := NL3.out; have q3 := NL4.out; have q4 := JN0.out; have q5 := NL10.out; have q6 := NL11.out; have q7 := NL12.out; have q8 := NL13.out; have q9 := NL14.out; have q10 := NL15.out; have q11 := NL16.out; have q12 := NL17.out; have q13 := NL18.out; have q14 := NL19.out; have q15 := NL20.out; have q16 := NL21.out; have q17 := NL22.out; have q18 := NL23.out; have q19 := NL24.out; have q20 := NL25.out; have q21 := NL26.out; have q22 := NL27.out; have q23 := NL28.out; have q24 := NL29.out; have q25 := JA99.out; have q26 := NL30.out; have q27 := JA111.out; have q28 := NL31.out; have q29 := NL32.out; have q30 := JA124.out; have g1 := GLgb125.out; have g2 := GHgb125.out; have g3 := GLgb1.out; have g4 := GHgb1.out; omega))
                     replace BKgb34 := ak (blk_kept (g := Ab) (o := .cells #[.int .i64 Ay, .int .i64 Az, .int .i64 Ba, .int .i64 Bb, .int .i64 Bc, .slice Ao31 Bd.length co32, .int .i64 Be, .bool Bf] 61 (0, 0)) (bk_q BKgb34) hk (fun h2_ => by have a3 : Ab = Aa := h2_; have q0 := NL1.out; have q1 := NL2.out; have q2 := NL3.out; have q3 := NL4.out; have q4 := JN0.out; have q5 := NL10.out; have q6 := NL11.out; have q7 := NL12.out; have q8 := NL13.out; have q9 := NL14.out; have q10 := NL15.out; have q11 := NL16.out; have q12 := NL17.out; have q13 := NL18.out; have q14 := NL19.out; have q15 := NL20.out; have q16 := NL21.out; have q17 := NL22.out; have q18 := NL23.out; have q19 := NL24.out; have q20 := NL25.out; have q21 := NL26.out; have q22 := NL27.out; have q23 := NL28.out; have q24 := NL29.out; have q25 := JA99.out; have q26 := NL30.out; have q27 := JA111.out; have q28 := NL31.out; have q29 := NL32.out; have q30 := JA124.out; have g1 := GLgb125.out; have g2 := GHgb125.out; have g3 := GLgb34.out; have g4 := GHgb34.out; omega))
                     replace BKgb66 := ak (blk_kept (g := Ae) (o := .cells #[.int .i64 Bo, .int .i64 Bp, .int .i64 Bq, .int .i64 Br, .int .i64 Bs, .slice Ao63 Bv.length co64, .int .i64 Bt, .bool Bu] 61 (0, 0)) (bk_q BKgb66) hk (fun h2_ => by have a3 : Ae = Aa := h2_; have q0 := NL1.out; have q1 := NL2.out; have q2 := NL3.out; have q3 := NL4.out; have q4 := JN0.out; have q5 := NL10.out; have q6 := NL11.out; have q7 := NL12.out; have q8 := NL13.out; have q9 := NL14.out; have q10 := NL15.out; have q11 := NL16.out; have q12 := NL17.out; have q13 := NL18.out; have q14 := NL19.out; have q15 := NL20.out; have q16 := NL21.out; have q17 := NL22.out; have q18 := NL23.out; have q19 := NL24.out; have q20 := NL25.out; have q21 := NL26.out; have q22 := NL27.out; have q23 := NL28.out; have q24 := NL29.out; have q25 := JA99.out; have q26 := NL30.out; have q27 := JA111.out; have q28 := NL31.out; have q29 := NL32.out; have q30 := JA124.out; have g1 := GLgb125.out; have g2 := GHgb125.out; have g3 := GLgb66.out; have g4 := GHgb66.out; omega))
                     replace BKgb125 := ak ((by rw [hw]; exact laws_FnExactFind.set8 BKgb125.out : w33.heap[Aa]? = some (.cells #[.int .i64 Bg, .int .i64 Bh, .int .i64 Bi, .int .i64 Bj, .int .i64 Bk, .slice Ao122 Bl.length co123, .int .i64 Bm, .bool Bn] 61 (0, 0))))
                     replace HB := ak ((by rw [hw]; exact below_set (below_set (below_set (below_set (below_set (below_set (below_set (below_set (HB.out) GEgb125.out) GEgb125.out) GEgb125.out) GEgb125.out) GEgb125.out) GEgb125.out) GEgb125.out) GEgb125.out : Below w.heap.size w w33))
                     have NL33 := ak ((hk.1 : w32.heap.size ≤ w33.heap.size)); (try clear hb); (try clear hk); (try clear hw); (try clear hbox); (try clear hg)
                     have hl59_gb125_0 : w33.cell? ⟨Aa, 0, none⟩ = some (.int .i64 Bg) := (blk_cell BKgb125.out 0).trans rfl
                     have hl59_gb125_1 : w33.cell? ⟨Aa, 1, none⟩ = some (.int .i64 Bh) := (blk_cell BKgb125.out 1).trans rfl
                     have hl59_gb125_2 : w33.cell? ⟨Aa, 2, none⟩ = some (.int .i64 Bi) := (blk_cell BKgb125.out 2).trans rfl
                     have hl59_gb125_3 : w33.cell? ⟨Aa, 3, none⟩ = some (.int .i64 Bj) := (blk_cell BKgb125.out 3).trans rfl
                     have hl59_gb125_4 : w33.cell? ⟨Aa, 4, none⟩ = some (.int .i64 Bk) := (blk_cell BKgb125.out 4).trans rfl
                     have hl59_gb125_5 : w33.cell? ⟨Aa, 5, none⟩ = some (.slice Ao122 Bl.length co123) := (blk_cell BKgb125.out 5).trans rfl
                     have hl59_gb125_6 : w33.cell? ⟨Aa, 6, none⟩ = some (.int .i64 Bm) := (blk_cell BKgb125.out 6).trans rfl
                     have hl59_gb125_7 : w33.cell? ⟨Aa, 7, none⟩ = some (.bool Bn) := (blk_cell BKgb125.out 7).trans rfl
                     have hl59_gb34_0 : w33.cell? ⟨Ab, 0, none⟩ = some (.int .i64 Ay) := (blk_cell BKgb34.out 0).trans rfl
                     have hl59_gb34_1 : w33.cell? ⟨Ab, 1, none⟩ = some (.int .i64 Az) := (blk_cell BKgb34.out 1).trans rfl
                     have hl59_gb34_2 : w33.cell? ⟨Ab, 2, none⟩ = some (.int .i64 Ba) := (blk_cell BKgb34.out 2).trans rfl
                     have hl59_gb34_3 : w33.cell? ⟨Ab, 3, none⟩ = some (.int .i64 Bb) := (blk_cell BKgb34.out 3).trans rfl
                     have hl59_gb34_4 : w33.cell? ⟨Ab, 4, none⟩ = some (.int .i64 Bc) := (blk_cell BKgb34.out 4).trans rfl
                     have hl59_gb34_5 : w33.cell? ⟨Ab, 5, none⟩ = some (.slice Ao31 Bd.length co32) := (blk_cell BKgb34.out 5).trans rfl
                     have hl59_gb34_6 : w33.cell? ⟨Ab, 6, none⟩ = some (.int .i64 Be) := (blk_cell BKgb34.out 6).trans rfl
                     have hl59_gb34_7 : w33.cell? ⟨Ab, 7, none⟩ = some (.bool Bf) := (blk_cell BKgb34.out 7).trans rfl
                     refine hK.out _ _ (cz8_ BKgb1) (fun hHeld => ?_)
                     clear hK K; clear hqa0 hqb0 hqa1 hqb1 hqa2 hqb2 hqa3 hqb3 hqa4 hqb4 hqa5 hqb5 hqa6 hqb6 hqa7 hqb7
                     refine pr_ 10 16 (bL 11 2047) rfl rfl ?_
                     have JN2 : Aside0 (w28.heap.size ≤ w33.heap.size ∧ w28.heap.size ≤ lo111 ∧ lo111 ≤ hi111 ∧ hi111 ≤ w33.heap.size ∧ w28.heap.size ≤ lo124 ∧ lo124 ≤ hi124 ∧ hi124 ≤ w33.heap.size ∧ w28.heap.size ≤ lo99 ∧ lo99 ≤ hi99 ∧ hi99 ≤ w33.heap.size ∧ w28.heap.size ≤ Aa ∧ Aa ≤ Aa + 1 ∧ Aa + 1 ≤ w33.heap.size ∧ (hi124 ≤ lo111 ∨ hi111 ≤ lo124) ∧ (hi99 ≤ lo111 ∨ hi111 ≤ lo99) ∧ (hi99 ≤ lo124 ∨ hi124 ≤ lo99) ∧ (Aa + 1 ≤ lo111 ∨ hi111 ≤ Aa) ∧ (Aa + 1 ≤ lo124 ∨ hi124 ≤ Aa) ∧ (Aa + 1 ≤ lo99 ∨ hi99 ≤ Aa)) := ⟨by have q0_ := NL1.out; have q1_ := NL2.out; have q2_ := NL3.out; have q3_ := NL4.out; have q4_ := JN0.out; have q5_ := NL10.out; have q6_ := NL11.out; have q7_ := NL12.out; have q8_ := NL13.out; have q9_ := NL14.out; have q10_ := NL15.out; have q11_ := NL16.out; have q12_ := NL17.out; have q13_ := NL18.out; have q14_ := NL19.out; have q15_ := NL20.out; have q16_ := NL21.out; have q17_ := NL22.out; have q18_ := NL23.out; have q19_ := NL24.out; have q20_ := NL25.out; have q21_ := NL26.out; have q22_ := NL27.out; have q23_ := NL28.out; have q24_ := NL29.out; have q25_ := JA99.out; have q26_ := NL30.out; have q27_ := JA111.out; have q28_ := NL31.out; have q29_ := NL32.out; have q30_ := JA124.out; have q31_ := NL33.out; have g0_ := GLgb125.out; have h0_ := GHgb125.out; refine ⟨by omega, by omega, by omega, by omega, by omega, by omega, by omega, by omega, by omega, by omega, by omega, by omega, by omega, by omega, by omega, by omega, by omega, by omega, by omega⟩⟩
                     have GL2_ : Aside0 (w28.heap.size ≤ Aa) := ⟨by have j_ := JN2.out; omega⟩
                     have GH2_ : Aside0 (Aa < w33.heap.size) := ⟨by have j_ := JN2.out; omega⟩
                     clear GLgb125 GHgb125; have GLgb125 := GL2_; have GHgb125 := GH2_; clear GL2_ GH2_
                     (try clear NL29); (try clear JA99); (try clear NL30); (try clear JA111); (try clear NL31); (try clear NL32); (try clear JA124); (try clear NL33); (try clear hl59_gb125_0); (try clear hl59_gb125_1); (try clear hl59_gb125_2); (try clear hl59_gb125_3); (try clear hl59_gb125_4); (try clear hl59_gb125_5); (try clear hl59_gb125_6); (try clear hl59_gb125_7); (try clear hl59_gb34_0); (try clear hl59_gb34_1); (try clear hl59_gb34_2); (try clear hl59_gb34_3); (try clear hl59_gb34_4); (try clear hl59_gb34_5); (try clear hl59_gb34_6); (try clear hl59_gb34_7); (try clear hHeld)
                     revert JN2
                     revert HB
                     revert GEgb125
                     revert GHgb125
                     revert GLgb125
                     revert BKgb66
                     revert BKgb34
                     revert BKgb125
                     revert BKgb1
                     revert As
                     revert Af
                     revert Ad
                     revert Au
                     revert Ah
                     revert co98
                     revert Ao97
                     revert co123
                     revert Ao122
                     revert co110
                     revert Ao109
                     revert hi99
                     revert lo99
                     revert hi124
                     revert lo124
                     revert hi111
                     revert lo111
                     revert Aa
                     revert w33
                     exact J.out
                   ·skip
                    refine laws_FnExactFind.value_box (cs := #[.int .i64 0, .int .i64 0, .int .i64 0, .int .i64 0, .int .i64 0, .slice none 0 0, .int .i64 0, .bool false]) (t := 61) (by rfl) rfl ?hr ?_
                    (case hr => first | (go_simp; done) | (go_simp; rfl))
                    intro Aa hg w30 hbox hb
                    replace Ad := ak (Kd.R_below (kR_q Ad) hb); replace Af := ak (Kd.R_below (kR_q Af) hb); replace As := ak (Kd.S_below (kS_q As) hb); replace BKgb1 := ak (blk_below (g := Ac) (bk_q BKgb1) hb); replace BKgb34 := ak (blk_below (g := Ab) (bk_q BKgb34) hb); replace BKgb66 := ak (blk_below (g := Ae) (bk_q BKgb66) hb); have BKgb125 := ak (hbox)
                    have GLgb125 := ak ((by rw [hg]; exact Nat.le_refl _ : w29.heap.size ≤ Aa))
                    have GHgb125 := ak ((blk_lt hbox : Aa < w30.heap.size))
                    have GEgb125 := ak ((by rw [hg]; exact below_size (bw_q HB) : w.heap.size ≤ Aa))
                    have NL30 := ak ((hb.size : w29.heap.size ≤ w30.heap.size)); replace HB := ak (below_step (bw_q HB) hb); (try clear hb); (try clear hk); (try clear hw); (try clear hbox); (try clear hg); clear hl54_gb1_0 hl54_gb1_1 hl54_gb1_2 hl54_gb1_3 hl54_gb1_4 hl54_gb1_5 hl54_gb1_6 hl54_gb1_7
                    have hz58_0 : w30.cell? ⟨Aa, 0, none⟩ = some (.int .i64 0) := (blk_cell BKgb125.out 0).trans rfl
                    have hy58_0 := blk_frozen BKgb125.out 0
                    have hz58_1 : w30.cell? ⟨Aa, 1, none⟩ = some (.int .i64 0) := (blk_cell BKgb125.out 1).trans rfl
                    have hy58_1 := blk_frozen BKgb125.out 1
                    have hz58_2 : w30.cell? ⟨Aa, 2, none⟩ = some (.int .i64 0) := (blk_cell BKgb125.out 2).trans rfl
                    have hy58_2 := blk_frozen BKgb125.out 2
                    have hz58_3 : w30.cell? ⟨Aa, 3, none⟩ = some (.int .i64 0) := (blk_cell BKgb125.out 3).trans rfl
                    have hy58_3 := blk_frozen BKgb125.out 3
                    have hz58_4 : w30.cell? ⟨Aa, 4, none⟩ = some (.int .i64 0) := (blk_cell BKgb125.out 4).trans rfl
                    have hy58_4 := blk_frozen BKgb125.out 4
                    have hz58_5 : w30.cell? ⟨Aa, 5, none⟩ = some (.slice none 0 0) := (blk_cell BKgb125.out 5).trans rfl
                    have hy58_5 := blk_frozen BKgb125.out 5
                    have hz58_6 : w30.cell? ⟨Aa, 6, none⟩ = some (.int .i64 0) := (blk_cell BKgb125.out 6).trans rfl
                    have hy58_6 := blk_frozen BKgb125.out 6
                    have hz58_7 : w30.cell? ⟨Aa, 7, none⟩ = some (.bool false) := (blk_cell BKgb125.out 7).trans rfl
                    have hy58_7 := blk_frozen BKgb125.out 7
                    refine hK.out _ _ (cz8_ BKgb1) (fun hHeld => ?_)
                    clear hK K
                    refine norm_ (a' := ?_) ?_ ?_; rotate_left; (show Act.put _ (some 15) _ = _; simp only [Act.put, List.setIfInBounds_toArray, List.set_cons_zero, List.set_cons_succ, i64_w, i32_w]; rfl)
                    refine one_ (i := 3) (N := some 98) (bL 11 271) rfl rfl (by kernel_rfl) (by decide) (fun K hK => ?_)
                    refine goes_ Try.func36 (by kernel_rfl) rfl #[.agg #[.int .i64 Aj, .int .i64 Ak, .int .i64 Al, .int .i64 Am, .int .i64 An, .slice Ao Ai.length Ap, .int .i64 Aq, .bool Ar]] (by rfl) rfl rfl mp_q ?_
                    (with_reducible refine (laws_toRecord.calls k Aj Ak Al Am An Ao Ap Ai Aq Ar Cg Ch Ci Cj Ck Cl Cm Cn _ ?side1 ?side2 EQ56.out).mono ?_)
                    (case side1 => exact cs_q (Kd.C_below Bw.out HB.out))
                    (case side2 => exact Bx.out)
                    rintro e_ w31 ⟨v108, rfl, ho0, hb⟩
                    refine ⟨_, rfl, ?_⟩
                    replace Ad := ak (Kd.R_below (kR_q Ad) hb); replace Af := ak (Kd.R_below (kR_q Af) hb); replace As := ak (Kd.S_below (kS_q As) hb); replace BKgb1 := ak (blk_below (g := Ac) (bk_q BKgb1) hb); replace BKgb34 := ak (blk_below (g := Ab) (bk_q BKgb34) hb); replace BKgb66 := ak (blk_below (g := Ae) (bk_q BKgb66) hb); replace BKgb125 := ak (blk_below (g := Aa) (bk_q BKgb125) hb); have NL31 := ak ((hb.size : w30.heap.size ≤ w31.heap.size))
                    have Ah := ak (laws_FnExactFind.newR (Kd.R_mono ho0 (fun _ _ => trivial)) (b := w.heap.size) (n := w30.heap.size) (Below.size HB.out) (Nat.le_refl _))
                    replace HB := ak (below_step (bw_q HB) hb); (try clear hb); (try clear hk); (try clear ho0); obtain ⟨Ao109, co110, e_v108⟩ := Kd.R_slice Ah.out; subst e_v108; clear hz58_0 hy58_0 hz58_1 hy58_1 hz58_2 hy58_2 hz58_3 hy58_3 hz58_4 hy58_4 hz58_5 hy58_5 hz58_6 hy58_6 hz58_7 hy58_7
                    refine hK.out _ _ (cz8_ BKgb1) (fun hHeld => ?_)
                    clear hK K
                    refine norm_ (a' := ?_) ?_ ?_; rotate_left; (show Act.put _ (some 98) _ = _; simp only [Act.put, List.setIfInBounds_toArray, List.set_cons_zero, List.set_cons_succ, i64_w, i32_w]; rfl)
                    obtain ⟨lo111, el111⟩ : ∃ n_ : Nat, n_ = w30.heap.size := ⟨_, rfl⟩; obtain ⟨hi111, eh111⟩ : ∃ n_ : Nat, n_ = w31.heap.size := ⟨_, rfl⟩
                    replace Ah := ak (Kd.R_mono Ah.out (fun k_ h_ => (⟨by have h1_ := h_.1; omega, by have h2_ := h_.2; omega⟩ : lo111 ≤ k_ ∧ k_ < hi111)))
                    have JA111 := ak (And.intro el111 eh111); clear el111 eh111
                    refine one_ (i := 4) (N := some 99) (bL 11 287) rfl rfl (by kernel_rfl) (by decide) (fun K hK => ?_)
                    refine goes_ Try.func37 (by kernel_rfl) rfl #[.slice Ao97 Cw.length co98, .agg #[.int .i64 Cg, .int .i64 Ch, .int .i64 Ci, .int .i64 Cj, .int .i64 Ck, .slice Ao109 Cl.length co110, .int .i64 Cm, .bool Cn]] (by rfl) rfl rfl mp_q ?_
                    (with_reducible refine (impl_Find.calls k Ao97 co98 Cw Cg Ch Ci Cj Ck Ao109 co110 Cl Cm Cn Bg Bh Bi Bj Bk Bl Bm Bn Co _ ?side1 ?side2 ?side3 ?side4 EQ57.out).mono ?_)
                    (case side1 => repeat (first | exact (Kd.S_reads' As.out).2.2 | (with_reducible refine Kd.C_alloc ?_ _) | (with_reducible refine Kd.C_drewN ?_ _) | (with_reducible refine Kd.C_drew ?_)))
                    (case side2 => exact (by have e_ := Kd.S_reads' As.out; exact Nat.le_trans (Nat.le_of_eq e_.1.symm) e_.2.1))
                    (case side3 => repeat (first | exact (Kd.R_reads' Ah.out).2.2 | (with_reducible refine Kd.C_alloc ?_ _) | (with_reducible refine Kd.C_drewN ?_ _) | (with_reducible refine Kd.C_drew ?_)))
                    (case side4 => exact (by have e_ := Kd.R_reads' Ah.out; exact Nat.le_trans (Nat.le_of_eq e_.1.symm) e_.2.1))
                    rintro e_ w32 ⟨v121, rfl, ho0, hb⟩
                    refine ⟨_, rfl, ?_⟩
                    replace Ad := ak (Kd.R_below (kR_q Ad) hb); replace Af := ak (Kd.R_below (kR_q Af) hb); replace As := ak (Kd.S_below (kS_q As) hb); replace Ah := ak (Kd.R_below (kR_q Ah) hb); replace BKgb1 := ak (blk_below (g := Ac) (bk_q BKgb1) hb); replace BKgb34 := ak (blk_below (g := Ab) (bk_q BKgb34) hb); replace BKgb66 := ak (blk_below (g := Ae) (bk_q BKgb66) hb); replace BKgb125 := ak (blk_below (g := Aa) (bk_q BKgb125) hb); have NL32 := ak ((hb.size : w31.heap.size ≤ w32.heap.size))
                    have Au := ak (laws_FnExactFind.newR (Kd.R_mono ho0 (fun _ _ => trivial)) (b := w.heap.size) (n := w31.heap.size) (Below.size HB.out) (Nat.le_refl _))
                    replace HB := ak (below_step (bw_q HB) hb); (try clear hb); (try clear hk); (try clear ho0); obtain ⟨Ao122, co123, e_v121⟩ := Kd.R_slice Au.out; subst e_v121
                    refine hK.out _ _ (cz8_ BKgb1) (fun hHeld => ?_)
                    clear hK K
                    refine norm_ (a' := ?_) ?_ ?_; rotate_left; (show Act.put _ (some 99) _ = _; simp only [Act.put, List.setIfInBounds_toArray, List.set_cons_zero, List.set_cons_succ, i64_w, i32_w]; rfl)
                    obtain ⟨lo124, el124⟩ : ∃ n_ : Nat, n_ = w31.heap.size := ⟨_, rfl⟩; obtain ⟨hi124, eh124⟩ : ∃ n_ : Nat, n_ = w32.heap.size := ⟨_, rfl⟩
                    replace Au := ak (Kd.R_mono Au.out (fun k_ h_ => (⟨by have h1_ := h_.1; omega, by have h2_ := h_.2; omega⟩ : lo124 ≤ k_ ∧ k_ < hi124)))
                    have JA124 := ak (And.intro el124 eh124); clear el124 eh124
                    refine pr_ 5 94 (bL 11 319) rfl rfl ?_
                    refine pr_ 6 100 (bL 11 383) rfl rfl ?_
                    refine pr_ 7 101 (bL 11 511) rfl rfl ?_
                    refine one_ (i := 9) (N := none) (bL 11 1023) rfl rfl (by kernel_rfl) (by decide) (fun K hK => ?_)
                    have hqa0 : w32.cell? ⟨Aa, 0, none⟩ = some (.int .i64 0) := (blk_cell BKgb125.out 0).trans rfl
                    have hqb0 := blk_frozen BKgb125.out 0
                    have hqa1 : w32.cell? ⟨Aa, 1, none⟩ = some (.int .i64 0) := (blk_cell BKgb125.out 1).trans rfl
                    have hqb1 := blk_frozen BKgb125.out 1
                    have hqa2 : w32.cell? ⟨Aa, 2, none⟩ = some (.int .i64 0) := (blk_cell BKgb125.out 2).trans rfl
                    have hqb2 := blk_frozen BKgb125.out 2
                    have hqa3 : w32.cell? ⟨Aa, 3, none⟩ = some (.int .i64 0) := (blk_cell BKgb125.out 3).trans rfl
                    have hqb3 := blk_frozen BKgb125.out 3
                    have hqa4 : w32.cell? ⟨Aa, 4, none⟩ = some (.int .i64 0) := (blk_cell BKgb125.out 4).trans rfl
                    have hqb4 := blk_frozen BKgb125.out 4
                    have hqa5 : w32.cell? ⟨Aa, 5, none⟩ = some (.slice none 0 0) := (blk_cell BKgb125.out 5).trans rfl
                    have hqb5 := blk_frozen BKgb125.out 5
                    have hqa6 : w32.cell? ⟨Aa, 6, none⟩ = some (.int .i64 0) := (blk_cell BKgb125.out 6).trans rfl
                    have hqb6 := blk_frozen BKgb125.out 6
                    have hqa7 : w32.cell? ⟨Aa, 7, none⟩ = some (.bool false) := (blk_cell BKgb125.out 7).trans rfl
                    have hqb7 := blk_frozen BKgb125.out 7
                    refine laws_FnExactFind.skip_box (w1 := ((((((((w32.setCell ⟨Aa, 0, none⟩ (.int .i64 Bg)).setCell ⟨Aa, 1, none⟩ (.int .i64 Bh)).setCell ⟨Aa, 2, none⟩ (.int .i64 Bi)).setCell ⟨Aa, 3, none⟩ (.int .i64 Bj)).setCell ⟨Aa, 4, none⟩ (.int .i64 Bk)).setCell ⟨Aa, 5, none⟩ (.slice Ao122 Bl.length co123)).setCell ⟨Aa, 6, none⟩ (.int .i64 Bm)).setCell ⟨Aa, 7, none⟩ (.bool Bn))) (by rfl) rfl ?hr ?_
                    (case hr => first | (go_simp; done) | (go_simp; rfl))
                    intro w33 hw
                    have hk : Kept w32 w33 (fun k_ => k_ = Aa) := (by rw [hw]; exact Kept.setCell (Kept.setCell (Kept.setCell (Kept.setCell (Kept.setCell (Kept.setCell (Kept.setCell (Kept.setCell (Kept.refl w32 (fun k_ => k_ = Aa)) (.inl rfl) _) (.inl rfl) _) (.inl rfl) _) (.inl rfl) _) (.inl rfl) _) (.inl rfl) _) (.inl rfl) _) (.inl rfl) _)
                    replace Ad := ak (Kd.R_kept (kR_q Ad) hk (fun k_ h1_ h2_ => by have q0 := NL1.out; have q1 := NL2.out; have q2 := NL3.out; have q3 := NL4.out; have q4 := JN0.out; have q5 := NL10.out; have q6 := NL11.out; have q7 := NL12.out; have q8 := NL13.out; have q9 := NL14.out; have q10 := NL15.out; have q11 := NL16.out; have q12 := NL17.out; have q13 := NL18.out; have q14 := NL19.out; have q15 := NL20.out; have q16 := NL21.out; have q17 := NL22.out; have q18 := NL23.out; have q19 := NL24.out; have q20 := NL25.out; have q21 := NL26.out; have q22 := NL27.out; have q23 := NL28.out; have q24 := NL29.out; have q25 := JA99.out; have q26 := NL30.out; have q27 := NL31.out; have q28 := JA111.out; have q29 := NL32.out; have q30 := JA124.out; have g1 := GLgb125.out; have g2 := GHgb125.out; have a1 := h1_.1; have a2 := h1_.2; have a3 : k_ = Aa := h2_; omega))
                    replace Af := ak (Kd.R_kept (kR_q Af) hk (fun k_ h1_ h2_ => by have q0 := NL1.out; have q1 := NL2.out; have q2 := NL3.out; have q3 := NL4.out; have q4 := JN0.out; have q5 := NL10.out; have q6 := NL11.out; have q7 := NL12.out; have q8 := NL13.out; have q9 := NL14.out; have q10 := NL15.out; have q11 := NL16.out; have q12 := NL17.out; have q13 := NL18.out; have q14 := NL19.out; have q15 := NL20.out; have q16 := NL21.out; have q17 := NL22.out; have q18 := NL23.out; have q19 := NL24.out; have q20 := NL25.out; have q21 := NL26.out; have q22 := NL27.out; have q23 := NL28.out; have q24 := NL29.out; have q25 := JA99.out; have q26 := NL30.out; have q27 := NL31.out; have q28 := JA111.out; have q29 := NL32.out; have q30 := JA124.out; have g1 := GLgb125.out; have g2 := GHgb125.out; have a1 := h1_.1; have a2 := h1_.2; have a3 : k_ = Aa := h2_; omega))
                    replace As := ak (Kd.S_kept (kS_q As) hk (fun k_ h1_ h2_ => by have q0 := NL1.out; have q1 := NL2.out; have q2 := NL3.out; have q3 := NL4.out; have q4 := JN0.out; have q5 := NL10.out; have q6 := NL11.out; have q7 := NL12.out; have q8 := NL13.out; have q9 := NL14.out; have q10 := NL15.out; have q11 := NL16.out; have q12 := NL17.out; have q13 := NL18.out; have q14 := NL19.out; have q15 := NL20.out; have q16 := NL21.out; have q17 := NL22.out; have q18 := NL23.out; have q19 := NL24.out; have q20 := NL25.out; have q21 := NL26.out; have q22 := NL27.out; have q23 := NL28.out; have q24 := NL29.out; have q25 := JA99.out; have q26 := NL30.out; have q27 := NL31.out; have q28 := JA111.out; have q29 := NL32.out; have q30 := JA124.out; have g1 := GLgb125.out; have g2 := GHgb125.out; have a1 := h1_.1; have a2 := h1_.2; have a3 : k_ = Aa := h2_; omega))
                    replace Ah := ak (Kd.R_kept (kR_q Ah) hk (fun k_ h1_ h2_ => by have q0 := NL1.out; have q1 := NL2.out; have q2 := NL3.out; have q3 := NL4.out; have q4 := JN0.out; have q5 := NL10.out; have q6 := NL11.out; have q7 := NL12.out; have q8 := NL13.out; have q9 := NL14.out; have q10 := NL15.out; have q11 := NL16.out; have q12 := NL17.out; have q13 := NL18.out; have q14 := NL19.out; have q15 := NL20.out; have q16 := NL21.out; have q17 := NL22.out; have q18 := NL23.out; have q19 := NL24.out; have q20 := NL25.out; have q21 := NL26.out; have q22 := NL27.out; have q23 := NL28.out; have q24 := NL29.out; have q25 := JA99.out; have q26 := NL30.out; have q27 := NL31.out; have q28 := JA111.out; have q29 := NL32.out; have q30 := JA124.out; have g1 := GLgb125.out; have g2 := GHgb125.out; have a1 := h1_.1; have a2 := h1_.2; have a3 : k_ = Aa := h2_; omega))
                    replace Au := ak (Kd.R_kept (kR_q Au) hk (fun k_ h1_ h2_ => by have q0 := NL1.out; have q1 := NL2.out; have q2 := NL3.out; have q3 := NL4.out; have q4 := JN0.out; have q5 := NL10.out; have q6 := NL11.out; have q7 := NL12.out; have q8 := NL13.out; have q9 := NL14.out; have q10 := NL15.out; have q11 := NL16.out; have q12 := NL17.out; have q13 := NL18.out; have q14 := NL19.out; have q15 := NL20.out; have q16 := NL21.out; have q17 := NL22.out; have q18 := NL23.out; have q19 := NL24.out; have q20 := NL25.out; have q21 := NL26.out; have q22 := NL27.out; have q23 := NL28.out; have q24 := NL29.out; have q25 := JA99.out; have q26 := NL30.out; have q27 := NL31.out; have q28 := JA111.out; have q29 := NL32.out; have q30 := JA124.out; have g1 := GLgb125.out; have g2 := GHgb125.out; have a1 := h1_.1; have a2 := h1_.2; have a3 : k_ = Aa := h2_; omega))
                    replace BKgb1 := ak (blk_kept (g := Ac) (o := .cells #[.int .i64 Aj, .int .i64 Ak, .int .i64 Al, .int .i64 Am, .int .i64 An, .slice Ao Ai.length Ap, .int .i64 Aq, .bool Ar] 57 (0, 0)) (bk_q BKgb1) hk (fun h2_ => by have a3 : Ac = Aa := h2_; have q0 := NL1.out; have q1 := NL2.out; have q2 := NL3.out; have q3 := NL4.out; have q4 := JN0.out; have q5 := NL10.out; have q6 := NL11.out; have q7 := NL12.out; have q8 := NL13.out; have q9 := NL14.out; have q10 := NL15.out; have q11 := NL16.out; have q12 := NL17.out; have q13 := NL18.out; have q14 := NL19.out; have q15 := NL20.out; have q16 := NL21.out; have q17 := NL22.out; have q18 := NL23.out; have q19 := NL24.out; have q20 := NL25.out; have q21 := NL26.out; have q22 := NL27.out; have q23 := NL28.out; have q24 := NL29.out; have q25 := JA99.out; have q26 := NL30.out; have q27 := NL31.out; have q28 := JA111.out; have q29 := NL32.out; have q30 := JA124.out; have g1 := GLgb125.out; have g2 := GHgb125.out; have g3 := GLgb1.out; have g4 := GHgb1.out; omega))
                    replace BKgb34 := ak (blk_kept (g := Ab) (o := .cells #[.int .i64 Ay, .int .i64 Az, .int .i64 Ba, .int .i64 Bb, .int .i64 Bc, .slice Ao31 Bd.length co32, .int .i64 Be, .bool Bf] 61 (0, 0)) (bk_q BKgb34) hk (fun h2_ => by have a3 : Ab = Aa := h2_; have q0 := NL1.out; have q1 := NL2.out; have q2 := NL3.out; have q3 := NL4.out; have q4 := JN0.out; have q5 := NL10.out; have q6 := NL11.out; have q7 := NL12.out; have q8 := NL13.out; have q9 := NL14.out; have q10 := NL15.out; have q11 := NL16.out; have q12 := NL17.out; have q13 := NL18.out; have q14 := NL19.out; have q15 := NL20.out; have q16 := NL21.out; have q17 := NL22.out; have q18 := NL23.out; have q19 := NL24.out; have q20 := NL25.out; have q21 := NL26.out; have q22 := NL27.out; have q23 := NL28.out; have q24 := NL29.out; have q25 := JA99.out; have q26 := NL30.out; have q27 := NL31.out; have q28 := JA111.out; have q29 := NL32.out; have q30 := JA124.out; have g1 := GLgb125.out; have g2 := GHgb125.out; have g3 := GLgb34.out; have g4 := GHgb34.out; omega))
                    replace BKgb66 := ak (blk_kept (g := Ae) (o := .cells #[.int .i64 Bo, .int .i64 Bp, .int .i64 Bq, .int .i64 Br, .int .i64 Bs, .slice Ao63 Bv.length co64, .int .i64 Bt, .bool Bu] 61 (0, 0)) (bk_q BKgb66) hk (fun h2_ => by have a3 : Ae = Aa := h2_; have q0 := NL1.out; have q1 := NL2.out; have q2 := NL3.out; have q3 := NL4.out; have q4 := JN0.out; have q5 := NL10.out; have q6 := NL11.out; have q7 := NL12.out; have q8 := NL13.out; have q9 := NL14.out; have q10 := NL15.out; have q11 := NL16.out; have q12 := NL17.out; have q13 := NL18.out; have q14 := NL19.out; have q15 := NL20.out; have q16 := NL21.out; have q17 := NL22.out; have q18 := NL23.out; have q19 := NL24.out; have q20 := NL25.out; have q21 := NL26.out; have q22 := NL27.out; have q23 := NL28.out; have q24 := NL29.out; have q25 := JA99.out; have q26 := NL30.out; have q27 := NL31.out; have q28 := JA111.out; have q29 := NL32.out; have q30 := JA124.out; have g1 := GLgb125.out; have g2 := GHgb125.out; have g3 := GLgb66.out; have g4 := GHgb66.out; omega))
                    replace BKgb125 := ak ((by rw [hw]; exact laws_FnExactFind.set8 BKgb125.out : w33.heap[Aa]? = some (.cells #[.int .i64 Bg, .int .i64 Bh, .int .i64 Bi, .int .i64 Bj, .int .i64 Bk, .slice Ao122 Bl.length co123, .int .i64 Bm, .bool Bn] 61 (0, 0))))
                    replace HB := ak ((by rw [hw]; exact below_set (below_set (below_set (below_set (below_set (below_set (below_set (below_set (HB.out) GEgb125.out) GEgb125.out) GEgb125.out) GEgb125.out) GEgb125.out) GEgb125.out) GEgb125.out) GEgb125.out : Below w.heap.size w w33))
                    have NL33 := ak ((hk.1 : w32.heap.size ≤ w33.heap.size)); (try clear hb); (try clear hk); (try clear hw); (try clear hbox); (try clear hg)
                    have hl59_gb125_0 : w33.cell? ⟨Aa, 0, none⟩ = some (.int .i64 Bg) := (blk_cell BKgb125.out 0).trans rfl
                    have hl59_gb125_1 : w33.cell? ⟨Aa, 1, none⟩ = some (.int .i64 Bh) := (blk_cell BKgb125.out 1).trans rfl
                    have hl59_gb125_2 : w33.cell? ⟨Aa, 2, none⟩ = some (.int .i64 Bi) := (blk_cell BKgb125.out 2).trans rfl
                    have hl59_gb125_3 : w33.cell? ⟨Aa, 3, none⟩ = some (.int .i64 Bj) := (blk_cell BKgb125.out 3).trans rfl
                    have hl59_gb125_4 : w33.cell? ⟨Aa, 4, none⟩ = some (.int .i64 Bk) := (blk_cell BKgb125.out 4).trans rfl
                    have hl59_gb125_5 : w33.cell? ⟨Aa, 5, none⟩ = some (.slice Ao122 Bl.length co123) := (blk_cell BKgb125.out 5).trans rfl
                    have hl59_gb125_6 : w33.cell? ⟨Aa, 6, none⟩ = some (.int .i64 Bm) := (blk_cell BKgb125.out 6).trans rfl
                    have hl59_gb125_7 : w33.cell? ⟨Aa, 7, none⟩ = some (.bool Bn) := (blk_cell BKgb125.out 7).trans rfl
                    have hl59_gb34_0 : w33.cell? ⟨Ab, 0, none⟩ = some (.int .i64 Ay) := (blk_cell BKgb34.out 0).trans rfl
                    have hl59_gb34_1 : w33.cell? ⟨Ab, 1, none⟩ = some (.int .i64 Az) := (blk_cell BKgb34.out 1).trans rfl
                    have hl59_gb34_2 : w33.cell? ⟨Ab, 2, none⟩ = some (.int .i64 Ba) := (blk_cell BKgb34.out 2).trans rfl
                    have hl59_gb34_3 : w33.cell? ⟨Ab, 3, none⟩ = some (.int .i64 Bb) := (blk_cell BKgb34.out 3).trans rfl
                    have hl59_gb34_4 : w33.cell? ⟨Ab, 4, none⟩ = some (.int .i64 Bc) := (blk_cell BKgb34.out 4).trans rfl
                    have hl59_gb34_5 : w33.cell? ⟨Ab, 5, none⟩ = some (.slice Ao31 Bd.length co32) := (blk_cell BKgb34.out 5).trans rfl
                    have hl59_gb34_6 : w33.cell? ⟨Ab, 6, none⟩ = some (.int .i64 Be) := (blk_cell BKgb34.out 6).trans rfl
                    have hl59_gb34_7 : w33.cell? ⟨Ab, 7, none⟩ = some (.bool Bf) := (blk_cell BKgb34.out 7).trans rfl
                    refine hK.out _ _ (cz8_ BKgb1) (fun hHeld => ?_)
                    clear hK K; clear hqa0 hqb0 hqa1 hqb1 hqa2 hqb2 hqa3 hqb3 hqa4 hqb4 hqa5 hqb5 hqa6 hqb6 hqa7 hqb7
                    refine pr_ 10 16 (bL 11 2047) rfl rfl ?_
                    have JN2 : Aside0 (w28.heap.size ≤ w33.heap.size ∧ w28.heap.size ≤ lo111 ∧ lo111 ≤ hi111 ∧ hi111 ≤ w33.heap.size ∧ w28.heap.size ≤ lo124 ∧ lo124 ≤ hi124 ∧ hi124 ≤ w33.heap.size ∧ w28.heap.size ≤ lo99 ∧ lo99 ≤ hi99 ∧ hi99 ≤ w33.heap.size ∧ w28.heap.size ≤ Aa ∧ Aa ≤ Aa + 1 ∧ Aa + 1 ≤ w33.heap.size ∧ (hi124 ≤ lo111 ∨ hi111 ≤ lo124) ∧ (hi99 ≤ lo111 ∨ hi111 ≤ lo99) ∧ (hi99 ≤ lo124 ∨ hi124 ≤ lo99) ∧ (Aa + 1 ≤ lo111 ∨ hi111 ≤ Aa) ∧ (Aa + 1 ≤ lo124 ∨ hi124 ≤ Aa) ∧ (Aa + 1 ≤ lo99 ∨ hi99 ≤ Aa)) := ⟨by have q0_ := NL1.out; have q1_ := NL2.out; have q2_ := NL3.out; have q3_ := NL4.out; have q4_ := JN0.out; have q5_ := NL10.out; have q6_ := NL11.out; have q7_ := NL12.out; have q8_ := NL13.out; have q9_ := NL14.out; have q10_ := NL15.out; have q11_ := NL16.out; have q12_ := NL17.out; have q13_ := NL18.out; have q14_ := NL19.out; have q15_ := NL20.out; have q16_ := NL21.out; have q17_ := NL22.out; have q18_ := NL23.out; have q19_ := NL24.out; have q20_ := NL25.out; have q21_ := NL26.out; have q22_ := NL27.out; have q23_ := NL28.out; have q24_ := NL29.out; have q25_ := JA99.out; have q26_ := NL30.out; have q27_ := NL31.out; have q28_ := JA111.out; have q29_ := NL32.out; have q30_ := JA124.out; have q31_ := NL33.out; have g0_ := GLgb125.out; have h0_ := GHgb125.out; refine ⟨by omega, by omega, by omega, by omega, by omega, by omega, by omega, by omega, by omega, by omega, by omega, by omega, by omega, by omega, by omega, by omega, by omega, by omega, by omega⟩⟩
                    have GL2_ : Aside0 (w28.heap.size ≤ Aa) := ⟨by have j_ := JN2.out; omega⟩
                    have GH2_ : Aside0 (Aa < w33.heap.size) := ⟨by have j_ := JN2.out; omega⟩
                    clear GLgb125 GHgb125; have GLgb125 := GL2_; have GHgb125 := GH2_; clear GL2_ GH2_
                    (try clear NL29); (try clear JA99); (try clear NL30); (try clear NL31); (try clear JA111); (try clear NL32); (try clear JA124); (try clear NL33); (try clear hl59_gb125_0); (try clear hl59_gb125_1); (try clear hl59_gb125_2); (try clear hl59_gb125_3); (try clear hl59_gb125_4); (try clear hl59_gb125_5); (try clear hl59_gb125_6); (try clear hl59_gb125_7); (try clear hl59_gb34_0); (try clear hl59_gb34_1); (try clear hl59_gb34_2); (try clear hl59_gb34_3); (try clear hl59_gb34_4); (try clear hl59_gb34_5); (try clear hl59_gb34_6); (try clear hl59_gb34_7); (try clear hHeld)
                    revert JN2
                    revert HB
                    revert GEgb125
                    revert GHgb125
                    revert GLgb125
                    revert BKgb66
                    revert BKgb34
                    revert BKgb125
                    revert BKgb1
                    revert As
                    revert Af
                    revert Ad
                    revert Au
                    revert Ah
                    revert co98
                    revert Ao97
                    revert co123
                    revert Ao122
                    revert co110
                    revert Ao109
                    revert hi99
                    revert lo99
                    revert hi124
                    revert lo124
                    revert hi111
                    revert lo111
                    revert Aa
                    revert w33
                    exact J.out
                  ·skip
                   refine laws_FnExactFind.value_box (cs := #[.int .i64 0, .int .i64 0, .int .i64 0, .int .i64 0, .int .i64 0, .slice none 0 0, .int .i64 0, .bool false]) (t := 61) (by rfl) rfl ?hr ?_
                   (case hr => first | (go_simp; done) | (go_simp; rfl))
                   intro Aa hg w29 hbox hb
                   replace Ad := ak (Kd.R_below (kR_q Ad) hb); replace Af := ak (Kd.R_below (kR_q Af) hb); replace BKgb1 := ak (blk_below (g := Ac) (bk_q BKgb1) hb); replace BKgb34 := ak (blk_below (g := Ab) (bk_q BKgb34) hb); replace BKgb66 := ak (blk_below (g := Ae) (bk_q BKgb66) hb); have BKgb125 := ak (hbox)
                   have GLgb125 := ak ((by rw [hg]; exact Nat.le_refl _ : w28.heap.size ≤ Aa))
                   have GHgb125 := ak ((blk_lt hbox : Aa < w29.heap.size))
                   have GEgb125 := ak ((by rw [hg]; exact below_size (bw_q HB) : w.heap.size ≤ Aa))
                   have NL29 := ak ((hb.size : w28.heap.size ≤ w29.heap.size)); replace HB := ak (below_step (bw_q HB) hb); (try clear hb); (try clear hk); (try clear hw); (try clear hbox); (try clear hg)
                   have hz58_0 : w29.cell? ⟨Aa, 0, none⟩ = some (.int .i64 0) := (blk_cell BKgb125.out 0).trans rfl
                   have hy58_0 := blk_frozen BKgb125.out 0
                   have hz58_1 : w29.cell? ⟨Aa, 1, none⟩ = some (.int .i64 0) := (blk_cell BKgb125.out 1).trans rfl
                   have hy58_1 := blk_frozen BKgb125.out 1
                   have hz58_2 : w29.cell? ⟨Aa, 2, none⟩ = some (.int .i64 0) := (blk_cell BKgb125.out 2).trans rfl
                   have hy58_2 := blk_frozen BKgb125.out 2
                   have hz58_3 : w29.cell? ⟨Aa, 3, none⟩ = some (.int .i64 0) := (blk_cell BKgb125.out 3).trans rfl
                   have hy58_3 := blk_frozen BKgb125.out 3
                   have hz58_4 : w29.cell? ⟨Aa, 4, none⟩ = some (.int .i64 0) := (blk_cell BKgb125.out 4).trans rfl
                   have hy58_4 := blk_frozen BKgb125.out 4
                   have hz58_5 : w29.cell? ⟨Aa, 5, none⟩ = some (.slice none 0 0) := (blk_cell BKgb125.out 5).trans rfl
                   have hy58_5 := blk_frozen BKgb125.out 5
                   have hz58_6 : w29.cell? ⟨Aa, 6, none⟩ = some (.int .i64 0) := (blk_cell BKgb125.out 6).trans rfl
                   have hy58_6 := blk_frozen BKgb125.out 6
                   have hz58_7 : w29.cell? ⟨Aa, 7, none⟩ = some (.bool false) := (blk_cell BKgb125.out 7).trans rfl
                   have hy58_7 := blk_frozen BKgb125.out 7
                   refine hK.out _ _ (cz8_ BKgb1) (fun hHeld => ?_)
                   clear hK K
                   refine norm_ (a' := ?_) ?_ ?_; rotate_left; (show Act.put _ (some 15) _ = _; simp only [Act.put, List.setIfInBounds_toArray, List.set_cons_zero, List.set_cons_succ, i64_w, i32_w]; rfl)
                   refine one_ (i := 1) (N := some 96) (bL 11 263) rfl rfl (by kernel_rfl) (by decide) (fun K hK => ?_)
                   refine goes_ Try.func27 (by kernel_rfl) rfl #[.slice A0 l0.length c0] (by rfl) rfl rfl mp_q ?_
                   (with_reducible refine (laws_toRecordS.calls k A0 c0 l0 Cw _ ?side1 ?side2 EQ54.out).mono ?_)
                   (case side1 => exact cs_q (Kd.C_below HR0.out HB.out))
                   (case side2 => exact Cx.out)
                   rintro e_ w30 ⟨v96, rfl, ho0, hb⟩
                   refine ⟨_, rfl, ?_⟩
                   replace Ad := ak (Kd.R_below (kR_q Ad) hb); replace Af := ak (Kd.R_below (kR_q Af) hb); replace BKgb1 := ak (blk_below (g := Ac) (bk_q BKgb1) hb); replace BKgb34 := ak (blk_below (g := Ab) (bk_q BKgb34) hb); replace BKgb66 := ak (blk_below (g := Ae) (bk_q BKgb66) hb); replace BKgb125 := ak (blk_below (g := Aa) (bk_q BKgb125) hb); have NL30 := ak ((hb.size : w29.heap.size ≤ w30.heap.size))
                   have As := ak (laws_FnExactFind.newS (Kd.S_mono ho0 (fun _ _ => trivial)) (b := w.heap.size) (n := w29.heap.size) (Below.size HB.out) (Nat.le_refl _))
                   replace HB := ak (below_step (bw_q HB) hb); (try clear hb); (try clear hk); (try clear ho0); obtain ⟨Ao97, co98, e_v96⟩ := Kd.S_slice As.out; subst e_v96; clear hz58_0 hy58_0 hz58_1 hy58_1 hz58_2 hy58_2 hz58_3 hy58_3 hz58_4 hy58_4 hz58_5 hy58_5 hz58_6 hy58_6 hz58_7 hy58_7
                   have hl54_gb1_0 : w30.cell? ⟨Ac, 0, none⟩ = some (.int .i64 Aj) := (blk_cell BKgb1.out 0).trans rfl
                   have hl54_gb1_1 : w30.cell? ⟨Ac, 1, none⟩ = some (.int .i64 Ak) := (blk_cell BKgb1.out 1).trans rfl
                   have hl54_gb1_2 : w30.cell? ⟨Ac, 2, none⟩ = some (.int .i64 Al) := (blk_cell BKgb1.out 2).trans rfl
                   have hl54_gb1_3 : w30.cell? ⟨Ac, 3, none⟩ = some (.int .i64 Am) := (blk_cell BKgb1.out 3).trans rfl
                   have hl54_gb1_4 : w30.cell? ⟨Ac, 4, none⟩ = some (.int .i64 An) := (blk_cell BKgb1.out 4).trans rfl
                   have hl54_gb1_5 : w30.cell? ⟨Ac, 5, none⟩ = some (.slice Ao Ai.length Ap) := (blk_cell BKgb1.out 5).trans rfl
                   have hl54_gb1_6 : w30.cell? ⟨Ac, 6, none⟩ = some (.int .i64 Aq) := (blk_cell BKgb1.out 6).trans rfl
                   have hl54_gb1_7 : w30.cell? ⟨Ac, 7, none⟩ = some (.bool Ar) := (blk_cell BKgb1.out 7).trans rfl
                   refine hK.out _ _ (cz8_ BKgb1) (fun hHeld => ?_)
                   clear hK K
                   refine norm_ (a' := ?_) ?_ ?_; rotate_left; (show Act.put _ (some 96) _ = _; simp only [Act.put, List.setIfInBounds_toArray, List.set_cons_zero, List.set_cons_succ, i64_w, i32_w]; rfl)
                   obtain ⟨lo99, el99⟩ : ∃ n_ : Nat, n_ = w29.heap.size := ⟨_, rfl⟩; obtain ⟨hi99, eh99⟩ : ∃ n_ : Nat, n_ = w30.heap.size := ⟨_, rfl⟩
                   replace As := ak (Kd.S_mono As.out (fun k_ h_ => (⟨by have h1_ := h_.1; omega, by have h2_ := h_.2; omega⟩ : lo99 ≤ k_ ∧ k_ < hi99)))
                   have JA99 := ak (And.intro el99 eh99); clear el99 eh99
                   refine one_ (i := 3) (N := some 98) (bL 11 271) rfl rfl (by kernel_rfl) (by decide) (fun K hK => ?_)
                   refine goes_ Try.func36 (by kernel_rfl) rfl #[.agg #[.int .i64 Aj, .int .i64 Ak, .int .i64 Al, .int .i64 Am, .int .i64 An, .slice Ao Ai.length Ap, .int .i64 Aq, .bool Ar]] (by rfl) rfl rfl mp_q ?_
                   (with_reducible refine (laws_toRecord.calls k Aj Ak Al Am An Ao Ap Ai Aq Ar Cg Ch Ci Cj Ck Cl Cm Cn _ ?side1 ?side2 EQ56.out).mono ?_)
                   (case side1 => exact cs_q (Kd.C_below Bw.out HB.out))
                   (case side2 => exact Bx.out)
                   rintro e_ w31 ⟨v108, rfl, ho0, hb⟩
                   refine ⟨_, rfl, ?_⟩
                   replace Ad := ak (Kd.R_below (kR_q Ad) hb); replace Af := ak (Kd.R_below (kR_q Af) hb); replace As := ak (Kd.S_below (kS_q As) hb); replace BKgb1 := ak (blk_below (g := Ac) (bk_q BKgb1) hb); replace BKgb34 := ak (blk_below (g := Ab) (bk_q BKgb34) hb); replace BKgb66 := ak (blk_below (g := Ae) (bk_q BKgb66) hb); replace BKgb125 := ak (blk_below (g := Aa) (bk_q BKgb125) hb); have NL31 := ak ((hb.size : w30.heap.size ≤ w31.heap.size))
                   have Ah := ak (laws_FnExactFind.newR (Kd.R_mono ho0 (fun _ _ => trivial)) (b := w.heap.size) (n := w30.heap.size) (Below.size HB.out) (Nat.le_refl _))
                   replace HB := ak (below_step (bw_q HB) hb); (try clear hb); (try clear hk); (try clear ho0); obtain ⟨Ao109, co110, e_v108⟩ := Kd.R_slice Ah.out; subst e_v108; clear hl54_gb1_0 hl54_gb1_1 hl54_gb1_2 hl54_gb1_3 hl54_gb1_4 hl54_gb1_5 hl54_gb1_6 hl54_gb1_7
                   refine hK.out _ _ (cz8_ BKgb1) (fun hHeld => ?_)
                   clear hK K
                   refine norm_ (a' := ?_) ?_ ?_; rotate_left; (show Act.put _ (some 98) _ = _; simp only [Act.put, List.setIfInBounds_toArray, List.set_cons_zero, List.set_cons_succ, i64_w, i32_w]; rfl)
                   obtain ⟨lo111, el111⟩ : ∃ n_ : Nat, n_ = w30.heap.size := ⟨_, rfl⟩; obtain ⟨hi111, eh111⟩ : ∃ n_ : Nat, n_ = w31.heap.size := ⟨_, rfl⟩
                   replace Ah := ak (Kd.R_mono Ah.out (fun k_ h_ => (⟨by have h1_ := h_.1; omega, by have h2_ := h_.2; omega⟩ : lo111 ≤ k_ ∧ k_ < hi111)))
                   have JA111 := ak (And.intro el111 eh111); clear el111 eh111
                   refine one_ (i := 4) (N := some 99) (bL 11 287) rfl rfl (by kernel_rfl) (by decide) (fun K hK => ?_)
                   refine goes_ Try.func37 (by kernel_rfl) rfl #[.slice Ao97 Cw.length co98, .agg #[.int .i64 Cg, .int .i64 Ch, .int .i64 Ci, .int .i64 Cj, .int .i64 Ck, .slice Ao109 Cl.length co110, .int .i64 Cm, .bool Cn]] (by rfl) rfl rfl mp_q ?_
                   (with_reducible refine (impl_Find.calls k Ao97 co98 Cw Cg Ch Ci Cj Ck Ao109 co110 Cl Cm Cn Bg Bh Bi Bj Bk Bl Bm Bn Co _ ?side1 ?side2 ?side3 ?side4 EQ57.out).mono ?_)
                   (case side1 => repeat (first | exact (Kd.S_reads' As.out).2.2 | (with_reducible refine Kd.C_alloc ?_ _) | (with_reducible refine Kd.C_drewN ?_ _) | (with_reducible refine Kd.C_drew ?_)))
                   (case side2 => exact (by have e_ := Kd.S_reads' As.out; exact Nat.le_trans (Nat.le_of_eq e_.1.symm) e_.2.1))
                   (case side3 => repeat (first | exact (Kd.R_reads' Ah.out).2.2 | (with_reducible refine Kd.C_alloc ?_ _) | (with_reducible refine Kd.C_drewN ?_ _) | (with_reducible refine Kd.C_drew ?_)))
                   (case side4 => exact (by have e_ := Kd.R_reads' Ah.out; exact Nat.le_trans (Nat.le_of_eq e_.1.symm) e_.2.1))
                   rintro e_ w32 ⟨v121, rfl, ho0, hb⟩
                   refine ⟨_, rfl, ?_⟩
                   replace Ad := ak (Kd.R_below (kR_q Ad) hb); replace Af := ak (Kd.R_below (kR_q Af) hb); replace As := ak (Kd.S_below (kS_q As) hb); replace Ah := ak (Kd.R_below (kR_q Ah) hb); replace BKgb1 := ak (blk_below (g := Ac) (bk_q BKgb1) hb); replace BKgb34 := ak (blk_below (g := Ab) (bk_q BKgb34) hb); replace BKgb66 := ak (blk_below (g := Ae) (bk_q BKgb66) hb); replace BKgb125 := ak (blk_below (g := Aa) (bk_q BKgb125) hb); have NL32 := ak ((hb.size : w31.heap.size ≤ w32.heap.size))
                   have Au := ak (laws_FnExactFind.newR (Kd.R_mono ho0 (fun _ _ => trivial)) (b := w.heap.size) (n := w31.heap.size) (Below.size HB.out) (Nat.le_refl _))
                   replace HB := ak (below_step (bw_q HB) hb); (try clear hb); (try clear hk); (try clear ho0); obtain ⟨Ao122, co123, e_v121⟩ := Kd.R_slice Au.out; subst e_v121
                   refine hK.out _ _ (cz8_ BKgb1) (fun hHeld => ?_)
                   clear hK K
                   refine norm_ (a' := ?_) ?_ ?_; rotate_left; (show Act.put _ (some 99) _ = _; simp only [Act.put, List.setIfInBounds_toArray, List.set_cons_zero, List.set_cons_succ, i64_w, i32_w]; rfl)
                   obtain ⟨lo124, el124⟩ : ∃ n_ : Nat, n_ = w31.heap.size := ⟨_, rfl⟩; obtain ⟨hi124, eh124⟩ : ∃ n_ : Nat, n_ = w32.heap.size := ⟨_, rfl⟩
                   replace Au := ak (Kd.R_mono Au.out (fun k_ h_ => (⟨by have h1_ := h_.1; omega, by have h2_ := h_.2; omega⟩ : lo124 ≤ k_ ∧ k_ < hi124)))
                   have JA124 := ak (And.intro el124 eh124); clear el124 eh124
                   refine pr_ 5 94 (bL 11 319) rfl rfl ?_
                   refine pr_ 6 100 (bL 11 383) rfl rfl ?_
                   refine pr_ 7 101 (bL 11 511) rfl rfl ?_
                   refine one_ (i := 9) (N := none) (bL 11 1023) rfl rfl (by kernel_rfl) (by decide) (fun K hK => ?_)
                   have hqa0 : w32.cell? ⟨Aa, 0, none⟩ = some (.int .i64 0) := (blk_cell BKgb125.out 0).trans rfl
                   have hqb0 := blk_frozen BKgb125.out 0
                   have hqa1 : w32.cell? ⟨Aa, 1, none⟩ = some (.int .i64 0) := (blk_cell BKgb125.out 1).trans rfl
                   have hqb1 := blk_frozen BKgb125.out 1
                   have hqa2 : w32.cell? ⟨Aa, 2, none⟩ = some (.int .i64 0) := (blk_cell BKgb125.out 2).trans rfl
                   have hqb2 := blk_frozen BKgb125.out 2
                   have hqa3 : w32.cell? ⟨Aa, 3, none⟩ = some (.int .i64 0) := (blk_cell BKgb125.out 3).trans rfl
                   have hqb3 := blk_frozen BKgb125.out 3
                   have hqa4 : w32.cell? ⟨Aa, 4, none⟩ = some (.int .i64 0) := (blk_cell BKgb125.out 4).trans rfl
                   have hqb4 := blk_frozen BKgb125.out 4
                   have hqa5 : w32.cell? ⟨Aa, 5, none⟩ = some (.slice none 0 0) := (blk_cell BKgb125.out 5).trans rfl
                   have hqb5 := blk_frozen BKgb125.out 5
                   have hqa6 : w32.cell? ⟨Aa, 6, none⟩ = some (.int .i64 0) := (blk_cell BKgb125.out 6).trans rfl
                   have hqb6 := blk_frozen BKgb125.out 6
                   have hqa7 : w32.cell? ⟨Aa, 7, none⟩ = some (.bool false) := (blk_cell BKgb125.out 7).trans rfl
                   have hqb7 := blk_frozen BKgb125.out 7
                   refine laws_FnExactFind.skip_box (w1 := ((((((((w32.setCell ⟨Aa, 0, none⟩ (.int .i64 Bg)).setCell ⟨Aa, 1, none⟩ (.int .i64 Bh)).setCell ⟨Aa, 2, none⟩ (.int .i64 Bi)).setCell ⟨Aa, 3, none⟩ (.int .i64 Bj)).setCell ⟨Aa, 4, none⟩ (.int .i64 Bk)).setCell ⟨Aa, 5, none⟩ (.slice Ao122 Bl.length co123)).setCell ⟨Aa, 6, none⟩ (.int .i64 Bm)).setCell ⟨Aa, 7, none⟩ (.bool Bn))) (by rfl) rfl ?hr ?_
                   (case hr => first | (go_simp; done) | (go_simp; rfl))
                   intro w33 hw
                   have hk : Kept w32 w33 (fun k_ => k_ = Aa) := (by rw [hw]; exact Kept.setCell (Kept.setCell (Kept.setCell (Kept.setCell (Kept.setCell (Kept.setCell (Kept.setCell (Kept.setCell (Kept.refl w32 (fun k_ => k_ = Aa)) (.inl rfl) _) (.inl rfl) _) (.inl rfl) _) (.inl rfl) _) (.inl rfl) _) (.inl rfl) _) (.inl rfl) _) (.inl rfl) _)
                   replace Ad := ak (Kd.R_kept (kR_q Ad) hk (fun k_ h1_ h2_ => by have q0 := NL1.out; have q1 := NL2.out; have q2 := NL3.out; have q3 := NL4.out; have q4 := JN0.out; have q5 := NL10.out; have q6 := NL11.out; have q7 := NL12.out; have q8 := NL13.out; have q9 := NL14.out; have q10 := NL15.out; have q11 := NL16.out; have q12 := NL17.out; have q13 := NL18.out; have q14 := NL19.out; have q15 := NL20.out; have q16 := NL21.out; have q17 := NL22.out; have q18 := NL23.out; have q19 := NL24.out; have q20 := NL25.out; have q21 := NL26.out; have q22 := NL27.out; have q23 := NL28.out; have q24 := NL29.out; have q25 := NL30.out; have q26 := JA99.out; have q27 := NL31.out; have q28 := JA111.out; have q29 := NL32.out; have q30 := JA124.out; have g1 := GLgb125.out; have g2 := GHgb125.out; have a1 := h1_.1; have a2 := h1_.2; have a3 : k_ = Aa := h2_; omega))
                   replace Af := ak (Kd.R_kept (kR_q Af) hk (fun k_ h1_ h2_ => by have q0 := NL1.out; have q1 := NL2.out; have q2 := NL3.out; have q3 := NL4.out; have q4 := JN0.out; have q5 := NL10.out; have q6 := NL11.out; have q7 := NL12.out; have q8 := NL13.out; have q9 := NL14.out; have q10 := NL15.out; have q11 := NL16.out; have q12 := NL17.out; have q13 := NL18.out; have q14 := NL19.out; have q15 := NL20.out; have q16 := NL21.out; have q17 := NL22.out; have q18 := NL23.out; have q19 := NL24.out; have q20 := NL25.out; have q21 := NL26.out; have q22 := NL27.out; have q23 := NL28.out; have q24 := NL29.out; have q25 := NL30.out; have q26 := JA99.out; have q27 := NL31.out; have q28 := JA111.out; have q29 := NL32.out; have q30 := JA124.out; have g1 := GLgb125.out; have g2 := GHgb125.out; have a1 := h1_.1; have a2 := h1_.2; have a3 : k_ = Aa := h2_; omega))
                   replace As := ak (Kd.S_kept (kS_q As) hk (fun k_ h1_ h2_ => by have q0 := NL1.out; have q1 := NL2.out; have q2 := NL3.out; have q3 := NL4.out; have q4 := JN0.out; have q5 := NL10.out; have q6 := NL11.out; have q7 := NL12.out; have q8 := NL13.out; have q9 := NL14.out; have q10 := NL15.out; have q11 := NL16.out; have q12 := NL17.out; have q13 := NL18.out; have q14 := NL19.out; have q15 := NL20.out; have q16 := NL21.out; have q17 := NL22.out; have q18 := NL23.out; have q19 := NL24.out; have q20 := NL25.out; have q21 := NL26.out; have q22 := NL27.out; have q23 := NL28.out; have q24 := NL29.out; have q25 := NL30.out; have q26 := JA99.out; have q27 := NL31.out; have q28 := JA111.out; have q29 := NL32.out; have q30 := JA124.out; have g1 := GLgb125.out; have g2 := GHgb125.out; have a1 := h1_.1; have a2 := h1_.2; have a3 : k_ = Aa := h2_; omega))
                   replace Ah := ak (Kd.R_kept (kR_q Ah) hk (fun k_ h1_ h2_ => by have q0 := NL1.out; have q1 := NL2.out; have q2 := NL3.out; have q3 := NL4.out; have q4 := JN0.out; have q5 := NL10.out; have q6 := NL11.out; have q7 := NL12.out; have q8 := NL13.out; have q9 := NL14.out; have q10 := NL15.out; have q11 := NL16.out; have q12 := NL17.out; have q13 := NL18.out; have q14 := NL19.out; have q15 := NL20.out; have q16 := NL21.out; have q17 := NL22.out; have q18 := NL23.out; have q19 := NL24.out; have q20 := NL25.out; have q21 := NL26.out; have q22 := NL27.out; have q23 := NL28.out; have q24 := NL29.out; have q25 := NL30.out; have q26 := JA99.out; have q27 := NL31.out; have q28 := JA111.out; have q29 := NL32.out; have q30 := JA124.out; have g1 := GLgb125.out; have g2 := GHgb125.out; have a1 := h1_.1; have a2 := h1_.2; have a3 : k_ = Aa := h2_; omega))
                   replace Au := ak (Kd.R_kept (kR_q Au) hk (fun k_ h1_ h2_ => by have q0 := NL1.out; have q1 := NL2.out; have q2 := NL3.out; have q3 := NL4.out; have q4 := JN0.out; have q5 := NL10.out; have q6 := NL11.out; have q7 := NL12.out; have q8 := NL13.out; have q9 := NL14.out; have q10 := NL15.out; have q11 := NL16.out; have q12 := NL17.out; have q13 := NL18.out; have q14 := NL19.out; have q15 := NL20.out; have q16 := NL21.out; have q17 := NL22.out; have q18 := NL23.out; have q19 := NL24.out; have q20 := NL25.out; have q21 := NL26.out; have q22 := NL27.out; have q23 := NL28.out; have q24 := NL29.out; have q25 := NL30.out; have q26 := JA99.out; have q27 := NL31.out; have q28 := JA111.out; have q29 := NL32.out; have q30 := JA124.out; have g1 := GLgb125.out; have g2 := GHgb125.out; have a1 := h1_.1; have a2 := h1_.2; have a3 : k_ = Aa := h2_; omega))
                   replace BKgb1 := ak (blk_kept (g := Ac) (o := .cells #[.int .i64 Aj, .int .i64 Ak, .int .i64 Al, .int .i64 Am, .int .i64 An, .slice Ao Ai.length Ap, .int .i64 Aq, .bool Ar] 57 (0, 0)) (bk_q BKgb1) hk (fun h2_ => by have a3 : Ac = Aa := h2_; have q0 := NL1.out; have q1 := NL2.out; have q2 := NL3.out; have q3 := NL4.out; have q4 := JN0.out; have q5 := NL10.out; have q6 := NL11.out; have q7 := NL12.out; have q8 := NL13.out; have q9 := NL14.out; have q10 := NL15.out; have q11 := NL16.out; have q12 := NL17.out; have q13 := NL18.out; have q14 := NL19.out; have q15 := NL20.out; have q16 := NL21.out; have q17 := NL22.out; have q18 := NL23.out; have q19 := NL24.out; have q20 := NL25.out; have q21 := NL26.out; have q22 := NL27.out; have q23 := NL28.out; have q24 := NL29.out; have q25 := NL30.out; have q26 := JA99.out; have q27 := NL31.out; have q28 := JA111.out; have q29 := NL32.out; have q30 := JA124.out; have g1 := GLgb125.out; have g2 := GHgb125.out; have g3 := GLgb1.out; have g4 := GHgb1.out; omega))
                   replace BKgb34 := ak (blk_kept (g := Ab) (o := .cells #[.int .i64 Ay, .int .i64 Az, .int .i64 Ba, .int .i64 Bb, .int .i64 Bc, .slice Ao31 Bd.length co32, .int .i64 Be, .bool Bf] 61 (0, 0)) (bk_q BKgb34) hk (fun h2_ => by have a3 : Ab = Aa := h2_; have q0 := NL1.out; have q1 := NL2.out; have q2 := NL3.out; have q3 := NL4.out; have q4 := JN0.out; have q5 := NL10.out; have q6 := NL11.out; have q7 := NL12.out; have q8 := NL13.out; have q9 := NL14.out; have q10 := NL15.out; have q11 := NL16.out; have q12 := NL17.out; have q13 := NL18.out; have q14 := NL19.out; have q15 := NL20.out; have q16 := NL21.out; have q17 := NL22.out; have q18 := NL23.out; have q19 := NL24.out; have q20 := NL25.out; have q21 := NL26.out; have q22 := NL27.out; have q23 := NL28.out; have q24 := NL29.out; have q25 := NL30.out; have q26 := JA99.out; have q27 := NL31.out; have q28 := JA111.out; have q29 := NL32.out; have q30 := JA124.out; have g1 := GLgb125.out; have g2 := GHgb125.out; have g3 := GLgb34.out; have g4 := GHgb34.out; omega))
                   replace BKgb66 := ak (blk_kept (g := Ae) (o := .cells #[.int .i64 Bo, .int .i64 Bp, .int .i64 Bq, .int .i64 Br, .int .i64 Bs, .slice Ao63 Bv.length co64, .int .i64 Bt, .bool Bu] 61 (0, 0)) (bk_q BKgb66) hk (fun h2_ => by have a3 : Ae = Aa := h2_; have q0 := NL1.out; have q1 := NL2.out; have q2 := NL3.out; have q3 := NL4.out; have q4 := JN0.out; have q5 := NL10.out; have q6 := NL11.out; have q7 := NL12.out; have q8 := NL13.out; have q9 := NL14.out; have q10 := NL15.out; have q11 := NL16.out; have q12 := NL17.out; have q13 := NL18.out; have q14 := NL19.out; have q15 := NL20.out; have q16 := NL21.out; have q17 := NL22.out; have q18 := NL23.out; have q19 := NL24.out; have q20 := NL25.out; have q21 := NL26.out; have q22 := NL27.out; have q23 := NL28.out; have q24 := NL29.out; have q25 := NL30.out; have q26 := JA99.out; have q27 := NL31.out; have q28 := JA111.out; have q29 := NL32.out; have q30 := JA124.out; have g1 := GLgb125.out; have g2 := GHgb125.out; have g3 := GLgb66.out; have g4 := GHgb66.out; omega))
                   replace BKgb125 := ak ((by rw [hw]; exact laws_FnExactFind.set8 BKgb125.out : w33.heap[Aa]? = some (.cells #[.int .i64 Bg, .int .i64 Bh, .int .i64 Bi, .int .i64 Bj, .int .i64 Bk, .slice Ao122 Bl.length co123, .int .i64 Bm, .bool Bn] 61 (0, 0))))
                   replace HB := ak ((by rw [hw]; exact below_set (below_set (below_set (below_set (below_set (below_set (below_set (below_set (HB.out) GEgb125.out) GEgb125.out) GEgb125.out) GEgb125.out) GEgb125.out) GEgb125.out) GEgb125.out) GEgb125.out : Below w.heap.size w w33))
                   have NL33 := ak ((hk.1 : w32.heap.size ≤ w33.heap.size)); (try clear hb); (try clear hk); (try clear hw); (try clear hbox); (try clear hg)
                   have hl59_gb125_0 : w33.cell? ⟨Aa, 0, none⟩ = some (.int .i64 Bg) := (blk_cell BKgb125.out 0).trans rfl
                   have hl59_gb125_1 : w33.cell? ⟨Aa, 1, none⟩ = some (.int .i64 Bh) := (blk_cell BKgb125.out 1).trans rfl
                   have hl59_gb125_2 : w33.cell? ⟨Aa, 2, none⟩ = some (.int .i64 Bi) := (blk_cell BKgb125.out 2).trans rfl
                   have hl59_gb125_3 : w33.cell? ⟨Aa, 3, none⟩ = some (.int .i64 Bj) := (blk_cell BKgb125.out 3).trans rfl
                   have hl59_gb125_4 : w33.cell? ⟨Aa, 4, none⟩ = some (.int .i64 Bk) := (blk_cell BKgb125.out 4).trans rfl
                   have hl59_gb125_5 : w33.cell? ⟨Aa, 5, none⟩ = some (.slice Ao122 Bl.length co123) := (blk_cell BKgb125.out 5).trans rfl
                   have hl59_gb125_6 : w33.cell? ⟨Aa, 6, none⟩ = some (.int .i64 Bm) := (blk_cell BKgb125.out 6).trans rfl
                   have hl59_gb125_7 : w33.cell? ⟨Aa, 7, none⟩ = some (.bool Bn) := (blk_cell BKgb125.out 7).trans rfl
                   have hl59_gb34_0 : w33.cell? ⟨Ab, 0, none⟩ = some (.int .i64 Ay) := (blk_cell BKgb34.out 0).trans rfl
                   have hl59_gb34_1 : w33.cell? ⟨Ab, 1, none⟩ = some (.int .i64 Az) := (blk_cell BKgb34.out 1).trans rfl
                   have hl59_gb34_2 : w33.cell? ⟨Ab, 2, none⟩ = some (.int .i64 Ba) := (blk_cell BKgb34.out 2).trans rfl
                   have hl59_gb34_3 : w33.cell? ⟨Ab, 3, none⟩ = some (.int .i64 Bb) := (blk_cell BKgb34.out 3).trans rfl
                   have hl59_gb34_4 : w33.cell? ⟨Ab, 4, none⟩ = some (.int .i64 Bc) := (blk_cell BKgb34.out 4).trans rfl
                   have hl59_gb34_5 : w33.cell? ⟨Ab, 5, none⟩ = some (.slice Ao31 Bd.length co32) := (blk_cell BKgb34.out 5).trans rfl
                   have hl59_gb34_6 : w33.cell? ⟨Ab, 6, none⟩ = some (.int .i64 Be) := (blk_cell BKgb34.out 6).trans rfl
                   have hl59_gb34_7 : w33.cell? ⟨Ab, 7, none⟩ = some (.bool Bf) := (blk_cell BKgb34.out 7).trans rfl
                   refine hK.out _ _ (cz8_ BKgb1) (fun hHeld => ?_)
                   clear hK K; clear hqa0 hqb0 hqa1 hqb1 hqa2 hqb2 hqa3 hqb3 hqa4 hqb4 hqa5 hqb5 hqa6 hqb6 hqa7 hqb7
                   refine pr_ 10 16 (bL 11 2047) rfl rfl ?_
                   have JN2 : Aside0 (w28.heap.size ≤ w33.heap.size ∧ w28.heap.size ≤ lo111 ∧ lo111 ≤ hi111 ∧ hi111 ≤ w33.heap.size ∧ w28.heap.size ≤ lo124 ∧ lo124 ≤ hi124 ∧ hi124 ≤ w33.heap.size ∧ w28.heap.size ≤ lo99 ∧ lo99 ≤ hi99 ∧ hi99 ≤ w33.heap.size ∧ w28.heap.size ≤ Aa ∧ Aa ≤ Aa + 1 ∧ Aa + 1 ≤ w33.heap.size ∧ (hi124 ≤ lo111 ∨ hi111 ≤ lo124) ∧ (hi99 ≤ lo111 ∨ hi111 ≤ lo99) ∧ (hi99 ≤ lo124 ∨ hi124 ≤ lo99) ∧ (Aa + 1 ≤ lo111 ∨ hi111 ≤ Aa) ∧ (Aa + 1 ≤ lo124 ∨ hi124 ≤ Aa) ∧ (Aa + 1 ≤ lo99 ∨ hi99 ≤ Aa)) := ⟨by have q0_ := NL1.out; have q1_ := NL2.out; have q2_ := NL3.out; have q3_ := NL4.out; have q4_ := JN0.out; have q5_ := NL10.out; have q6_ := NL11.out; have q7_ := NL12.out; have q8_ := NL13.out; have q9_ := NL14.out; have q10_ := NL15.out; have q11_ := NL16.out; have q12_ := NL17.out; have q13_ := NL18.out; have q14_ := NL19.out; have q15_ := NL20.out; have q16_ := NL21.out; have q17_ := NL22.out; have q18_ := NL23.out; have q19_ := NL24.out; have q20_ := NL25.out; have q21_ := NL26.out; have q22_ := NL27.out; have q23_ := NL28.out; have q24_ := NL29.out; have q25_ := NL30.out; have q26_ := JA99.out; have q27_ := NL31.out; have q28_ := JA111.out; have q29_ := NL32.out; have q30_ := JA124.out; have q31_ := NL33.out; have g0_ := GLgb125.out; have h0_ := GHgb125.out; refine ⟨by omega, by omega, by omega, by omega, by omega, by omega, by omega, by omega, by omega, by omega, by omega, by omega, by omega, by omega, by omega, by omega, by omega, by omega, by omega⟩⟩
                   have GL2_ : Aside0 (w28.heap.size ≤ Aa) := ⟨by have j_ := JN2.out; omega⟩
                   have GH2_ : Aside0 (Aa < w33.heap.size) := ⟨by have j_ := JN2.out; omega⟩
                   clear GLgb125 GHgb125; have GLgb125 := GL2_; have GHgb125 := GH2_; clear GL2_ GH2_
                   (try clear NL29); (try clear NL30); (try clear JA99); (try clear NL31); (try clear JA111); (try clear NL32); (try clear JA124); (try clear NL33); (try clear hl59_gb125_0); (try clear hl59_gb125_1); (try clear hl59_gb125_2); (try clear hl59_gb125_3); (try clear hl59_gb125_4); (try clear hl59_gb125_5); (try clear hl59_gb125_6); (try clear hl59_gb125_7); (try clear hl59_gb34_0); (try clear hl59_gb34_1); (try clear hl59_gb34_2); (try clear hl59_gb34_3); (try clear hl59_gb34_4); (try clear hl59_gb34_5); (try clear hl59_gb34_6); (try clear hl59_gb34_7); (try clear hHeld)
                   revert JN2
                   revert HB
                   revert GEgb125
                   revert GHgb125
                   revert GLgb125
                   revert BKgb66
                   revert BKgb34
                   revert BKgb125
                   revert BKgb1
                   revert As
                   revert Af
                   revert Ad
                   revert Au
                   revert Ah
                   revert co98
                   revert Ao97
                   revert co123
                   revert Ao122
                   revert co110
                   revert Ao109
                   revert hi99
                   revert lo99
                   revert hi124
                   revert lo124
                   revert hi111
                   revert lo111
                   revert Aa
                   revert w33
                   exact J.out
                 ·intro w33 Aa lo111 hi111 lo124 hi124 lo99 hi99 Ao109 co110 Ao122 co123 Ao97 co98 Ah Au Ad Af As BKgb1 BKgb125 BKgb34 BKgb66 GLgb125 GHgb125 GEgb125 HB JN2
                  have hv2_gb125_0 : w33.cell? ⟨Aa, 0, none⟩ = some (.int .i64 Bg) := (blk_cell BKgb125.out 0).trans rfl
                  have hu2_gb125_0 := blk_frozen BKgb125.out 0
                  have hv2_gb125_1 : w33.cell? ⟨Aa, 1, none⟩ = some (.int .i64 Bh) := (blk_cell BKgb125.out 1).trans rfl
                  have hu2_gb125_1 := blk_frozen BKgb125.out 1
                  have hv2_gb125_2 : w33.cell? ⟨Aa, 2, none⟩ = some (.int .i64 Bi) := (blk_cell BKgb125.out 2).trans rfl
                  have hu2_gb125_2 := blk_frozen BKgb125.out 2
                  have hv2_gb125_3 : w33.cell? ⟨Aa, 3, none⟩ = some (.int .i64 Bj) := (blk_cell BKgb125.out 3).trans rfl
                  have hu2_gb125_3 := blk_frozen BKgb125.out 3
                  have hv2_gb125_4 : w33.cell? ⟨Aa, 4, none⟩ = some (.int .i64 Bk) := (blk_cell BKgb125.out 4).trans rfl
                  have hu2_gb125_4 := blk_frozen BKgb125.out 4
                  have hv2_gb125_5 : w33.cell? ⟨Aa, 5, none⟩ = some (.slice Ao122 Bl.length co123) := (blk_cell BKgb125.out 5).trans rfl
                  have hu2_gb125_5 := blk_frozen BKgb125.out 5
                  have hv2_gb125_6 : w33.cell? ⟨Aa, 6, none⟩ = some (.int .i64 Bm) := (blk_cell BKgb125.out 6).trans rfl
                  have hu2_gb125_6 := blk_frozen BKgb125.out 6
                  have hv2_gb125_7 : w33.cell? ⟨Aa, 7, none⟩ = some (.bool Bn) := (blk_cell BKgb125.out 7).trans rfl
                  have hu2_gb125_7 := blk_frozen BKgb125.out 7
                  have hl60_gb125_0 : w33.cell? ⟨Aa, 0, none⟩ = some (.int .i64 Bg) := (blk_cell BKgb125.out 0).trans rfl
                  have hl60_gb125_1 : w33.cell? ⟨Aa, 1, none⟩ = some (.int .i64 Bh) := (blk_cell BKgb125.out 1).trans rfl
                  have hl60_gb125_2 : w33.cell? ⟨Aa, 2, none⟩ = some (.int .i64 Bi) := (blk_cell BKgb125.out 2).trans rfl
                  have hl60_gb125_3 : w33.cell? ⟨Aa, 3, none⟩ = some (.int .i64 Bj) := (blk_cell BKgb125.out 3).trans rfl
                  have hl60_gb125_4 : w33.cell? ⟨Aa, 4, none⟩ = some (.int .i64 Bk) := (blk_cell BKgb125.out 4).trans rfl
                  have hl60_gb125_5 : w33.cell? ⟨Aa, 5, none⟩ = some (.slice Ao122 Bl.length co123) := (blk_cell BKgb125.out 5).trans rfl
                  have hl60_gb125_6 : w33.cell? ⟨Aa, 6, none⟩ = some (.int .i64 Bm) := (blk_cell BKgb125.out 6).trans rfl
                  have hl60_gb125_7 : w33.cell? ⟨Aa, 7, none⟩ = some (.bool Bn) := (blk_cell BKgb125.out 7).trans rfl
                  have hl60_gb34_0 : w33.cell? ⟨Ab, 0, none⟩ = some (.int .i64 Ay) := (blk_cell BKgb34.out 0).trans rfl
                  have hl60_gb34_1 : w33.cell? ⟨Ab, 1, none⟩ = some (.int .i64 Az) := (blk_cell BKgb34.out 1).trans rfl
                  have hl60_gb34_2 : w33.cell? ⟨Ab, 2, none⟩ = some (.int .i64 Ba) := (blk_cell BKgb34.out 2).trans rfl
                  have hl60_gb34_3 : w33.cell? ⟨Ab, 3, none⟩ = some (.int .i64 Bb) := (blk_cell BKgb34.out 3).trans rfl
                  have hl60_gb34_4 : w33.cell? ⟨Ab, 4, none⟩ = some (.int .i64 Bc) := (blk_cell BKgb34.out 4).trans rfl
                  have hl60_gb34_5 : w33.cell? ⟨Ab, 5, none⟩ = some (.slice Ao31 Bd.length co32) := (blk_cell BKgb34.out 5).trans rfl
                  have hl60_gb34_6 : w33.cell? ⟨Ab, 6, none⟩ = some (.int .i64 Be) := (blk_cell BKgb34.out 6).trans rfl
                  have hl60_gb34_7 : w33.cell? ⟨Ab, 7, none⟩ = some (.bool Bf) := (blk_cell BKgb34.out 7).trans rfl
                  refine done_ (by kernel_rfl) ?_
                  go_wp2_with (first | ((with_reducible refine gate_callee (f := 38) rfl ?_); refine goesL_ (some 104) rfl rfl Try.func38 (by kernel_rfl) rfl #[.agg #[.int .i64 Bg, .int .i64 Bh, .int .i64 Bi, .int .i64 Bj, .int .i64 Bk, .slice Ao122 Bl.length co123, .int .i64 Bm, .bool Bn], .agg #[.int .i64 Ay, .int .i64 Az, .int .i64 Ba, .int .i64 Bb, .int .i64 Bc, .slice Ao31 Bd.length co32, .int .i64 Be, .bool Bf]] rfl mp_q ?_; (with_reducible refine (laws_eqRecord.calls k Bg Bh Bi Bj Bk Ao122 co123 Bl Bm Bn Ay Az Ba Bb Bc Ao31 co32 Bd Be Bf true _ ?side1 ?side2 ?side3 ?side4 EQ63.out).mono ?_); (case side1 => repeat (first | exact (Kd.R_reads' Au.out).2.2 | (with_reducible refine Kd.C_alloc ?_ _) | (with_reducible refine Kd.C_drewN ?_ _) | (with_reducible refine Kd.C_drew ?_))); (case side2 => exact (by have e_ := Kd.R_reads' Au.out; exact Nat.le_trans (Nat.le_of_eq e_.1.symm) e_.2.1)); (case side3 => repeat (first | exact (Kd.R_reads' Ad.out).2.2 | (with_reducible refine Kd.C_alloc ?_ _) | (with_reducible refine Kd.C_drewN ?_ _) | (with_reducible refine Kd.C_drew ?_))); (case side4 => exact (by have e_ := Kd.R_reads' Ad.out; exact Nat.le_trans (Nat.le_of_eq e_.1.symm) e_.2.1)); rintro e_ w34 ⟨rfl, hb⟩; refine ⟨_, rfl, ?_⟩; replace Af := ak (Kd.R_below (kR_q Af) hb); replace BKgb66 := ak (blk_below (g := Ae) (bk_q BKgb66) hb); have NL34 := ak ((hb.size : w33.heap.size ≤ w34.heap.size)); replace HB := ak (below_step (bw_q HB) hb); clear Ad As Ah Au BKgb1 BKgb34 BKgb125; (try clear hb); (try clear hk); clear hl60_gb125_0 hl60_gb125_1 hl60_gb125_2 hl60_gb125_3 hl60_gb125_4 hl60_gb125_5 hl60_gb125_6 hl60_gb125_7 hl60_gb34_0 hl60_gb34_1 hl60_gb34_2 hl60_gb34_3 hl60_gb34_4 hl60_gb34_5 hl60_gb34_6 hl60_gb34_7; have hl63_gb66_0 : w34.cell? ⟨Ae, 0, none⟩ = some (.int .i64 Bo) := (blk_cell BKgb66.out 0).trans rfl; have hl63_gb66_1 : w34.cell? ⟨Ae, 1, none⟩ = some (.int .i64 Bp) := (blk_cell BKgb66.out 1).trans rfl; have hl63_gb66_2 : w34.cell? ⟨Ae, 2, none⟩ = some (.int .i64 Bq) := (blk_cell BKgb66.out 2).trans rfl; have hl63_gb66_3 : w34.cell? ⟨Ae, 3, none⟩ = some (.int .i64 Br) := (blk_cell BKgb66.out 3).trans rfl; have hl63_gb66_4 : w34.cell? ⟨Ae, 4, none⟩ = some (.int .i64 Bs) := (blk_cell BKgb66.out 4).trans rfl; have hl63_gb66_5 : w34.cell? ⟨Ae, 5, none⟩ = some (.slice Ao63 Bv.length co64) := (blk_cell BKgb66.out 5).trans rfl; have hl63_gb66_6 : w34.cell? ⟨Ae, 6, none⟩ = some (.int .i64 Bt) := (blk_cell BKgb66.out 6).trans rfl; have hl63_gb66_7 : w34.cell? ⟨Ae, 7, none⟩ = some (.bool Bu) := (blk_cell BKgb66.out 7).trans rfl) | ((with_reducible refine gate_callee (f := 40) rfl ?_); refine goesL_ (some 113) rfl rfl Try.func40 (by kernel_rfl) rfl #[.agg #[.int .i64 Bo, .int .i64 Bp, .int .i64 Bq, .int .i64 Br, .int .i64 Bs, .slice Ao63 Da.length co64, .int .i64 Bt, .bool Bu], .int .i64 1] rfl (by (try simp only [List.map_toArray, List.map_cons, List.map_nil]); first | done | rfl | (rw [show Da.length = Bv.length from (Kd.R_reads' Af.out).1.symm] <;> rfl) | (simp only [List.length_drop, List.length_take]; rfl)) ?_; (with_reducible refine (laws_heldRecord.calls k Bo Bp Bq Br Bs Ao63 co64 Da Bt Bu 1 Cy _ ?side1 ?side2 EQ67.out).mono ?_); (case side1 => repeat (first | exact (Kd.R_reads' Af.out).2.2 | (with_reducible refine Kd.C_alloc ?_ _) | (with_reducible refine Kd.C_drewN ?_ _) | (with_reducible refine Kd.C_drew ?_))); (case side2 => exact (by have e_ := Kd.R_reads' Af.out; exact Nat.le_trans (Nat.le_of_eq e_.1.symm) e_.2.1)); rintro e_ w35 ⟨rfl, hb⟩; refine ⟨_, rfl, ?_⟩; have NL35 := ak ((hb.size : w34.heap.size ≤ w35.heap.size)); replace HB := ak (below_step (bw_q HB) hb); clear Af BKgb66; (try clear hb); (try clear hk); clear hl63_gb66_0 hl63_gb66_1 hl63_gb66_2 hl63_gb66_3 hl63_gb66_4 hl63_gb66_5 hl63_gb66_6 hl63_gb66_7))
                  go_ret
                  exact ⟨er_q, bw_q HB⟩
               ·rw [if_neg cd69] at H
                exact absurd (Option.some.inj H) (by rw [hr_]; decide)
            ·rw [if_neg cd64] at H
             exact absurd (Option.some.inj H) (by rw [hr_]; decide)
           ·rw [if_neg cd52] at H
            exact absurd (Option.some.inj H) (by rw [hr_]; decide)
        ·rw [if_neg cd45] at H
         exact absurd (Option.some.inj H) (by rw [hr_]; decide)
      ·rw [if_neg cd37] at H
       exact absurd (Option.some.inj H) (by rw [hr_]; decide)
     ·rw [if_neg cd30] at H
      exact absurd (Option.some.inj H) (by rw [hr_]; decide)
   ·rw [if_neg cd26] at H
    exact absurd (Option.some.inj H) (by rw [hr_]; decide)
end Go.Proofs.Ythjmdiggglkeaaa.Q
