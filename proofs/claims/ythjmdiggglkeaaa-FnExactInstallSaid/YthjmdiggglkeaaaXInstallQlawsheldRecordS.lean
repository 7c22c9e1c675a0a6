import Derived.Test.YthjmdiggglkeaaaXInstallQlawstoNearS
import Derived.Test.YthjmdiggglkeaaaXInstallQlawsmarkNearS
/- A Go function as a Lean function, and its contract: for every input the Go code comes to what the Lean function tells. The rows that are handed in are the call's own, as are the rows that they lead to. -/


namespace Go.Proofs.Ythjmdiggglkeaaa.Q
open Go.RowKit Go.Proofs.YthjmdiggglkeaaaW.PrintWords Go.Proofs.YthjmdiggglkeaaaW.PrintLast Go.Proofs.YthjmdiggglkeaaaW.PrintMore
attribute [local go_sem] max2_int min2_int max_two min_two max_three min_three max_four min_four   -- for this text's walks alone
set_option linter.unusedVariables false
set_option linter.unusedSimpArgs false

/-! ### laws_markRecordS: function 31 -/
def laws_markRecordS.l0 : Nat → List (S61) → Int → Int → Option (Int × (List (S61)))
 | 0, _, _, _ => none
 | k + 1, x0, x1, x5 => if x5 < (x0.length : Int) then (if 0 ≤ x5 then ((laws_markNearS.f k ((rd_T61 x0 x5).f5) (wrap64 ((wrap64 ((wrap64 ((wrap64 ((wrap64 (x1 + 1)) + 1)) + 1)) + 1)) + 1))).bind fun q => (laws_markRecordS.l0 k (x0.set (x5 : Int).toNat (⟨x1, wrap64 (x1 + 1), wrap64 ((wrap64 (x1 + 1)) + 1), wrap64 ((wrap64 ((wrap64 (x1 + 1)) + 1)) + 1), wrap64 ((wrap64 ((wrap64 ((wrap64 (x1 + 1)) + 1)) + 1)) + 1), q.2, q.1, (Int.tmod (wrap64 (q.1 + 1)) 3) == 0⟩ : S61)) (wrap64 ((wrap64 (q.1 + 1)) + 1)) (wrap64 (x5 + 1)))) else (none)) else (some (x1, x0))
def laws_markRecordS.f (k : Nat) (l0 : List (S61)) (a1 : Int) : Option (Int × (List (S61))) := laws_markRecordS.l0 k l0 a1 0
theorem laws_markRecordS.mono_l : ∀ k, (∀ y0 y1 y2, LeO (laws_markRecordS.l0 k y0 y1 y2) (laws_markRecordS.l0 (k + 1) y0 y1 y2))
 | 0 => fun _ _ _ r h => by simp [laws_markRecordS.l0] at h
 | k + 1 => by
  have ih0 := laws_markRecordS.mono_l k
  intro y0 y1 y2
  unfold laws_markRecordS.l0
  repeat' first
   | (with_reducible exact ih0 _ _ _)
   | (with_reducible exact laws_markNearS.mono _ _ _)
   | (with_reducible exact LeO.refl _)
   | (with_reducible exact LeO.none _)
   | (with_reducible refine LeO.ite ?_ ?_)
   | (with_reducible refine LeO.bind ?_ (fun _ => ?_))
   | exact ih0 _ _ _
   | exact laws_markNearS.mono _ _ _
   | exact LeO.none _
   | refine LeO.ite ?_ ?_
   | refine LeO.bind ?_ (fun _ => ?_)
theorem laws_markRecordS.mono : ∀ a0 a1 k, LeO (laws_markRecordS.f k a0 a1) (laws_markRecordS.f (k + 1) a0 a1) := by
 intro a0 a1 k
 exact laws_markRecordS.mono_l k _ _ _
/-- An element that is known, out of a row of the call's own. -/
theorem laws_markRecordS.at_ {d : Kd S61} {e base g n cap : Nat} {ok : Nat → Prop} {W : World} {xs : List S61} {x : S61} {i : Int} (h : Kd.S d e W base ok (.slice (some ⟨g, 0, none⟩) n cap) (xs.set i.toNat x)) (h0 : 0 ≤ i) (h1 : i < (n : Int)) :
  ∃ (oki : Nat → Prop) (c : List Value), c.length = d.sz ∧ d.M W base oki x c ∧ (∀ j u, c[j]? = some u → W.cell? ⟨g, i.toNat * d.sz + j, none⟩ = some u) ∧ (∀ j, W.frozen? ⟨g, i.toNat * d.sz + j, none⟩ = false) ∧ (∀ k, oki k → ok k ∧ k ≠ g) ∧ Kd.H d e W base ok (.slice (some ⟨g, 0, none⟩) n cap) (xs.set i.toNat x) i oki c := by
 have hn := (Kd.S_reads' h).1
 obtain ⟨oki, c, a1, a2, a3, a4, a5, a6⟩ := Kd.S_elem h x i h0 h1
 rw [List.length_set] at hn
 rw [List.getD_eq_getElem?_getD, List.getElem?_set_self (by omega)] at a2
 exact ⟨oki, c, a1, a2, a3, a4, a5, a6⟩
theorem laws_markRecordS.put_ {d : Kd S61} {e base g n cap : Nat} {ok oki okp : Nat → Prop} {W : World} {xs : List S61} {x x' : S61} {i : Int} {c : List Value} (hH : Kd.H d e W base ok (.slice (some ⟨g, 0, none⟩) n cap) (xs.set i.toNat x) i oki c) (h0 : 0 ≤ i) (h1 : i < (n : Int)) {u : Value} {j : Nat} (hj : j + 1 ≤ d.sz)
  (hM : d.M W base okp x' (c.take j ++ [u] ++ c.drop (j + 1))) (hokp : ∀ k, okp k → oki k) : Kd.S d e (W.setCell ⟨g, i.toNat * d.sz + j, none⟩ u) base ok (.slice (some ⟨g, 0, none⟩) n cap) (xs.set i.toNat x') ∧ W.grownBy (W.setCell ⟨g, i.toNat * d.sz + j, none⟩ u) (some g) := by
 have h := Kd.S_seg0 hH h0 h1 (seg := [u]) hj hM hokp
 rw [List.set_set] at h
 exact h
theorem laws_markRecordS.call_ {d : Kd S61} {e base g n cap : Nat} {ok oki okp : Nat → Prop} {W W2 : World} {xs : List S61} {x x' : S61} {i : Int} {c : List Value} (hH : Kd.H d e W base ok (.slice (some ⟨g, 0, none⟩) n cap) (xs.set i.toNat x) i oki c) (hk : Kept W W2 oki)
  (hM : d.M W2 base okp x' c) (hokp : ∀ k, okp k → oki k) : Kd.S d e W2 base ok (.slice (some ⟨g, 0, none⟩) n cap) (xs.set i.toNat x') := by
 have h := Kd.H_back (Kd.H_kept hH hk (fun _ _ hn => hn)) hM hokp
 rw [List.set_set] at h
 exact h
theorem laws_markRecordS.start_ {xs : List S61} {i : Int} (h1 : i < (xs.length : Int)) (h0 : 0 ≤ i) : xs.set i.toNat (rd_T61 xs i) = xs := by
 unfold rd_T61
 rw [List.getD_eq_getElem?_getD, List.getElem?_eq_getElem (by omega)]
 exact List.set_getElem_self _
set_option maxHeartbeats 8000000 in
set_option maxRecDepth 100000 in
theorem laws_markRecordS.calls (k : Nat) (P0_ : Nat → Prop) (u9000_ : Value) (l0 : List (S61)) (a1 : Int) (r1 : Int) (r2 : List (S61)) (w0 w : World) (hB : Below w0.heap.size w0 w) (ho0 : Kd.S k61 61 w w0.heap.size P0_ u9000_ l0) (h : laws_markRecordS.f k l0 a1 = some (r1, r2)) :
  Calls Try.prog 31 #[u9000_, .int .i64 a1] w fun e w' => e = .returned (.int .i64 r1) ∧ Kd.S k61 61 w' w0.heap.size P0_ u9000_ r2 ∧ Below w0.heap.size w0 w' ∧ Kept w w' P0_ := by
 have HO0 := Aside0.mk ho0
 have HK := Aside0.mk (Kept.refl w P0_)
 have HB := Aside0.mk hB
 clear hB ho0
 have H' := Aside0.mk (show laws_markRecordS.l0 k l0 a1 0 = some (r1, r2) from h)
 clear h
 go_enter Try.func31, Try.ntmps31
 go_wp2
 go_loopg [1, 5] k (fun kq v1 v5 w' => ∃ (x0_1 : List (S61)) (x1_1 : Int) (x5_1 : Int), v1 = .int .i64 x1_1 ∧ v5 = .int .i64 x5_1 ∧ Aside0 (laws_markRecordS.l0 kq x0_1 x1_1 x5_1 = some (r1, r2)) ∧ Aside0 (kq ≤ k) ∧ Aside0 (Kd.S k61 61 w' w0.heap.size P0_ u9000_ x0_1) ∧ Aside0 (Kept w w' P0_) ∧ Aside0 (Below w0.heap.size w0 w'))
 case atStart => exact ⟨l0, a1, 0, (by first | rfl | (simp; done) | (simp [*]; done)), (by first | rfl | (simp; done) | (simp [*]; done)), H', ⟨Nat.le_refl _⟩, ⟨by (with_reducible repeat (first | apply Kd.S_alloc | apply Kd.S_drewN | apply Kd.S_drew)); exact HO0.out⟩, ⟨by repeat (first | (with_reducible first | exact HK.out | apply Kept.alloc | apply Kept.drewN | apply Kept.drew) | exact HK.out)⟩, ⟨bw_q HB⟩⟩
 case round =>
  clear H'
  try clear p2
  obtain ⟨x0_1, x1_1, x5_1, rfl, rfl, HA, HK1, HO, HK, HB⟩ := hrel
  cases gk with
  | zero => exact absurd HA.out (by simp [laws_markRecordS.l0])
  | succ k1 =>
   have H := HA.out
   clear HA
   simp only [laws_markRecordS.l0] at H
   by_cases c3 : x5_1 < (x0_1.length : Int)
   ·rw [if_pos c3] at H
    have c3b0 : decide (x5_1 < (x0_1.length : Int)) = true := decide_eq_true c3
    by_cases c4 : 0 ≤ x5_1
    ·rw [if_pos c4] at H
     have c4b0 : decide (0 ≤ x5_1) = true := decide_eq_true c4
     replace H := Option.bind_eq_some_iff.mp H
     obtain ⟨⟨t, y⟩, A, H⟩ := H
     have H' := Aside0.mk H
     clear H
     have A := Aside0.mk A
     obtain ⟨Ao7, co7, eo7⟩ := Kd.S_slice HO.out
     subst eo7
     obtain ⟨go, co, eo, gb, gl, cl, HG⟩ := Kd.S_form HO.out (by omega)
     (first | cases eo | (injection eo with ea_ en_ ec_; (first | subst ea_ | (injection ea_ with ea_; subst ea_)); subst ec_; clear en_))
     have GB := Aside0.mk gb
     have GP := Aside0.mk (show P0_ go from (Kd.S_R HO.out).1 go rfl)
     clear gb gl HG
     have p : 0 ≤ (x5_1 : Int) := c4
     have q : (x5_1 : Int) < ((x0_1.length : Nat) : Int) := c3
     have HS : Kd.S k61 61 wr w0.heap.size P0_ (.slice (some ⟨go, 0, none⟩) x0_1.length co7) (x0_1.set (x5_1 : Int).toNat (rd_T61 x0_1 x5_1)) := by rw [laws_markRecordS.start_ q p]; exact HO.out
     clear HO
     generalize rd_T61 x0_1 x5_1 = e at *
     obtain ⟨oka, ca, cla, cma, cca, cfa, coa, cha⟩ := laws_markRecordS.at_ HS p q
     obtain ⟨va, rfl, gea⟩ := k61_openM cma
     have hxa_0 : wr.cell? ⟨go, (x5_1 : Int).toNat * 8, none⟩ = some (.int .i64 (e.f0)) := cca 0 _ rfl
     have hfa_0 : wr.frozen? ⟨go, (x5_1 : Int).toNat * 8, none⟩ = false := cfa 0
     have hxa_1 : wr.cell? ⟨go, (x5_1 : Int).toNat * 8 + 1, none⟩ = some (.int .i64 (e.f1)) := cca 1 _ rfl
     have hfa_1 : wr.frozen? ⟨go, (x5_1 : Int).toNat * 8 + 1, none⟩ = false := cfa 1
     have hxa_2 : wr.cell? ⟨go, (x5_1 : Int).toNat * 8 + 2, none⟩ = some (.int .i64 (e.f2)) := cca 2 _ rfl
     have hfa_2 : wr.frozen? ⟨go, (x5_1 : Int).toNat * 8 + 2, none⟩ = false := cfa 2
     have hxa_3 : wr.cell? ⟨go, (x5_1 : Int).toNat * 8 + 3, none⟩ = some (.int .i64 (e.f3)) := cca 3 _ rfl
     have hfa_3 : wr.frozen? ⟨go, (x5_1 : Int).toNat * 8 + 3, none⟩ = false := cfa 3
     have hxa_4 : wr.cell? ⟨go, (x5_1 : Int).toNat * 8 + 4, none⟩ = some (.int .i64 (e.f4)) := cca 4 _ rfl
     have hfa_4 : wr.frozen? ⟨go, (x5_1 : Int).toNat * 8 + 4, none⟩ = false := cfa 4
     have hxa_5 : wr.cell? ⟨go, (x5_1 : Int).toNat * 8 + 5, none⟩ = some (va) := cca 5 _ rfl
     have hfa_5 : wr.frozen? ⟨go, (x5_1 : Int).toNat * 8 + 5, none⟩ = false := cfa 5
     have hxa_6 : wr.cell? ⟨go, (x5_1 : Int).toNat * 8 + 6, none⟩ = some (.int .i64 (e.f6)) := cca 6 _ rfl
     have hfa_6 : wr.frozen? ⟨go, (x5_1 : Int).toNat * 8 + 6, none⟩ = false := cfa 6
     have hxa_7 : wr.cell? ⟨go, (x5_1 : Int).toNat * 8 + 7, none⟩ = some (.bool (e.f7)) := cca 7 _ rfl
     have hfa_7 : wr.frozen? ⟨go, (x5_1 : Int).toNat * 8 + 7, none⟩ = false := cfa 7
     clear cla cma cca cfa
     have p_ := eq_true p
     have q_ := eq_true q
     go_wp2_with (first | ((with_reducible refine gate_store (t := 3) (p := 16) rfl ?_); refine store_event (t := 3) (p := 16) (v := ?vo_wb) (w1 := (wr.setCell ⟨go, (x5_1 : Int).toNat * 8, none⟩ (.int .i64 x1_1))) ?hg ?ho ?hn ?hr ?_; (case ho => rfl); (case hg => rfl); (case hn => rfl); (case hr => first | (go_simp; done) | (go_simp; rfl)); intro wb hw; have HP0 := laws_markRecordS.put_ (x' := (⟨x1_1, e.f1, e.f2, e.f3, e.f4, e.f5, e.f6, e.f7⟩ : S61)) (u := .int .i64 x1_1) (j := 0) cha p q (show 0 + 1 ≤ 8 by decide) (k61_mkM _ _ _ (⟨x1_1, e.f1, e.f2, e.f3, e.f4, e.f5, e.f6, e.f7⟩ : S61) gea) (fun _ h_ => h_); have hg : wr.grownBy wb (some go) := (by rw [hw]; exact HP0.2); have HP : Kd.S k61 61 wb w0.heap.size P0_ (.slice (some ⟨go, 0, none⟩) x0_1.length co7) (x0_1.set (x5_1 : Int).toNat (⟨x1_1, e.f1, e.f2, e.f3, e.f4, e.f5, e.f6, e.f7⟩ : S61)) := (by rw [hw]; exact HP0.1); have n1_ := Aside0.mk ((by rw [hw]; exact below_set (HB.out) GB.out : Below w0.heap.size w0 wb)); have n2_ := Aside0.mk (Kept.of_grown (S := P0_) hg (by repeat (first | (with_reducible first | exact HK.out | apply Kept.alloc | apply Kept.drewN | apply Kept.drew) | exact HK.out)) (fun k_ e_ => .inl (by injection e_ with e_; rw [← e_]; exact GP.out))); clear HB HK hg hw HP0; have HB := n1_; have HK := n2_; clear n1_ n2_; clear hxa_0 hxa_1 hxa_2 hxa_3 hxa_4 hxa_5 hxa_6 hxa_7 hfa_0 hfa_1 hfa_2 hfa_3 hfa_4 hfa_5 hfa_6 hfa_7 gea coa cha; have HSb := HP; clear HP; obtain ⟨okb, cb, clb, cmb, ccb, cfb, cob, chb⟩ := laws_markRecordS.at_ HSb p q; obtain ⟨vb, rfl, geb⟩ := k61_openM cmb; have hxb_0 : wb.cell? ⟨go, (x5_1 : Int).toNat * 8, none⟩ = some (.int .i64 (x1_1)) := ccb 0 _ rfl; have hfb_0 : wb.frozen? ⟨go, (x5_1 : Int).toNat * 8, none⟩ = false := cfb 0; have hxb_1 : wb.cell? ⟨go, (x5_1 : Int).toNat * 8 + 1, none⟩ = some (.int .i64 (e.f1)) := ccb 1 _ rfl; have hfb_1 : wb.frozen? ⟨go, (x5_1 : Int).toNat * 8 + 1, none⟩ = false := cfb 1; have hxb_2 : wb.cell? ⟨go, (x5_1 : Int).toNat * 8 + 2, none⟩ = some (.int .i64 (e.f2)) := ccb 2 _ rfl; have hfb_2 : wb.frozen? ⟨go, (x5_1 : Int).toNat * 8 + 2, none⟩ = false := cfb 2; have hxb_3 : wb.cell? ⟨go, (x5_1 : Int).toNat * 8 + 3, none⟩ = some (.int .i64 (e.f3)) := ccb 3 _ rfl; have hfb_3 : wb.frozen? ⟨go, (x5_1 : Int).toNat * 8 + 3, none⟩ = false := cfb 3; have hxb_4 : wb.cell? ⟨go, (x5_1 : Int).toNat * 8 + 4, none⟩ = some (.int .i64 (e.f4)) := ccb 4 _ rfl; have hfb_4 : wb.frozen? ⟨go, (x5_1 : Int).toNat * 8 + 4, none⟩ = false := cfb 4; have hxb_5 : wb.cell? ⟨go, (x5_1 : Int).toNat * 8 + 5, none⟩ = some (vb) := ccb 5 _ rfl; have hfb_5 : wb.frozen? ⟨go, (x5_1 : Int).toNat * 8 + 5, none⟩ = false := cfb 5; have hxb_6 : wb.cell? ⟨go, (x5_1 : Int).toNat * 8 + 6, none⟩ = some (.int .i64 (e.f6)) := ccb 6 _ rfl; have hfb_6 : wb.frozen? ⟨go, (x5_1 : Int).toNat * 8 + 6, none⟩ = false := cfb 6; have hxb_7 : wb.cell? ⟨go, (x5_1 : Int).toNat * 8 + 7, none⟩ = some (.bool (e.f7)) := ccb 7 _ rfl; have hfb_7 : wb.frozen? ⟨go, (x5_1 : Int).toNat * 8 + 7, none⟩ = false := cfb 7; clear clb cmb ccb cfb) | ((with_reducible refine gate_store (t := 3) (p := 23) rfl ?_); refine store_event (t := 3) (p := 23) (v := ?vo_wc) (w1 := (wb.setCell ⟨go, (x5_1 : Int).toNat * 8 + 1, none⟩ (.int .i64 (wrap64 (x1_1 + 1))))) ?hg ?ho ?hn ?hr ?_; (case ho => rfl); (case hg => rfl); (case hn => rfl); (case hr => first | (go_simp; done) | (go_simp; rfl)); intro wc hw; have HP0 := laws_markRecordS.put_ (x' := (⟨x1_1, wrap64 (x1_1 + 1), e.f2, e.f3, e.f4, e.f5, e.f6, e.f7⟩ : S61)) (u := .int .i64 (wrap64 (x1_1 + 1))) (j := 1) chb p q (show 1 + 1 ≤ 8 by decide) (k61_mkM _ _ _ (⟨x1_1, wrap64 (x1_1 + 1), e.f2, e.f3, e.f4, e.f5, e.f6, e.f7⟩ : S61) geb) (fun _ h_ => h_); have hg : wb.grownBy wc (some go) := (by rw [hw]; exact HP0.2); have HP : Kd.S k61 61 wc w0.heap.size P0_ (.slice (some ⟨go, 0, none⟩) x0_1.length co7) (x0_1.set (x5_1 : Int).toNat (⟨x1_1, wrap64 (x1_1 + 1), e.f2, e.f3, e.f4, e.f5, e.f6, e.f7⟩ : S61)) := (by rw [hw]; exact HP0.1); have n1_ := Aside0.mk ((by rw [hw]; exact below_set (HB.out) GB.out : Below w0.heap.size w0 wc)); have n2_ := Aside0.mk (Kept.of_grown (S := P0_) hg (by repeat (first | (with_reducible first | exact HK.out | apply Kept.alloc | apply Kept.drewN | apply Kept.drew) | exact HK.out)) (fun k_ e_ => .inl (by injection e_ with e_; rw [← e_]; exact GP.out))); clear HB HK hg hw HP0; have HB := n1_; have HK := n2_; clear n1_ n2_; clear hxb_0 hxb_1 hxb_2 hxb_3 hxb_4 hxb_5 hxb_6 hxb_7 hfb_0 hfb_1 hfb_2 hfb_3 hfb_4 hfb_5 hfb_6 hfb_7 geb cob chb; have HSc := HP; clear HP; obtain ⟨okc, cc, clc, cmc, ccc, cfc, coc, chc⟩ := laws_markRecordS.at_ HSc p q; obtain ⟨vc, rfl, gec⟩ := k61_openM cmc; have hxc_0 : wc.cell? ⟨go, (x5_1 : Int).toNat * 8, none⟩ = some (.int .i64 (x1_1)) := ccc 0 _ rfl; have hfc_0 : wc.frozen? ⟨go, (x5_1 : Int).toNat * 8, none⟩ = false := cfc 0; have hxc_1 : wc.cell? ⟨go, (x5_1 : Int).toNat * 8 + 1, none⟩ = some (.int .i64 (wrap64 (x1_1 + 1))) := ccc 1 _ rfl; have hfc_1 : wc.frozen? ⟨go, (x5_1 : Int).toNat * 8 + 1, none⟩ = false := cfc 1; have hxc_2 : wc.cell? ⟨go, (x5_1 : Int).toNat * 8 + 2, none⟩ = some (.int .i64 (e.f2)) := ccc 2 _ rfl; have hfc_2 : wc.frozen? ⟨go, (x5_1 : Int).toNat * 8 + 2, none⟩ = false := cfc 2; have hxc_3 : wc.cell? ⟨go, (x5_1 : Int).toNat * 8 + 3, none⟩ = some (.int .i64 (e.f3)) := ccc 3 _ rfl; have hfc_3 : wc.frozen? ⟨go, (x5_1 : Int).toNat * 8 + 3, none⟩ = false := cfc 3; have hxc_4 : wc.cell? ⟨go, (x5_1 : Int).toNat * 8 + 4, none⟩ = some (.int .i64 (e.f4)) := ccc 4 _ rfl; have hfc_4 : wc.frozen? ⟨go, (x5_1 : Int).toNat * 8 + 4, none⟩ = false := cfc 4; have hxc_5 : wc.cell? ⟨go, (x5_1 : Int).toNat * 8 + 5, none⟩ = some (vc) := ccc 5 _ rfl; have hfc_5 : wc.frozen? ⟨go, (x5_1 : Int).toNat * 8 + 5, none⟩ = false := cfc 5; have hxc_6 : wc.cell? ⟨go, (x5_1 : Int).toNat * 8 + 6, none⟩ = some (.int .i64 (e.f6)) := ccc 6 _ rfl; have hfc_6 : wc.frozen? ⟨go, (x5_1 : Int).toNat * 8 + 6, none⟩ = false := cfc 6; have hxc_7 : wc.cell? ⟨go, (x5_1 : Int).toNat * 8 + 7, none⟩ = some (.bool (e.f7)) := ccc 7 _ rfl; have hfc_7 : wc.frozen? ⟨go, (x5_1 : Int).toNat * 8 + 7, none⟩ = false := cfc 7; clear clc cmc ccc cfc) | ((with_reducible refine gate_store (t := 3) (p := 30) rfl ?_); refine store_event (t := 3) (p := 30) (v := ?vo_wd) (w1 := (wc.setCell ⟨go, (x5_1 : Int).toNat * 8 + 2, none⟩ (.int .i64 (wrap64 ((wrap64 (x1_1 + 1)) + 1))))) ?hg ?ho ?hn ?hr ?_; (case ho => rfl); (case hg => rfl); (case hn => rfl); (case hr => first | (go_simp; done) | (go_simp; rfl)); intro wd hw; have HP0 := laws_markRecordS.put_ (x' := (⟨x1_1, wrap64 (x1_1 + 1), wrap64 ((wrap64 (x1_1 + 1)) + 1), e.f3, e.f4, e.f5, e.f6, e.f7⟩ : S61)) (u := .int .i64 (wrap64 ((wrap64 (x1_1 + 1)) + 1))) (j := 2) chc p q (show 2 + 1 ≤ 8 by decide) (k61_mkM _ _ _ (⟨x1_1, wrap64 (x1_1 + 1), wrap64 ((wrap64 (x1_1 + 1)) + 1), e.f3, e.f4, e.f5, e.f6, e.f7⟩ : S61) gec) (fun _ h_ => h_); have hg : wc.grownBy wd (some go) := (by rw [hw]; exact HP0.2); have HP : Kd.S k61 61 wd w0.heap.size P0_ (.slice (some ⟨go, 0, none⟩) x0_1.length co7) (x0_1.set (x5_1 : Int).toNat (⟨x1_1, wrap64 (x1_1 + 1), wrap64 ((wrap64 (x1_1 + 1)) + 1), e.f3, e.f4, e.f5, e.f6, e.f7⟩ : S61)) := (by rw [hw]; exact HP0.1); have n1_ := Aside0.mk ((by rw [hw]; exact below_set (HB.out) GB.out : Below w0.heap.size w0 wd)); have n2_ := Aside0.mk (Kept.of_grown (S := P0_) hg (by repeat (first | (with_reducible first | exact HK.out | apply Kept.alloc | apply Kept.drewN | apply Kept.drew) | exact HK.out)) (fun k_ e_ => .inl (by injection e_ with e_; rw [← e_]; exact GP.out))); clear HB HK hg hw HP0; have HB := n1_; have HK := n2_; clear n1_ n2_; clear hxc_0 hxc_1 hxc_2 hxc_3 hxc_4 hxc_5 hxc_6 hxc_7 hfc_0 hfc_1 hfc_2 hfc_3 hfc_4 hfc_5 hfc_6 hfc_7 gec coc chc; have HSd := HP; clear HP; obtain ⟨okd, cd, cld, cmd, ccd, cfd, cod, chd⟩ := laws_markRecordS.at_ HSd p q; obtain ⟨vd, rfl, ged⟩ := k61_openM cmd; have hxd_0 : wd.cell? ⟨go, (x5_1 : Int).toNat * 8, none⟩ = some (.int .i64 (x1_1)) := ccd 0 _ rfl; have hfd_0 : wd.frozen? ⟨go, (x5_1 : Int).toNat * 8, none⟩ = false := cfd 0; have hxd_1 : wd.cell? ⟨go, (x5_1 : Int).toNat * 8 + 1, none⟩ = some (.int .i64 (wrap64 (x1_1 + 1))) := ccd 1 _ rfl; have hfd_1 : wd.frozen? ⟨go, (x5_1 : Int).toNat * 8 + 1, none⟩ = false := cfd 1; have hxd_2 : wd.cell? ⟨go, (x5_1 : Int).toNat * 8 + 2, none⟩ = some (.int .i64 (wrap64 ((wrap64 (x1_1 + 1)) + 1))) := ccd 2 _ rfl; have hfd_2 : wd.frozen? ⟨go, (x5_1 : Int).toNat * 8 + 2, none⟩ = false := cfd 2; have hxd_3 : wd.cell? ⟨go, (x5_1 : Int).toNat * 8 + 3, none⟩ = some (.int .i64 (e.f3)) := ccd 3 _ rfl; have hfd_3 : wd.frozen? ⟨go, (x5_1 : Int).toNat * 8 + 3, none⟩ = false := cfd 3; have hxd_4 : wd.cell? ⟨go, (x5_1 : Int).toNat * 8 + 4, none⟩ = some (.int .i64 (e.f4)) := ccd 4 _ rfl; have hfd_4 : wd.frozen? ⟨go, (x5_1 : Int).toNat * 8 + 4, none⟩ = false := cfd 4; have hxd_5 : wd.cell? ⟨go, (x5_1 : Int).toNat * 8 + 5, none⟩ = some (vd) := ccd 5 _ rfl; have hfd_5 : wd.frozen? ⟨go, (x5_1 : Int).toNat * 8 + 5, none⟩ = false := cfd 5; have hxd_6 : wd.cell? ⟨go, (x5_1 : Int).toNat * 8 + 6, none⟩ = some (.int .i64 (e.f6)) := ccd 6 _ rfl; have hfd_6 : wd.frozen? ⟨go, (x5_1 : Int).toNat * 8 + 6, none⟩ = false := cfd 6; have hxd_7 : wd.cell? ⟨go, (x5_1 : Int).toNat * 8 + 7, none⟩ = some (.bool (e.f7)) := ccd 7 _ rfl; have hfd_7 : wd.frozen? ⟨go, (x5_1 : Int).toNat * 8 + 7, none⟩ = false := cfd 7; clear cld cmd ccd cfd) | ((with_reducible refine gate_store (t := 3) (p := 37) rfl ?_); refine store_event (t := 3) (p := 37) (v := ?vo_we) (w1 := (wd.setCell ⟨go, (x5_1 : Int).toNat * 8 + 3, none⟩ (.int .i64 (wrap64 ((wrap64 ((wrap64 (x1_1 + 1)) + 1)) + 1))))) ?hg ?ho ?hn ?hr ?_; (case ho => rfl); (case hg => rfl); (case hn => rfl); (case hr => first | (go_simp; done) | (go_simp; rfl)); intro we hw; have HP0 := laws_markRecordS.put_ (x' := (⟨x1_1, wrap64 (x1_1 + 1), wrap64 ((wrap64 (x1_1 + 1)) + 1), wrap64 ((wrap64 ((wrap64 (x1_1 + 1)) + 1)) + 1), e.f4, e.f5, e.f6, e.f7⟩ : S61)) (u := .int .i64 (wrap64 ((wrap64 ((wrap64 (x1_1 + 1)) + 1)) + 1))) (j := 3) chd p q (show 3 + 1 ≤ 8 by decide) (k61_mkM _ _ _ (⟨x1_1, wrap64 (x1_1 + 1), wrap64 ((wrap64 (x1_1 + 1)) + 1), wrap64 ((wrap64 ((wrap64 (x1_1 + 1)) + 1)) + 1), e.f4, e.f5, e.f6, e.f7⟩ : S61) ged) (fun _ h_ => h_); have hg : wd.grownBy we (some go) := (by rw [hw]; exact HP0.2); have HP : Kd.S k61 61 we w0.heap.size P0_ (.slice (some ⟨go, 0, none⟩) x0_1.length co7) (x0_1.set (x5_1 : Int).toNat (⟨x1_1, wrap64 (x1_1 + 1), wrap64 ((wrap64 (x1_1 + 1)) + 1), wrap64 ((wrap64 ((wrap64 (x1_1 + 1)) + 1)) + 1), e.f4, e.f5, e.f6, e.f7⟩ : S61)) := (by rw [hw]; exact HP0.1); have n1_ := Aside0.mk ((by rw [hw]; exact below_set (HB.out) GB.out : Below w0.heap.size w0 we)); have n2_ := Aside0.mk (Kept.of_grown (S := P0_) hg (by repeat (first | (with_reducible first | exact HK.out | apply Kept.alloc | apply Kept.drewN | apply Kept.drew) | exact HK.out)) (fun k_ e_ => .inl (by injection e_ with e_; rw [← e_]; exact GP.out))); clear HB HK hg hw HP0; have HB := n1_; have HK := n2_; clear n1_ n2_; clear hxd_0 hxd_1 hxd_2 hxd_3 hxd_4 hxd_5 hxd_6 hxd_7 hfd_0 hfd_1 hfd_2 hfd_3 hfd_4 hfd_5 hfd_6 hfd_7 ged cod chd; have HSe := HP; clear HP; obtain ⟨oke, ce, cle, cme, cce, cfe, coe, che⟩ := laws_markRecordS.at_ HSe p q; obtain ⟨ve, rfl, gee⟩ := k61_openM cme; have hxe_0 : we.cell? ⟨go, (x5_1 : Int).toNat * 8, none⟩ = some (.int .i64 (x1_1)) := cce 0 _ rfl; have hfe_0 : we.frozen? ⟨go, (x5_1 : Int).toNat * 8, none⟩ = false := cfe 0; have hxe_1 : we.cell? ⟨go, (x5_1 : Int).toNat * 8 + 1, none⟩ = some (.int .i64 (wrap64 (x1_1 + 1))) := cce 1 _ rfl; have hfe_1 : we.frozen? ⟨go, (x5_1 : Int).toNat * 8 + 1, none⟩ = false := cfe 1; have hxe_2 : we.cell? ⟨go, (x5_1 : Int).toNat * 8 + 2, none⟩ = some (.int .i64 (wrap64 ((wrap64 (x1_1 + 1)) + 1))) := cce 2 _ rfl; have hfe_2 : we.frozen? ⟨go, (x5_1 : Int).toNat * 8 + 2, none⟩ = false := cfe 2; have hxe_3 : we.cell? ⟨go, (x5_1 : Int).toNat * 8 + 3, none⟩ = some (.int .i64 (wrap64 ((wrap64 ((wrap64 (x1_1 + 1)) + 1)) + 1))) := cce 3 _ rfl; have hfe_3 : we.frozen? ⟨go, (x5_1 : Int).toNat * 8 + 3, none⟩ = false := cfe 3; have hxe_4 : we.cell? ⟨go, (x5_1 : Int).toNat * 8 + 4, none⟩ = some (.int .i64 (e.f4)) := cce 4 _ rfl; have hfe_4 : we.frozen? ⟨go, (x5_1 : Int).toNat * 8 + 4, none⟩ = false := cfe 4; have hxe_5 : we.cell? ⟨go, (x5_1 : Int).toNat * 8 + 5, none⟩ = some (ve) := cce 5 _ rfl; have hfe_5 : we.frozen? ⟨go, (x5_1 : Int).toNat * 8 + 5, none⟩ = false := cfe 5; have hxe_6 : we.cell? ⟨go, (x5_1 : Int).toNat * 8 + 6, none⟩ = some (.int .i64 (e.f6)) := cce 6 _ rfl; have hfe_6 : we.frozen? ⟨go, (x5_1 : Int).toNat * 8 + 6, none⟩ = false := cfe 6; have hxe_7 : we.cell? ⟨go, (x5_1 : Int).toNat * 8 + 7, none⟩ = some (.bool (e.f7)) := cce 7 _ rfl; have hfe_7 : we.frozen? ⟨go, (x5_1 : Int).toNat * 8 + 7, none⟩ = false := cfe 7; clear cle cme cce cfe) | ((with_reducible refine gate_store (t := 3) (p := 44) rfl ?_); refine store_event (t := 3) (p := 44) (v := ?vo_wf) (w1 := (we.setCell ⟨go, (x5_1 : Int).toNat * 8 + 4, none⟩ (.int .i64 (wrap64 ((wrap64 ((wrap64 ((wrap64 (x1_1 + 1)) + 1)) + 1)) + 1))))) ?hg ?ho ?hn ?hr ?_; (case ho => rfl); (case hg => rfl); (case hn => rfl); (case hr => first | (go_simp; done) | (go_simp; rfl)); intro wf hw; have HP0 := laws_markRecordS.put_ (x' := (⟨x1_1, wrap64 (x1_1 + 1), wrap64 ((wrap64 (x1_1 + 1)) + 1), wrap64 ((wrap64 ((wrap64 (x1_1 + 1)) + 1)) + 1), wrap64 ((wrap64 ((wrap64 ((wrap64 (x1_1 + 1)) + 1)) + 1)) + 1), e.f5, e.f6, e.f7⟩ : S61)) (u := .int .i64 (wrap64 ((wrap64 ((wrap64 ((wrap64 (x1_1 + 1)) + 1)) + 1)) + 1))) (j := 4) che p q (show 4 + 1 ≤ 8 by decide) (k61_mkM _ _ _ (⟨x1_1, wrap64 (x1_1 + 1), wrap64 ((wrap64 (x1_1 + 1)) + 1), wrap64 ((wrap64 ((wrap64 (x1_1 + 1)) + 1)) + 1), wrap64 ((wrap64 ((wrap64 ((wrap64 (x1_1 + 1)) + 1)) + 1)) + 1), e.f5, e.f6, e.f7⟩ : S61) gee) (fun _ h_ => h_); have hg : we.grownBy wf (some go) := (by rw [hw]; exact HP0.2); have HP : Kd.S k61 61 wf w0.heap.size P0_ (.slice (some ⟨go, 0, none⟩) x0_1.length co7) (x0_1.set (x5_1 : Int).toNat (⟨x1_1, wrap64 (x1_1 + 1), wrap64 ((wrap64 (x1_1 + 1)) + 1), wrap64 ((wrap64 ((wrap64 (x1_1 + 1)) + 1)) + 1), wrap64 ((wrap64 ((wrap64 ((wrap64 (x1_1 + 1)) + 1)) + 1)) + 1), e.f5, e.f6, e.f7⟩ : S61)) := (by rw [hw]; exact HP0.1); have n1_ := Aside0.mk ((by rw [hw]; exact below_set (HB.out) GB.out : Below w0.heap.size w0 wf)); have n2_ := Aside0.mk (Kept.of_grown (S := P0_) hg (by repeat (first | (with_reducible first | exact HK.out | apply Kept.alloc | apply Kept.drewN | apply Kept.drew) | exact HK.out)) (fun k_ e_ => .inl (by injection e_ with e_; rw [← e_]; exact GP.out))); clear HB HK hg hw HP0; have HB := n1_; have HK := n2_; clear n1_ n2_; clear hxe_0 hxe_1 hxe_2 hxe_3 hxe_4 hxe_5 hxe_6 hxe_7 hfe_0 hfe_1 hfe_2 hfe_3 hfe_4 hfe_5 hfe_6 hfe_7 gee coe che; have HSf := HP; clear HP; obtain ⟨okf, cf, clf, cmf, ccf, cff, cof, chf⟩ := laws_markRecordS.at_ HSf p q; obtain ⟨vf, rfl, gef⟩ := k61_openM cmf; have hxf_0 : wf.cell? ⟨go, (x5_1 : Int).toNat * 8, none⟩ = some (.int .i64 (x1_1)) := ccf 0 _ rfl; have hff_0 : wf.frozen? ⟨go, (x5_1 : Int).toNat * 8, none⟩ = false := cff 0; have hxf_1 : wf.cell? ⟨go, (x5_1 : Int).toNat * 8 + 1, none⟩ = some (.int .i64 (wrap64 (x1_1 + 1))) := ccf 1 _ rfl; have hff_1 : wf.frozen? ⟨go, (x5_1 : Int).toNat * 8 + 1, none⟩ = false := cff 1; have hxf_2 : wf.cell? ⟨go, (x5_1 : Int).toNat * 8 + 2, none⟩ = some (.int .i64 (wrap64 ((wrap64 (x1_1 + 1)) + 1))) := ccf 2 _ rfl; have hff_2 : wf.frozen? ⟨go, (x5_1 : Int).toNat * 8 + 2, none⟩ = false := cff 2; have hxf_3 : wf.cell? ⟨go, (x5_1 : Int).toNat * 8 + 3, none⟩ = some (.int .i64 (wrap64 ((wrap64 ((wrap64 (x1_1 + 1)) + 1)) + 1))) := ccf 3 _ rfl; have hff_3 : wf.frozen? ⟨go, (x5_1 : Int).toNat * 8 + 3, none⟩ = false := cff 3; have hxf_4 : wf.cell? ⟨go, (x5_1 : Int).toNat * 8 + 4, none⟩ = some (.int .i64 (wrap64 ((wrap64 ((wrap64 ((wrap64 (x1_1 + 1)) + 1)) + 1)) + 1))) := ccf 4 _ rfl; have hff_4 : wf.frozen? ⟨go, (x5_1 : Int).toNat * 8 + 4, none⟩ = false := cff 4; have hxf_5 : wf.cell? ⟨go, (x5_1 : Int).toNat * 8 + 5, none⟩ = some (vf) := ccf 5 _ rfl; have hff_5 : wf.frozen? ⟨go, (x5_1 : Int).toNat * 8 + 5, none⟩ = false := cff 5; have hxf_6 : wf.cell? ⟨go, (x5_1 : Int).toNat * 8 + 6, none⟩ = some (.int .i64 (e.f6)) := ccf 6 _ rfl; have hff_6 : wf.frozen? ⟨go, (x5_1 : Int).toNat * 8 + 6, none⟩ = false := cff 6; have hxf_7 : wf.cell? ⟨go, (x5_1 : Int).toNat * 8 + 7, none⟩ = some (.bool (e.f7)) := ccf 7 _ rfl; have hff_7 : wf.frozen? ⟨go, (x5_1 : Int).toNat * 8 + 7, none⟩ = false := cff 7; clear clf cmf ccf cff) | ((with_reducible refine gate_callee (f := 100) rfl ?_); refine goesL_ (some 53) rfl rfl Try.func100 (by kernel_rfl) rfl #[vf, .int .i64 (wrap64 ((wrap64 ((wrap64 ((wrap64 ((wrap64 (x1_1 + 1)) + 1)) + 1)) + 1)) + 1))] rfl mp_q ?_; (with_reducible refine (laws_markNearS.calls k1 okf vf e.f5 (wrap64 ((wrap64 ((wrap64 ((wrap64 ((wrap64 (x1_1 + 1)) + 1)) + 1)) + 1)) + 1)) t y w0 _ ?side1 ?side2 A.out).mono ?_); (case side1 => exact (bw_q HB)); (case side2 => (with_reducible repeat (first | apply Kd.R_alloc | apply Kd.R_drewN | apply Kd.R_drew)); exact gef); rintro e_ wg ⟨rfl, hR, hb, hk⟩; refine ⟨_, rfl, ?_⟩; have HP := laws_markRecordS.call_ (x' := (⟨x1_1, wrap64 (x1_1 + 1), wrap64 ((wrap64 (x1_1 + 1)) + 1), wrap64 ((wrap64 ((wrap64 (x1_1 + 1)) + 1)) + 1), wrap64 ((wrap64 ((wrap64 ((wrap64 (x1_1 + 1)) + 1)) + 1)) + 1), y, e.f6, e.f7⟩ : S61)) chf hk (k61_mkM _ _ _ (⟨x1_1, wrap64 (x1_1 + 1), wrap64 ((wrap64 (x1_1 + 1)) + 1), wrap64 ((wrap64 ((wrap64 (x1_1 + 1)) + 1)) + 1), wrap64 ((wrap64 ((wrap64 ((wrap64 (x1_1 + 1)) + 1)) + 1)) + 1), y, e.f6, e.f7⟩ : S61) (Kd.R_mono (Kd.R_tight rfl hR) (fun k_ hk_ => gef.1 k_ hk_.symm))) (fun _ h_ => h_); have n1_ := Aside0.mk hb; have n2_ := Aside0.mk (Kept.then_ HK.out hk (fun k_ h_ => .inl (cof k_ h_).1)); clear HB HK hR hb hk; have HB := n1_; have HK := n2_; clear n1_ n2_; clear hxf_0 hxf_1 hxf_2 hxf_3 hxf_4 hxf_5 hxf_6 hxf_7 hff_0 hff_1 hff_2 hff_3 hff_4 hff_5 hff_6 hff_7 gef cof chf; have HSg := HP; clear HP; obtain ⟨okg, cg, clg, cmg, ccg, cfg, cog, chg⟩ := laws_markRecordS.at_ HSg p q; obtain ⟨vg, rfl, geg⟩ := k61_openM cmg; have hxg_0 : wg.cell? ⟨go, (x5_1 : Int).toNat * 8, none⟩ = some (.int .i64 (x1_1)) := ccg 0 _ rfl; have hfg_0 : wg.frozen? ⟨go, (x5_1 : Int).toNat * 8, none⟩ = false := cfg 0; have hxg_1 : wg.cell? ⟨go, (x5_1 : Int).toNat * 8 + 1, none⟩ = some (.int .i64 (wrap64 (x1_1 + 1))) := ccg 1 _ rfl; have hfg_1 : wg.frozen? ⟨go, (x5_1 : Int).toNat * 8 + 1, none⟩ = false := cfg 1; have hxg_2 : wg.cell? ⟨go, (x5_1 : Int).toNat * 8 + 2, none⟩ = some (.int .i64 (wrap64 ((wrap64 (x1_1 + 1)) + 1))) := ccg 2 _ rfl; have hfg_2 : wg.frozen? ⟨go, (x5_1 : Int).toNat * 8 + 2, none⟩ = false := cfg 2; have hxg_3 : wg.cell? ⟨go, (x5_1 : Int).toNat * 8 + 3, none⟩ = some (.int .i64 (wrap64 ((wrap64 ((wrap64 (x1_1 + 1)) + 1)) + 1))) := ccg 3 _ rfl; have hfg_3 : wg.frozen? ⟨go, (x5_1 : Int).toNat * 8 + 3, none⟩ = false := cfg 3; have hxg_4 : wg.cell? ⟨go, (x5_1 : Int).toNat * 8 + 4, none⟩ = some (.int .i64 (wrap64 ((wrap64 ((wrap64 ((wrap64 (x1_1 + 1)) + 1)) + 1)) + 1))) := ccg 4 _ rfl; have hfg_4 : wg.frozen? ⟨go, (x5_1 : Int).toNat * 8 + 4, none⟩ = false := cfg 4; have hxg_5 : wg.cell? ⟨go, (x5_1 : Int).toNat * 8 + 5, none⟩ = some (vg) := ccg 5 _ rfl; have hfg_5 : wg.frozen? ⟨go, (x5_1 : Int).toNat * 8 + 5, none⟩ = false := cfg 5; have hxg_6 : wg.cell? ⟨go, (x5_1 : Int).toNat * 8 + 6, none⟩ = some (.int .i64 (e.f6)) := ccg 6 _ rfl; have hfg_6 : wg.frozen? ⟨go, (x5_1 : Int).toNat * 8 + 6, none⟩ = false := cfg 6; have hxg_7 : wg.cell? ⟨go, (x5_1 : Int).toNat * 8 + 7, none⟩ = some (.bool (e.f7)) := ccg 7 _ rfl; have hfg_7 : wg.frozen? ⟨go, (x5_1 : Int).toNat * 8 + 7, none⟩ = false := cfg 7; clear clg cmg ccg cfg) | ((with_reducible refine gate_store (t := 3) (p := 58) rfl ?_); refine store_event (t := 3) (p := 58) (v := ?vo_wh) (w1 := (wg.setCell ⟨go, (x5_1 : Int).toNat * 8 + 6, none⟩ (.int .i64 t))) ?hg ?ho ?hn ?hr ?_; (case ho => rfl); (case hg => rfl); (case hn => rfl); (case hr => first | (go_simp; done) | (go_simp; rfl)); intro wh hw; have HP0 := laws_markRecordS.put_ (x' := (⟨x1_1, wrap64 (x1_1 + 1), wrap64 ((wrap64 (x1_1 + 1)) + 1), wrap64 ((wrap64 ((wrap64 (x1_1 + 1)) + 1)) + 1), wrap64 ((wrap64 ((wrap64 ((wrap64 (x1_1 + 1)) + 1)) + 1)) + 1), y, t, e.f7⟩ : S61)) (u := .int .i64 t) (j := 6) chg p q (show 6 + 1 ≤ 8 by decide) (k61_mkM _ _ _ (⟨x1_1, wrap64 (x1_1 + 1), wrap64 ((wrap64 (x1_1 + 1)) + 1), wrap64 ((wrap64 ((wrap64 (x1_1 + 1)) + 1)) + 1), wrap64 ((wrap64 ((wrap64 ((wrap64 (x1_1 + 1)) + 1)) + 1)) + 1), y, t, e.f7⟩ : S61) geg) (fun _ h_ => h_); have hg : wg.grownBy wh (some go) := (by rw [hw]; exact HP0.2); have HP : Kd.S k61 61 wh w0.heap.size P0_ (.slice (some ⟨go, 0, none⟩) x0_1.length co7) (x0_1.set (x5_1 : Int).toNat (⟨x1_1, wrap64 (x1_1 + 1), wrap64 ((wrap64 (x1_1 + 1)) + 1), wrap64 ((wrap64 ((wrap64 (x1_1 + 1)) + 1)) + 1), wrap64 ((wrap64 ((wrap64 ((wrap64 (x1_1 + 1)) + 1)) + 1)) + 1), y, t, e.f7⟩ : S61)) := (by rw [hw]; exact HP0.1); have n1_ := Aside0.mk ((by rw [hw]; exact below_set (HB.out) GB.out : Below w0.heap.size w0 wh)); have n2_ := Aside0.mk (Kept.of_grown (S := P0_) hg (by repeat (first | (with_reducible first | exact HK.out | apply Kept.alloc | apply Kept.drewN | apply Kept.drew) | exact HK.out)) (fun k_ e_ => .inl (by injection e_ with e_; rw [← e_]; exact GP.out))); clear HB HK hg hw HP0; have HB := n1_; have HK := n2_; clear n1_ n2_; clear hxg_0 hxg_1 hxg_2 hxg_3 hxg_4 hxg_5 hxg_6 hxg_7 hfg_0 hfg_1 hfg_2 hfg_3 hfg_4 hfg_5 hfg_6 hfg_7 geg cog chg; have HSh := HP; clear HP; obtain ⟨okh, ch, clh, cmh, cch, cfh, coh, chh⟩ := laws_markRecordS.at_ HSh p q; obtain ⟨vh, rfl, geh⟩ := k61_openM cmh; have hxh_0 : wh.cell? ⟨go, (x5_1 : Int).toNat * 8, none⟩ = some (.int .i64 (x1_1)) := cch 0 _ rfl; have hfh_0 : wh.frozen? ⟨go, (x5_1 : Int).toNat * 8, none⟩ = false := cfh 0; have hxh_1 : wh.cell? ⟨go, (x5_1 : Int).toNat * 8 + 1, none⟩ = some (.int .i64 (wrap64 (x1_1 + 1))) := cch 1 _ rfl; have hfh_1 : wh.frozen? ⟨go, (x5_1 : Int).toNat * 8 + 1, none⟩ = false := cfh 1; have hxh_2 : wh.cell? ⟨go, (x5_1 : Int).toNat * 8 + 2, none⟩ = some (.int .i64 (wrap64 ((wrap64 (x1_1 + 1)) + 1))) := cch 2 _ rfl; have hfh_2 : wh.frozen? ⟨go, (x5_1 : Int).toNat * 8 + 2, none⟩ = false := cfh 2; have hxh_3 : wh.cell? ⟨go, (x5_1 : Int).toNat * 8 + 3, none⟩ = some (.int .i64 (wrap64 ((wrap64 ((wrap64 (x1_1 + 1)) + 1)) + 1))) := cch 3 _ rfl; have hfh_3 : wh.frozen? ⟨go, (x5_1 : Int).toNat * 8 + 3, none⟩ = false := cfh 3; have hxh_4 : wh.cell? ⟨go, (x5_1 : Int).toNat * 8 + 4, none⟩ = some (.int .i64 (wrap64 ((wrap64 ((wrap64 ((wrap64 (x1_1 + 1)) + 1)) + 1)) + 1))) := cch 4 _ rfl; have hfh_4 : wh.frozen? ⟨go, (x5_1 : Int).toNat * 8 + 4, none⟩ = false := cfh 4; have hxh_5 : wh.cell? ⟨go, (x5_1 : Int).toNat * 8 + 5, none⟩ = some (vh) := cch 5 _ rfl; have hfh_5 : wh.frozen? ⟨go, (x5_1 : Int).toNat * 8 + 5, none⟩ = false := cfh 5; have hxh_6 : wh.cell? ⟨go, (x5_1 : Int).toNat * 8 + 6, none⟩ = some (.int .i64 (t)) := cch 6 _ rfl; have hfh_6 : wh.frozen? ⟨go, (x5_1 : Int).toNat * 8 + 6, none⟩ = false := cfh 6; have hxh_7 : wh.cell? ⟨go, (x5_1 : Int).toNat * 8 + 7, none⟩ = some (.bool (e.f7)) := cch 7 _ rfl; have hfh_7 : wh.frozen? ⟨go, (x5_1 : Int).toNat * 8 + 7, none⟩ = false := cfh 7; clear clh cmh cch cfh) | ((with_reducible refine gate_store (t := 4) (p := 67) rfl ?_); refine store_event (t := 4) (p := 67) (v := ?vo_wi) (w1 := (wh.setCell ⟨go, (x5_1 : Int).toNat * 8 + 7, none⟩ (.bool ((Int.tmod (wrap64 (t + 1)) 3) == 0)))) ?hg ?ho ?hn ?hr ?_; (case ho => rfl); (case hg => rfl); (case hn => rfl); (case hr => first | (go_simp; done) | (go_simp; rfl)); intro wi hw; have HP0 := laws_markRecordS.put_ (x' := (⟨x1_1, wrap64 (x1_1 + 1), wrap64 ((wrap64 (x1_1 + 1)) + 1), wrap64 ((wrap64 ((wrap64 (x1_1 + 1)) + 1)) + 1), wrap64 ((wrap64 ((wrap64 ((wrap64 (x1_1 + 1)) + 1)) + 1)) + 1), y, t, (Int.tmod (wrap64 (t + 1)) 3) == 0⟩ : S61)) (u := .bool ((Int.tmod (wrap64 (t + 1)) 3) == 0)) (j := 7) chh p q (show 7 + 1 ≤ 8 by decide) (k61_mkM _ _ _ (⟨x1_1, wrap64 (x1_1 + 1), wrap64 ((wrap64 (x1_1 + 1)) + 1), wrap64 ((wrap64 ((wrap64 (x1_1 + 1)) + 1)) + 1), wrap64 ((wrap64 ((wrap64 ((wrap64 (x1_1 + 1)) + 1)) + 1)) + 1), y, t, (Int.tmod (wrap64 (t + 1)) 3) == 0⟩ : S61) geh) (fun _ h_ => h_); have hg : wh.grownBy wi (some go) := (by rw [hw]; exact HP0.2); have HP : Kd.S k61 61 wi w0.heap.size P0_ (.slice (some ⟨go, 0, none⟩) x0_1.length co7) (x0_1.set (x5_1 : Int).toNat (⟨x1_1, wrap64 (x1_1 + 1), wrap64 ((wrap64 (x1_1 + 1)) + 1), wrap64 ((wrap64 ((wrap64 (x1_1 + 1)) + 1)) + 1), wrap64 ((wrap64 ((wrap64 ((wrap64 (x1_1 + 1)) + 1)) + 1)) + 1), y, t, (Int.tmod (wrap64 (t + 1)) 3) == 0⟩ : S61)) := (by rw [hw]; exact HP0.1); have n1_ := Aside0.mk ((by rw [hw]; exact below_set (HB.out) GB.out : Below w0.heap.size w0 wi)); have n2_ := Aside0.mk (Kept.of_grown (S := P0_) hg (by repeat (first | (with_reducible first | exact HK.out | apply Kept.alloc | apply Kept.drewN | apply Kept.drew) | exact HK.out)) (fun k_ e_ => .inl (by injection e_ with e_; rw [← e_]; exact GP.out))); clear HB HK hg hw HP0; have HB := n1_; have HK := n2_; clear n1_ n2_; clear hxh_0 hxh_1 hxh_2 hxh_3 hxh_4 hxh_5 hxh_6 hxh_7 hfh_0 hfh_1 hfh_2 hfh_3 hfh_4 hfh_5 hfh_6 hfh_7 geh coh chh; have HSi := HP; clear HP))
     go_roundg k1
     case measure => have := HK1.out; omega
     case rel => exact ⟨_, (wrap64 ((wrap64 (t + 1)) + 1)), (wrap64 (x5_1 + 1)), (by first | rfl | (simp; done) | (simp [*]; done)), (by first | rfl | (simp; done) | (simp [*]; done)), H', ⟨by have := HK1.out; omega⟩, ⟨by (with_reducible repeat (first | apply Kd.S_alloc | apply Kd.S_drewN | apply Kd.S_drew)); exact HSi⟩, ⟨by repeat (first | (with_reducible first | exact HK.out | apply Kept.alloc | apply Kept.drewN | apply Kept.drew) | exact HK.out)⟩, ⟨bw_q HB⟩⟩
    ·rw [if_neg c4] at H
     exact absurd H (by simp)
   ·rw [if_neg c3] at H
    have c3b0 : decide (x5_1 < (x0_1.length : Int)) = false := decide_eq_false c3
    clear c3
    simp only [Option.some.injEq, Prod.mk.injEq] at H
    obtain ⟨rfl, rfl⟩ := H
    obtain ⟨Ao12, co12, eo12⟩ := Kd.S_slice HO.out
    subst eo12
    go_wp2
    go_ret
    exact ⟨er_q, by (with_reducible repeat (first | apply Kd.S_alloc | apply Kd.S_drewN | apply Kd.S_drew)); exact HO.out, bw_q HB, by repeat (first | (with_reducible first | exact HK.out | apply Kept.alloc | apply Kept.drewN | apply Kept.drew) | exact HK.out)⟩

end Go.Proofs.Ythjmdiggglkeaaa.Q

/- A Go function as a Lean function, and its contract: for every input the Go code comes to what the Lean function tells. -/


namespace Go.Proofs.Ythjmdiggglkeaaa.Q
open Go.RowKit Go.Proofs.YthjmdiggglkeaaaW.PrintWords Go.Proofs.YthjmdiggglkeaaaW.PrintLast Go.Proofs.YthjmdiggglkeaaaW.PrintMore
attribute [local go_sem] max2_int min2_int max_two min_two max_three min_three max_four min_four   -- for this text's walks alone
set_option linter.unusedVariables false
set_option linter.unusedSimpArgs false

/-! ### laws_markRecord: function 39 -/
def laws_markRecord.f (k : Nat) (a0_0 : Int) (a0_1 : Int) (a0_2 : Int) (a0_3 : Int) (a0_4 : Int) (l0_5 : List (S127)) (a0_6 : Int) (a0_7 : Bool) (a1 : Int) : Option (Int × (List (S127))) := (laws_markNearS.f k l0_5 a1).bind fun bt912 => (some (bt912.1, bt912.2))
theorem laws_markRecord.mono : ∀ a0 a1 a2 a3 a4 a5 a6 a7 a8 k, LeO (laws_markRecord.f k a0 a1 a2 a3 a4 a5 a6 a7 a8) (laws_markRecord.f (k + 1) a0 a1 a2 a3 a4 a5 a6 a7 a8) := by
 intro a0 a1 a2 a3 a4 a5 a6 a7 a8 k
 unfold laws_markRecord.f
 repeat' first
   | (with_reducible exact laws_markNearS.mono _ _ _)
   | (with_reducible exact LeO.refl _)
   | (with_reducible exact LeO.none _)
   | (with_reducible refine LeO.ite ?_ ?_)
   | (with_reducible refine LeO.bind ?_ (fun _ => ?_))
   | exact laws_markNearS.mono _ _ _
   | exact LeO.none _
   | refine LeO.ite ?_ ?_
   | refine LeO.bind ?_ (fun _ => ?_)
set_option maxHeartbeats 8000000 in
set_option maxRecDepth 100000 in
theorem laws_markRecord.calls (k : Nat) (a0_0 : Int) (a0_1 : Int) (a0_2 : Int) (a0_3 : Int) (a0_4 : Int) (P0_5_ : Nat → Prop) (u9000_ : Value) (l0_5 : List (S127)) (a0_6 : Int) (a0_7 : Bool) (a1 : Int) (r1 : Int) (r2 : List (S127)) (w0 w : World) (hB : Below w0.heap.size w0 w) (ho0_5 : Kd.R k127 127 w w0.heap.size P0_5_ u9000_ l0_5) (h : laws_markRecord.f k a0_0 a0_1 a0_2 a0_3 a0_4 l0_5 a0_6 a0_7 a1 = some (r1, r2)) :
  Calls Try.prog 39 #[.agg #[.int .i64 a0_0, .int .i64 a0_1, .int .i64 a0_2, .int .i64 a0_3, .int .i64 a0_4, u9000_, .int .i64 a0_6, .bool a0_7], .int .i64 a1] w fun e w' => e = .returned (.int .i64 r1) ∧ Kd.R k127 127 w' w0.heap.size (fun k_ => (P0_5_ k_ ∨ w.heap.size ≤ k_)) u9000_ r2 ∧ Below w0.heap.size w0 w' ∧ Kept w w' (fun k_ => P0_5_ k_) := by
 have hu61 := Try.underlying61
 have HO0_5 := Aside0.mk (show Kd.R k127 127 w w0.heap.size (fun k_ => (P0_5_ k_ ∨ w.heap.size ≤ k_)) u9000_ l0_5 from Kd.R_mono ho0_5 (fun k_ hk => (.inl hk)))
 have HK := Aside0.mk (Kept.refl w (fun k_ => P0_5_ k_))
 have HW0 := Aside0.mk hB.size
 have HB := Aside0.mk hB
 clear hB
 have H : ((laws_markNearS.f k l0_5 a1).bind fun bt912 => (some (bt912.1, bt912.2))) = some (r1, r2) := h
 clear h
 replace H := Option.bind_eq_some_iff.mp H
 obtain ⟨⟨t912, t913⟩, A30, H⟩ := H
 replace H : (some (t912, t913)) = some (r1, r2) := H
 have A3 := Aside0.mk A30
 clear A30
 simp only [Option.some.injEq, Prod.mk.injEq] at H
 obtain ⟨rfl, rfl⟩ := H
 obtain ⟨Ao4, co4, eo4⟩ := Kd.R_slice HO0_5.out
 subst eo4
 go_enter Try.func39, Try.ntmps39
 go_wp2_with (first | ((with_reducible refine gate_dst (N := 2) rfl ?_); refine box_q 2 #[.int .i64 a0_0, .int .i64 a0_1, .int .i64 a0_2, .int .i64 a0_3, .int .i64 a0_4, .slice Ao4 l0_5.length co4, .int .i64 a0_6, .bool a0_7] 61 ?_; intro gb911 hg w5 hbox hb; replace HO0_5 := Aside0.mk (Kd.R_below (kR_q HO0_5) hb); have BK911 := Aside0.mk (hbox); have GW911 := Aside0.mk ((by rw [hg]; exact (by first | exact HK.out.1 | exact (show Kept w _ (fun k_ => P0_5_ k_) from by repeat (first | (with_reducible first | exact HK.out | apply Kept.alloc | apply Kept.drewN | apply Kept.drew) | exact HK.out)).1) : w.heap.size ≤ gb911)); replace HK := Aside0.mk (Kept.below (S := (fun k_ => P0_5_ k_)) (by repeat (first | (with_reducible first | exact HK.out | apply Kept.alloc | apply Kept.drewN | apply Kept.drew) | exact HK.out)) hb); have GE911 := Aside0.mk ((by rw [hg]; exact (below_size (bw_q HB)) : w0.heap.size ≤ gb911)); replace HB := Aside0.mk (below_step (bw_q HB) hb); clear hb hbox hg; have hcz6_0 : w5.cell? ⟨gb911, 0, none⟩ = some (.int .i64 a0_0) := (blk_cell BK911.out 0).trans rfl; have hcz6_1 : w5.cell? ⟨gb911, 1, none⟩ = some (.int .i64 a0_1) := (blk_cell BK911.out 1).trans rfl; have hcz6_2 : w5.cell? ⟨gb911, 2, none⟩ = some (.int .i64 a0_2) := (blk_cell BK911.out 2).trans rfl; have hcz6_3 : w5.cell? ⟨gb911, 3, none⟩ = some (.int .i64 a0_3) := (blk_cell BK911.out 3).trans rfl; have hcz6_4 : w5.cell? ⟨gb911, 4, none⟩ = some (.int .i64 a0_4) := (blk_cell BK911.out 4).trans rfl; have hcz6_5 : w5.cell? ⟨gb911, 5, none⟩ = some (.slice Ao4 l0_5.length co4) := (blk_cell BK911.out 5).trans rfl; have hcz6_6 : w5.cell? ⟨gb911, 6, none⟩ = some (.int .i64 a0_6) := (blk_cell BK911.out 6).trans rfl; have hcz6_7 : w5.cell? ⟨gb911, 7, none⟩ = some (.bool a0_7) := (blk_cell BK911.out 7).trans rfl; have hfz6_0 := blk_frozen BK911.out 0; have hfz6_1 := blk_frozen BK911.out 1; have hfz6_2 := blk_frozen BK911.out 2; have hfz6_3 := blk_frozen BK911.out 3; have hfz6_4 := blk_frozen BK911.out 4; have hfz6_5 := blk_frozen BK911.out 5; have hfz6_6 := blk_frozen BK911.out 6; have hfz6_7 := blk_frozen BK911.out 7) | ((with_reducible refine gate_callee (f := 100) rfl ?_); refine goesL_ (some 8) rfl rfl Try.func100 (by kernel_rfl) rfl #[.slice Ao4 l0_5.length co4, .int .i64 a1] rfl mp_q ?_; (with_reducible refine (laws_markNearS.calls k (fun k_ => some k_ = (.slice Ao4 l0_5.length co4 : Value).ownBlock) (.slice Ao4 l0_5.length co4) l0_5 a1 t912 t913 w0 _ ?side1 ?side2 A3.out).mono ?_); (case side1 => repeat (first | (with_reducible first | exact HB.out | apply below_alloc | apply pw_below_drewN | apply below_drew1 | refine below_set ?_ GE911.out) | exact HB.out)); (case side2 => exact Kd.R_tight rfl HO0_5.out); rintro e w7 ⟨rfl, hy0, hb, hkp⟩; refine ⟨_, rfl, ?_⟩; replace BK911 := Aside0.mk (blk_kept (bk_q BK911) hkp (fun hs_ => (fun e_ => (Kd.R_ne HO0_5.out BK911.out (by decide)) e_) hs_)); replace HK := Aside0.mk (Kept.then_ (S := (fun k_ => P0_5_ k_)) (by repeat (first | (with_reducible first | exact HK.out | apply Kept.alloc | apply Kept.drewN | apply Kept.drew | refine Kept.setCell ?_ (.inr GW911.out) _) | exact HK.out)) hkp (fun k_ hs_ => (fun e_ => (HO0_5.out.1 k_ e_.symm)) hs_)); replace HO0_5 := Aside0.mk (Kd.R_reok rfl hy0 (fun k_ e_ => HO0_5.out.1 k_ e_)); replace HB := Aside0.mk (hb); (try clear hb); (try clear hkp); (try clear hy0)))
 go_ret
 exact ⟨er_q, by (with_reducible repeat (first | apply Kd.R_alloc | apply Kd.R_drewN | apply Kd.R_drew)); exact HO0_5.out, bw_q HB, by repeat (first | (with_reducible first | exact HK.out | apply Kept.alloc | apply Kept.drewN | apply Kept.drew | refine Kept.setCell ?_ (.inr GW911.out) _) | exact HK.out)⟩

end Go.Proofs.Ythjmdiggglkeaaa.Q

/- A Go function as a Lean function, and its contract: for every input the Go code comes to what the Lean function tells. -/

namespace Go.Proofs.Ythjmdiggglkeaaa.Q
open Go.RowKit Go.Proofs.YthjmdiggglkeaaaW.PrintWords Go.Proofs.YthjmdiggglkeaaaW.PrintLast Go.Proofs.YthjmdiggglkeaaaW.PrintMore
attribute [local go_sem] max2_int min2_int max_two min_two max_three min_three max_four min_four   -- for this text's walks alone
set_option linter.unusedVariables false
set_option linter.unusedSimpArgs false

/-! ### laws_heldNearS: function 103 -/
def laws_heldNearS.l0 : Nat → List (S127) → Int → Int → Option (Int)
 | 0, _, _, _ => none
 | k + 1, x0, x1, x5 => if x5 < (x0.length : Int) then (if 0 ≤ x5 then (if ((rd_T127 x0 x5).f0) = x1 then (if ((rd_T127 x0 x5).f1) = (wrap64 (x1 + 1)) then (laws_heldNearS.l0 k x0 (wrap64 ((wrap64 (x1 + 1)) + 1)) (wrap64 (x5 + 1))) else (some (-1))) else (some (-1))) else (none)) else (some x1)
def laws_heldNearS.f (k : Nat) (l0 : List (S127)) (a1 : Int) : Option (Int) := laws_heldNearS.l0 k l0 a1 0
theorem laws_heldNearS.mono_l : ∀ k, (∀ y0 y1 y2, LeO (laws_heldNearS.l0 k y0 y1 y2) (laws_heldNearS.l0 (k + 1) y0 y1 y2))
 | 0 => fun _ _ _ r h => by simp [laws_heldNearS.l0] at h
 | k + 1 => by
  have ih0 := laws_heldNearS.mono_l k
  ·intro y0 y1 y2
   unfold laws_heldNearS.l0
   repeat' first
   | (with_reducible exact ih0 _ _ _)
   | (with_reducible exact LeO.refl _)
   | (with_reducible exact LeO.none _)
   | (with_reducible refine LeO.ite ?_ ?_)
   | (with_reducible refine LeO.bind ?_ (fun _ => ?_))
   | exact ih0 _ _ _
   | exact LeO.none _
   | refine LeO.ite ?_ ?_
   | refine LeO.bind ?_ (fun _ => ?_)
theorem laws_heldNearS.mono : ∀ a0 a1 k, LeO (laws_heldNearS.f k a0 a1) (laws_heldNearS.f (k + 1) a0 a1) := by
 intro a0 a1 k
 have ih0 := laws_heldNearS.mono_l k
 unfold laws_heldNearS.f
 repeat' first
   | (with_reducible exact ih0 _ _ _)
   | (with_reducible exact LeO.refl _)
   | (with_reducible exact LeO.none _)
   | (with_reducible refine LeO.ite ?_ ?_)
   | (with_reducible refine LeO.bind ?_ (fun _ => ?_))
   | exact ih0 _ _ _
   | exact LeO.none _
   | refine LeO.ite ?_ ?_
   | refine LeO.bind ?_ (fun _ => ?_)
set_option maxHeartbeats 8000000 in
set_option maxRecDepth 100000 in
theorem laws_heldNearS.calls (k : Nat) (A0 : Option Addr) (c0 : Nat) (l0 : List (S127)) (a1 : Int) (r : Int) (w : World) (hr0 : Kd.C k127 w A0 l0.length l0) (hc0 : l0.length ≤ c0) (h : laws_heldNearS.f k l0 a1 = some r) :
  Calls Try.prog 103 #[.slice A0 l0.length c0, .int .i64 a1] w fun e w' => e = .returned (.int .i64 r) ∧ Drawn0 w w' := by
 have HR0 := Aside0.mk hr0
 have HC0 := Aside0.mk hc0
 clear hr0 hc0
 have H : (laws_heldNearS.l0 k l0 a1 0) = some r := h
 clear h
 have H' := Aside0.mk H
 clear H
 go_enter Try.func103, Try.ntmps103
 go_wp2
 go_loopg [1, 5] k (fun kq v1 v5 w' => ∃ (x1_1 : Int) (x5_1 : Int), v1 = .int .i64 x1_1 ∧ v5 = .int .i64 x5_1 ∧ Aside0 (laws_heldNearS.l0 kq l0 x1_1 x5_1 = some r) ∧ Aside0 (kq ≤ k) ∧ Drawn0 w w')
 case atStart => exact ⟨(a1), (0), (by first | rfl | (simp; done) | (simp [*]; done)), (by first | rfl | (simp; done) | (simp [*]; done)), H', ⟨Nat.le_refl _⟩, by repeat (first | exact Drawn0.refl _ | apply Drawn0.step)⟩
 case round =>
  clear H'
  try clear c1
  try clear p2
  obtain ⟨x1_1, x5_1, rfl, rfl, HA, HK1, ⟨m1, rfl⟩⟩ := hrel
  cases gk with
  | zero => exact absurd HA.out (by simp [laws_heldNearS.l0])
  | succ k1 =>
   have H := HA.out
   clear HA
   simp only [laws_heldNearS.l0] at H
   by_cases c3 : x5_1 < (l0.length : Int)
   ·rw [if_pos c3] at H
    have c3b0 : decide (x5_1 < (l0.length : Int)) = true := decide_eq_true c3
    clear c3
    by_cases c4 : 0 ≤ x5_1
    ·rw [if_pos c4] at H
     have c4b0 : decide (0 ≤ x5_1) = true := decide_eq_true c4
     clear c4
     have HC5 := Aside0.mk H
     clear H
     have p756 : 0 ≤ (x5_1 : Int) := of_decide_eq_true as_q
     have q756 : x5_1 < (l0.length : Int) := of_decide_eq_true as_q
     obtain ⟨ad756, e756, hx756_0, hx756_1⟩ := at_T127 HR0.out x5_1 p756 q756
     cases e756
     replace p756 := eq_true p756
     replace q756 := eq_true q756
     go_upto_if 18 with (fail)
     (try clear hx756_0); (try clear hx756_1)
     have H := HC5.out
     clear HC5
     by_cases c6 : ((rd_T127 l0 x5_1).f0) = x1_1
     ·rw [if_pos c6] at H
      have c6b0 : (((rd_T127 l0 x5_1).f0) == x1_1) = true := beq_iff_eq.mpr c6
      have c6b1 : (((rd_T127 l0 x5_1).f0) != x1_1) = false := bne_eq_false_iff_eq.mpr c6
      clear c6
      (first | rw [c6b0] | rw [c6b1] | (simp only [i64_w, i32_w]; first | rw [c6b0] | rw [c6b1]) | skip)
      have HC7 := Aside0.mk H
      clear H
      have p757 : 0 ≤ (x5_1 : Int) := of_decide_eq_true as_q
      have q757 : x5_1 < (l0.length : Int) := of_decide_eq_true as_q
      obtain ⟨ad757, e757, hx757_0, hx757_1⟩ := at_T127 HR0.out x5_1 p757 q757
      obtain rfl : ad756 = ad757 := (by injection e757)
      replace p757 := eq_true p757
      replace q757 := eq_true q757
      go_upto_if 27 with (fail)
      (try clear hx757_0); (try clear hx757_1)
      have H := HC7.out
      clear HC7
      by_cases c8 : ((rd_T127 l0 x5_1).f1) = (wrap64 (x1_1 + 1))
      ·rw [if_pos c8] at H
       have c8b0 : (((rd_T127 l0 x5_1).f1) == (wrap64 (x1_1 + 1))) = true := beq_iff_eq.mpr c8
       have c8b1 : (((rd_T127 l0 x5_1).f1) != (wrap64 (x1_1 + 1))) = false := bne_eq_false_iff_eq.mpr c8
       clear c8
       (first | rw [c8b0] | rw [c8b1] | (simp only [i64_w, i32_w]; first | rw [c8b0] | rw [c8b1]) | skip)
       have H' := Aside0.mk H
       clear H
       go_wp2
       go_roundg k1
       case measure => have := HK1.out; omega
       case rel => exact ⟨(wrap64 ((wrap64 (x1_1 + 1)) + 1)), (wrap64 (x5_1 + 1)), (by first | rfl | (simp; done) | (simp [*]; done)), (by first | rfl | (simp; done) | (simp [*]; done)), H', ⟨by have := HK1.out; omega⟩, by repeat (first | exact Drawn0.refl _ | apply Drawn0.step)⟩
      ·rw [if_neg c8] at H
       have c8b0 : (((rd_T127 l0 x5_1).f1) == (wrap64 (x1_1 + 1))) = false := beq_eq_false_iff_ne.mpr c8
       have c8b1 : (((rd_T127 l0 x5_1).f1) != (wrap64 (x1_1 + 1))) = true := bne_iff_ne.mpr c8
       (first | rw [c8b0] | rw [c8b1] | (simp only [i64_w, i32_w]; first | rw [c8b0] | rw [c8b1]) | skip)
       obtain rfl := Option.some.inj H
       go_wp2
       go_ret
       exact ⟨by first | rfl | (simp; done) | (simp [*]; done), by repeat (first | exact Drawn0.refl _ | apply Drawn0.step)⟩
     ·rw [if_neg c6] at H
      have c6b0 : (((rd_T127 l0 x5_1).f0) == x1_1) = false := beq_eq_false_iff_ne.mpr c6
      have c6b1 : (((rd_T127 l0 x5_1).f0) != x1_1) = true := bne_iff_ne.mpr c6
      (first | rw [c6b0] | rw [c6b1] | (simp only [i64_w, i32_w]; first | rw [c6b0] | rw [c6b1]) | skip)
      obtain rfl := Option.some.inj H
      go_wp2
      go_ret
      exact ⟨by first | rfl | (simp; done) | (simp [*]; done), by repeat (first | exact Drawn0.refl _ | apply Drawn0.step)⟩
    ·rw [if_neg c4] at H
     exact absurd H (by simp)
   ·rw [if_neg c3] at H
    have c3b0 : decide (x5_1 < (l0.length : Int)) = false := decide_eq_false c3
    clear c3
    obtain rfl := Option.some.inj H
    go_wp2
    go_ret
    exact ⟨by first | rfl | (simp; done) | (simp [*]; done), by repeat (first | exact Drawn0.refl _ | apply Drawn0.step)⟩

end Go.Proofs.Ythjmdiggglkeaaa.Q

/- A Go function as a Lean function, and its contract: for every input the Go code comes to what the Lean function tells. -/


namespace Go.Proofs.Ythjmdiggglkeaaa.Q
open Go.RowKit Go.Proofs.YthjmdiggglkeaaaW.PrintWords Go.Proofs.YthjmdiggglkeaaaW.PrintLast Go.Proofs.YthjmdiggglkeaaaW.PrintMore
attribute [local go_sem] max2_int min2_int max_two min_two max_three min_three max_four min_four   -- for this text's walks alone
set_option linter.unusedVariables false
set_option linter.unusedSimpArgs false

/-! ### laws_heldRecordS: function 33 -/
def laws_heldRecordS.l0 : Nat → List (S61) → Int → Int → Option (Int)
 | 0, _, _, _ => none
 | k + 1, x0, x1, x5 => if x5 < (x0.length : Int) then (if 0 ≤ x5 then (if ((rd_T61 x0 x5).f0) = x1 then (if ((rd_T61 x0 x5).f1) = (wrap64 (x1 + 1)) then (if ((rd_T61 x0 x5).f2) = (wrap64 ((wrap64 (x1 + 1)) + 1)) then (if ((rd_T61 x0 x5).f3) = (wrap64 ((wrap64 ((wrap64 (x1 + 1)) + 1)) + 1)) then (if ((rd_T61 x0 x5).f4) = (wrap64 ((wrap64 ((wrap64 ((wrap64 (x1 + 1)) + 1)) + 1)) + 1)) then ((laws_heldNearS.f k ((rd_T61 x0 x5).f5) (wrap64 ((wrap64 ((wrap64 ((wrap64 ((wrap64 (x1 + 1)) + 1)) + 1)) + 1)) + 1))).bind fun t764 => (if t764 < 0 then (some (-1)) else (if ((rd_T61 x0 x5).f6) = t764 then (if (((rd_T61 x0 x5).f7) != ((Int.tmod (wrap64 (t764 + 1)) 3) == 0)) = true then (some (-1)) else (laws_heldRecordS.l0 k x0 (wrap64 ((wrap64 (t764 + 1)) + 1)) (wrap64 (x5 + 1)))) else (some (-1))))) else (some (-1))) else (some (-1))) else (some (-1))) else (some (-1))) else (some (-1))) else (none)) else (some x1)
def laws_heldRecordS.f (k : Nat) (l0 : List (S61)) (a1 : Int) : Option (Int) := laws_heldRecordS.l0 k l0 a1 0
theorem laws_heldRecordS.mono_l : ∀ k, (∀ y0 y1 y2, LeO (laws_heldRecordS.l0 k y0 y1 y2) (laws_heldRecordS.l0 (k + 1) y0 y1 y2))
 | 0 => fun _ _ _ r h => by simp [laws_heldRecordS.l0] at h
 | k + 1 => by
  have ih0 := laws_heldRecordS.mono_l k
  ·intro y0 y1 y2
   unfold laws_heldRecordS.l0
   repeat' first
   | (with_reducible exact ih0 _ _ _)
   | (with_reducible exact laws_heldNearS.mono _ _ _)
   | (with_reducible exact LeO.refl _)
   | (with_reducible exact LeO.none _)
   | (with_reducible refine LeO.ite ?_ ?_)
   | (with_reducible refine LeO.bind ?_ (fun _ => ?_))
   | exact ih0 _ _ _
   | exact laws_heldNearS.mono _ _ _
   | exact LeO.none _
   | refine LeO.ite ?_ ?_
   | refine LeO.bind ?_ (fun _ => ?_)
theorem laws_heldRecordS.mono : ∀ a0 a1 k, LeO (laws_heldRecordS.f k a0 a1) (laws_heldRecordS.f (k + 1) a0 a1) := by
 intro a0 a1 k
 have ih0 := laws_heldRecordS.mono_l k
 unfold laws_heldRecordS.f
 repeat' first
   | (with_reducible exact ih0 _ _ _)
   | (with_reducible exact laws_heldNearS.mono _ _ _)
   | (with_reducible exact LeO.refl _)
   | (with_reducible exact LeO.none _)
   | (with_reducible refine LeO.ite ?_ ?_)
   | (with_reducible refine LeO.bind ?_ (fun _ => ?_))
   | exact ih0 _ _ _
   | exact laws_heldNearS.mono _ _ _
   | exact LeO.none _
   | refine LeO.ite ?_ ?_
   | refine LeO.bind ?_ (fun _ => ?_)
set_option maxHeartbeats 8000000 in
set_option maxRecDepth 100000 in
theorem laws_heldRecordS.calls (k : Nat) (A0 : Option Addr) (c0 : Nat) (l0 : List (S61)) (a1 : Int) (r : Int) (w : World) (hr0 : Kd.C k61 w A0 l0.length l0) (hc0 : l0.length ≤ c0) (h : laws_heldRecordS.f k l0 a1 = some r) :
  Calls Try.prog 33 #[.slice A0 l0.length c0, .int .i64 a1] w fun e w' => e = .returned (.int .i64 r) ∧ Drawn0 w w' := by
 have HR0 := Aside0.mk hr0
 have HC0 := Aside0.mk hc0
 clear hr0 hc0
 have H : (laws_heldRecordS.l0 k l0 a1 0) = some r := h
 clear h
 have H' := Aside0.mk H
 clear H
 go_enter Try.func33, Try.ntmps33
 go_wp2
 go_loopg [1, 5] k (fun kq v1 v5 w' => ∃ (x1_1 : Int) (x5_1 : Int), v1 = .int .i64 x1_1 ∧ v5 = .int .i64 x5_1 ∧ Aside0 (laws_heldRecordS.l0 kq l0 x1_1 x5_1 = some r) ∧ Aside0 (kq ≤ k) ∧ Drawn0 w w')
 case atStart => exact ⟨(a1), (0), (by first | rfl | (simp; done) | (simp [*]; done)), (by first | rfl | (simp; done) | (simp [*]; done)), H', ⟨Nat.le_refl _⟩, by repeat (first | exact Drawn0.refl _ | apply Drawn0.step)⟩
 case round =>
  clear H'
  try clear p2
  obtain ⟨x1_1, x5_1, rfl, rfl, HA, HK1, ⟨m1, rfl⟩⟩ := hrel
  cases gk with
  | zero => exact absurd HA.out (by simp [laws_heldRecordS.l0])
  | succ k1 =>
   have H := HA.out
   clear HA
   simp only [laws_heldRecordS.l0] at H
   by_cases c3 : x5_1 < (l0.length : Int)
   ·rw [if_pos c3] at H
    have c3b0 : decide (x5_1 < (l0.length : Int)) = true := decide_eq_true c3
    clear c3
    by_cases c4 : 0 ≤ x5_1
    ·rw [if_pos c4] at H
     have c4b0 : decide (0 ≤ x5_1) = true := decide_eq_true c4
     clear c4
     have HC5 := Aside0.mk H
     clear H
     have p758 : 0 ≤ (x5_1 : Int) := of_decide_eq_true as_q
     have q758 : x5_1 < (l0.length : Int) := of_decide_eq_true as_q
     obtain ⟨ad758, A758_5, c758_5, e758, hx758_0, hx758_1, hx758_2, hx758_3, hx758_4, hx758_5, hx758_6, hx758_7, hl758_5, hi758_5⟩ := at_T61 HR0.out x5_1 p758 q758
     cases e758
     have HR758_5 := Aside0.mk hi758_5
     have HC758_5 := Aside0.mk hl758_5
     clear hi758_5 hl758_5
     replace p758 := eq_true p758
     replace q758 := eq_true q758
     go_upto_if 18 with (fail)
     (try clear hx758_0); (try clear hx758_1); (try clear hx758_2); (try clear hx758_3); (try clear hx758_4); (try clear hx758_5); (try clear hx758_6); (try clear hx758_7)
     have H := HC5.out
     clear HC5
     by_cases c6 : ((rd_T61 l0 x5_1).f0) = x1_1
     ·rw [if_pos c6] at H
      have c6b0 : (((rd_T61 l0 x5_1).f0) == x1_1) = true := beq_iff_eq.mpr c6
      have c6b1 : (((rd_T61 l0 x5_1).f0) != x1_1) = false := bne_eq_false_iff_eq.mpr c6
      clear c6
      (first | rw [c6b0] | rw [c6b1] | (simp only [i64_w, i32_w]; first | rw [c6b0] | rw [c6b1]) | skip)
      have HC7 := Aside0.mk H
      clear H
      have p759 : 0 ≤ (x5_1 : Int) := of_decide_eq_true as_q
      have q759 : x5_1 < (l0.length : Int) := of_decide_eq_true as_q
      obtain ⟨ad759, A759_5, c759_5, e759, hx759_0, hx759_1, hx759_2, hx759_3, hx759_4, hx759_5, hx759_6, hx759_7, hl759_5, hi759_5⟩ := at_T61 HR0.out x5_1 p759 q759
      obtain rfl : ad758 = ad759 := (by injection e759)
      have HR759_5 := Aside0.mk hi759_5
      have HC759_5 := Aside0.mk hl759_5
      clear hi759_5 hl759_5
      replace p759 := eq_true p759
      replace q759 := eq_true q759
      go_upto_if 27 with (fail)
      (try clear hx759_0); (try clear hx759_1); (try clear hx759_2); (try clear hx759_3); (try clear hx759_4); (try clear hx759_5); (try clear hx759_6); (try clear hx759_7)
      have H := HC7.out
      clear HC7
      by_cases c8 : ((rd_T61 l0 x5_1).f1) = (wrap64 (x1_1 + 1))
      ·rw [if_pos c8] at H
       have c8b0 : (((rd_T61 l0 x5_1).f1) == (wrap64 (x1_1 + 1))) = true := beq_iff_eq.mpr c8
       have c8b1 : (((rd_T61 l0 x5_1).f1) != (wrap64 (x1_1 + 1))) = false := bne_eq_false_iff_eq.mpr c8
       clear c8
       (first | rw [c8b0] | rw [c8b1] | (simp only [i64_w, i32_w]; first | rw [c8b0] | rw [c8b1]) | skip)
       have HC9 := Aside0.mk H
       clear H
       have p760 : 0 ≤ (x5_1 : Int) := of_decide_eq_true as_q
       have q760 : x5_1 < (l0.length : Int) := of_decide_eq_true as_q
       obtain ⟨ad760, A760_5, c760_5, e760, hx760_0, hx760_1, hx760_2, hx760_3, hx760_4, hx760_5, hx760_6, hx760_7, hl760_5, hi760_5⟩ := at_T61 HR0.out x5_1 p760 q760
       obtain rfl : ad758 = ad760 := (by injection e760)
       have HR760_5 := Aside0.mk hi760_5
       have HC760_5 := Aside0.mk hl760_5
       clear hi760_5 hl760_5
       replace p760 := eq_true p760
       replace q760 := eq_true q760
       go_upto_if 36 with (fail)
       (try clear hx760_0); (try clear hx760_1); (try clear hx760_2); (try clear hx760_3); (try clear hx760_4); (try clear hx760_5); (try clear hx760_6); (try clear hx760_7)
       have H := HC9.out
       clear HC9
       by_cases c10 : ((rd_T61 l0 x5_1).f2) = (wrap64 ((wrap64 (x1_1 + 1)) + 1))
       ·rw [if_pos c10] at H
        have c10b0 : (((rd_T61 l0 x5_1).f2) == (wrap64 ((wrap64 (x1_1 + 1)) + 1))) = true := beq_iff_eq.mpr c10
        have c10b1 : (((rd_T61 l0 x5_1).f2) != (wrap64 ((wrap64 (x1_1 + 1)) + 1))) = false := bne_eq_false_iff_eq.mpr c10
        clear c10
        (first | rw [c10b0] | rw [c10b1] | (simp only [i64_w, i32_w]; first | rw [c10b0] | rw [c10b1]) | skip)
        have HC11 := Aside0.mk H
        clear H
        have p761 : 0 ≤ (x5_1 : Int) := of_decide_eq_true as_q
        have q761 : x5_1 < (l0.length : Int) := of_decide_eq_true as_q
        obtain ⟨ad761, A761_5, c761_5, e761, hx761_0, hx761_1, hx761_2, hx761_3, hx761_4, hx761_5, hx761_6, hx761_7, hl761_5, hi761_5⟩ := at_T61 HR0.out x5_1 p761 q761
        obtain rfl : ad758 = ad761 := (by injection e761)
        have HR761_5 := Aside0.mk hi761_5
        have HC761_5 := Aside0.mk hl761_5
        clear hi761_5 hl761_5
        replace p761 := eq_true p761
        replace q761 := eq_true q761
        go_upto_if 45 with (fail)
        (try clear hx761_0); (try clear hx761_1); (try clear hx761_2); (try clear hx761_3); (try clear hx761_4); (try clear hx761_5); (try clear hx761_6); (try clear hx761_7)
        have H := HC11.out
        clear HC11
        by_cases c12 : ((rd_T61 l0 x5_1).f3) = (wrap64 ((wrap64 ((wrap64 (x1_1 + 1)) + 1)) + 1))
        ·rw [if_pos c12] at H
         have c12b0 : (((rd_T61 l0 x5_1).f3) == (wrap64 ((wrap64 ((wrap64 (x1_1 + 1)) + 1)) + 1))) = true := beq_iff_eq.mpr c12
         have c12b1 : (((rd_T61 l0 x5_1).f3) != (wrap64 ((wrap64 ((wrap64 (x1_1 + 1)) + 1)) + 1))) = false := bne_eq_false_iff_eq.mpr c12
         clear c12
         (first | rw [c12b0] | rw [c12b1] | (simp only [i64_w, i32_w]; first | rw [c12b0] | rw [c12b1]) | skip)
         have HC13 := Aside0.mk H
         clear H
         have p762 : 0 ≤ (x5_1 : Int) := of_decide_eq_true as_q
         have q762 : x5_1 < (l0.length : Int) := of_decide_eq_true as_q
         obtain ⟨ad762, A762_5, c762_5, e762, hx762_0, hx762_1, hx762_2, hx762_3, hx762_4, hx762_5, hx762_6, hx762_7, hl762_5, hi762_5⟩ := at_T61 HR0.out x5_1 p762 q762
         obtain rfl : ad758 = ad762 := (by injection e762)
         have HR762_5 := Aside0.mk hi762_5
         have HC762_5 := Aside0.mk hl762_5
         clear hi762_5 hl762_5
         replace p762 := eq_true p762
         replace q762 := eq_true q762
         go_upto_if 54 with (fail)
         (try clear hx762_0); (try clear hx762_1); (try clear hx762_2); (try clear hx762_3); (try clear hx762_4); (try clear hx762_5); (try clear hx762_6); (try clear hx762_7)
         have H := HC13.out
         clear HC13
         by_cases c14 : ((rd_T61 l0 x5_1).f4) = (wrap64 ((wrap64 ((wrap64 ((wrap64 (x1_1 + 1)) + 1)) + 1)) + 1))
         ·rw [if_pos c14] at H
          have c14b0 : (((rd_T61 l0 x5_1).f4) == (wrap64 ((wrap64 ((wrap64 ((wrap64 (x1_1 + 1)) + 1)) + 1)) + 1))) = true := beq_iff_eq.mpr c14
          have c14b1 : (((rd_T61 l0 x5_1).f4) != (wrap64 ((wrap64 ((wrap64 ((wrap64 (x1_1 + 1)) + 1)) + 1)) + 1))) = false := bne_eq_false_iff_eq.mpr c14
          clear c14
          (first | rw [c14b0] | rw [c14b1] | (simp only [i64_w, i32_w]; first | rw [c14b0] | rw [c14b1]) | skip)
          replace H := Option.bind_eq_some_iff.mp H
          obtain ⟨t764, A150, H⟩ := H
          replace H : (if t764 < 0 then (some (-1)) else (if ((rd_T61 l0 x5_1).f6) = t764 then (if (((rd_T61 l0 x5_1).f7) != ((Int.tmod (wrap64 (t764 + 1)) 3) == 0)) = true then (some (-1)) else (laws_heldRecordS.l0 k1 l0 (wrap64 ((wrap64 (t764 + 1)) + 1)) (wrap64 (x5_1 + 1)))) else (some (-1)))) = some r := H
          have A15 := Aside0.mk A150
          clear A150
          have HC16 := Aside0.mk H
          clear H
          have p763 : 0 ≤ (x5_1 : Int) := of_decide_eq_true as_q
          have q763 : x5_1 < (l0.length : Int) := of_decide_eq_true as_q
          obtain ⟨ad763, A763_5, c763_5, e763, hx763_0, hx763_1, hx763_2, hx763_3, hx763_4, hx763_5, hx763_6, hx763_7, hl763_5, hi763_5⟩ := at_T61 HR0.out x5_1 p763 q763
          obtain rfl : ad758 = ad763 := (by injection e763)
          have HR763_5 := Aside0.mk hi763_5
          have HC763_5 := Aside0.mk hl763_5
          clear hi763_5 hl763_5
          replace p763 := eq_true p763
          replace q763 := eq_true q763
          go_upto_if 65 with (first | ((with_reducible refine gate_callee (f := 103) rfl ?_); refine goesL_ (some 63) rfl rfl Try.func103 (by kernel_rfl) rfl #[.slice A763_5 ((rd_T61 l0 x5_1).f5).length c763_5, .int .i64 (wrap64 ((wrap64 ((wrap64 ((wrap64 ((wrap64 (x1_1 + 1)) + 1)) + 1)) + 1)) + 1))] rfl mp_q ?_; (with_reducible refine (laws_heldNearS.calls k1 _ _ ((rd_T61 l0 x5_1).f5) (wrap64 ((wrap64 ((wrap64 ((wrap64 ((wrap64 (x1_1 + 1)) + 1)) + 1)) + 1)) + 1)) t764 _ ?side1 ?side2 A15.out).mono ?_); (case side1 => repeat (first | exact HR763_5.out | (with_reducible refine Kd.C_alloc ?_ _) | (with_reducible refine Kd.C_drewN ?_ _) | (with_reducible refine Kd.C_drew ?_))); (case side2 => exact HC763_5.out); rintro e w' ⟨rfl, ⟨nd, rfl⟩⟩; refine ⟨_, rfl, ?_⟩))
          (try clear hx763_0); (try clear hx763_1); (try clear hx763_2); (try clear hx763_3); (try clear hx763_4); (try clear hx763_5); (try clear hx763_6); (try clear hx763_7)
          have H := HC16.out
          clear HC16
          by_cases c17 : t764 < 0
          ·rw [if_pos c17] at H
           have c17b0 : decide (t764 < 0) = true := decide_eq_true c17
           clear c17
           (first | rw [c17b0] | rw [c17b1] | (simp only [i64_w, i32_w]; first | rw [c17b0] | rw [c17b1]) | skip)
           obtain rfl := Option.some.inj H
           go_wp2
           go_ret
           exact ⟨by first | rfl | (simp; done) | (simp [*]; done), by repeat (first | exact Drawn0.refl _ | apply Drawn0.step)⟩
          ·rw [if_neg c17] at H
           have c17b0 : decide (t764 < 0) = false := decide_eq_false c17
           clear c17
           (first | rw [c17b0] | rw [c17b1] | (simp only [i64_w, i32_w]; first | rw [c17b0] | rw [c17b1]) | skip)
           have HC18 := Aside0.mk H
           clear H
           have p765 : 0 ≤ (x5_1 : Int) := of_decide_eq_true as_q
           have q765 : x5_1 < (l0.length : Int) := of_decide_eq_true as_q
           obtain ⟨ad765, A765_5, c765_5, e765, hx765_0, hx765_1, hx765_2, hx765_3, hx765_4, hx765_5, hx765_6, hx765_7, hl765_5, hi765_5⟩ := at_T61 HR0.out x5_1 p765 q765
           obtain rfl : ad758 = ad765 := (by injection e765)
           have HR765_5 := Aside0.mk hi765_5
           have HC765_5 := Aside0.mk hl765_5
           clear hi765_5 hl765_5
           replace p765 := eq_true p765
           replace q765 := eq_true q765
           go_upto_if 72 with (fail)
           (try clear hx765_0); (try clear hx765_1); (try clear hx765_2); (try clear hx765_3); (try clear hx765_4); (try clear hx765_5); (try clear hx765_6); (try clear hx765_7)
           have H := HC18.out
           clear HC18
           by_cases c19 : ((rd_T61 l0 x5_1).f6) = t764
           ·rw [if_pos c19] at H
            have c19b0 : (((rd_T61 l0 x5_1).f6) == t764) = true := beq_iff_eq.mpr c19
            have c19b1 : (((rd_T61 l0 x5_1).f6) != t764) = false := bne_eq_false_iff_eq.mpr c19
            clear c19
            (first | rw [c19b0] | rw [c19b1] | (simp only [i64_w, i32_w]; first | rw [c19b0] | rw [c19b1]) | skip)
            by_cases c20 : (((rd_T61 l0 x5_1).f7) != ((Int.tmod (wrap64 (t764 + 1)) 3) == 0)) = true
            ·rw [if_pos c20] at H
             have c20b0 : (((rd_T61 l0 x5_1).f7) != ((Int.tmod (wrap64 (t764 + 1)) 3) == 0)) = true := c20
             (try (have c20b1 : decide (((rd_T61 l0 x5_1).f7) = ((Int.tmod (wrap64 (t764 + 1)) 3) == 0)) = false := by simpa using c20))
             (try (have c20b2 : (((rd_T61 l0 x5_1).f7) == ((Int.tmod (wrap64 (t764 + 1)) 3) == 0)) = false := by simpa using c20))
             (try (have c20b3 : ¬ (((rd_T61 l0 x5_1).f7) = ((Int.tmod (wrap64 (t764 + 1)) 3) == 0)) := by simpa using c20))
             clear c20
             obtain rfl := Option.some.inj H
             have p766 : 0 ≤ (x5_1 : Int) := of_decide_eq_true as_q
             have q766 : x5_1 < (l0.length : Int) := of_decide_eq_true as_q
             obtain ⟨ad766, A766_5, c766_5, e766, hx766_0, hx766_1, hx766_2, hx766_3, hx766_4, hx766_5, hx766_6, hx766_7, hl766_5, hi766_5⟩ := at_T61 HR0.out x5_1 p766 q766
             obtain rfl : ad758 = ad766 := (by injection e766)
             have HR766_5 := Aside0.mk hi766_5
             have HC766_5 := Aside0.mk hl766_5
             clear hi766_5 hl766_5
             replace p766 := eq_true p766
             replace q766 := eq_true q766
             go_wp2
             go_ret
             exact ⟨by first | rfl | (simp; done) | (simp [*]; done), by repeat (first | exact Drawn0.refl _ | apply Drawn0.step)⟩
            ·rw [if_neg c20] at H
             have c20b0 : (((rd_T61 l0 x5_1).f7) != ((Int.tmod (wrap64 (t764 + 1)) 3) == 0)) = false := by simpa using c20
             (try (have c20b1 : decide (((rd_T61 l0 x5_1).f7) = ((Int.tmod (wrap64 (t764 + 1)) 3) == 0)) = true := by simpa using c20))
             (try (have c20b2 : (((rd_T61 l0 x5_1).f7) == ((Int.tmod (wrap64 (t764 + 1)) 3) == 0)) = true := by simpa using c20))
             clear c20
             have H' := Aside0.mk H
             clear H
             have p766 : 0 ≤ (x5_1 : Int) := of_decide_eq_true as_q
             have q766 : x5_1 < (l0.length : Int) := of_decide_eq_true as_q
             obtain ⟨ad766, A766_5, c766_5, e766, hx766_0, hx766_1, hx766_2, hx766_3, hx766_4, hx766_5, hx766_6, hx766_7, hl766_5, hi766_5⟩ := at_T61 HR0.out x5_1 p766 q766
             obtain rfl : ad758 = ad766 := (by injection e766)
             have HR766_5 := Aside0.mk hi766_5
             have HC766_5 := Aside0.mk hl766_5
             clear hi766_5 hl766_5
             replace p766 := eq_true p766
             replace q766 := eq_true q766
             go_wp2
             go_roundg k1
             case measure => have := HK1.out; omega
             case rel => exact ⟨(wrap64 ((wrap64 (t764 + 1)) + 1)), (wrap64 (x5_1 + 1)), (by first | rfl | (simp; done) | (simp [*]; done)), (by first | rfl | (simp; done) | (simp [*]; done)), H', ⟨by have := HK1.out; omega⟩, by repeat (first | exact Drawn0.refl _ | apply Drawn0.step)⟩
           ·rw [if_neg c19] at H
            have c19b0 : (((rd_T61 l0 x5_1).f6) == t764) = false := beq_eq_false_iff_ne.mpr c19
            have c19b1 : (((rd_T61 l0 x5_1).f6) != t764) = true := bne_iff_ne.mpr c19
            (first | rw [c19b0] | rw [c19b1] | (simp only [i64_w, i32_w]; first | rw [c19b0] | rw [c19b1]) | skip)
            obtain rfl := Option.some.inj H
            go_wp2
            go_ret
            exact ⟨by first | rfl | (simp; done) | (simp [*]; done), by repeat (first | exact Drawn0.refl _ | apply Drawn0.step)⟩
         ·rw [if_neg c14] at H
          have c14b0 : (((rd_T61 l0 x5_1).f4) == (wrap64 ((wrap64 ((wrap64 ((wrap64 (x1_1 + 1)) + 1)) + 1)) + 1))) = false := beq_eq_false_iff_ne.mpr c14
          have c14b1 : (((rd_T61 l0 x5_1).f4) != (wrap64 ((wrap64 ((wrap64 ((wrap64 (x1_1 + 1)) + 1)) + 1)) + 1))) = true := bne_iff_ne.mpr c14
          (first | rw [c14b0] | rw [c14b1] | (simp only [i64_w, i32_w]; first | rw [c14b0] | rw [c14b1]) | skip)
          obtain rfl := Option.some.inj H
          go_wp2
          go_ret
          exact ⟨by first | rfl | (simp; done) | (simp [*]; done), by repeat (first | exact Drawn0.refl _ | apply Drawn0.step)⟩
        ·rw [if_neg c12] at H
         have c12b0 : (((rd_T61 l0 x5_1).f3) == (wrap64 ((wrap64 ((wrap64 (x1_1 + 1)) + 1)) + 1))) = false := beq_eq_false_iff_ne.mpr c12
         have c12b1 : (((rd_T61 l0 x5_1).f3) != (wrap64 ((wrap64 ((wrap64 (x1_1 + 1)) + 1)) + 1))) = true := bne_iff_ne.mpr c12
         (first | rw [c12b0] | rw [c12b1] | (simp only [i64_w, i32_w]; first | rw [c12b0] | rw [c12b1]) | skip)
         obtain rfl := Option.some.inj H
         go_wp2
         go_ret
         exact ⟨by first | rfl | (simp; done) | (simp [*]; done), by repeat (first | exact Drawn0.refl _ | apply Drawn0.step)⟩
       ·rw [if_neg c10] at H
        have c10b0 : (((rd_T61 l0 x5_1).f2) == (wrap64 ((wrap64 (x1_1 + 1)) + 1))) = false := beq_eq_false_iff_ne.mpr c10
        have c10b1 : (((rd_T61 l0 x5_1).f2) != (wrap64 ((wrap64 (x1_1 + 1)) + 1))) = true := bne_iff_ne.mpr c10
        (first | rw [c10b0] | rw [c10b1] | (simp only [i64_w, i32_w]; first | rw [c10b0] | rw [c10b1]) | skip)
        obtain rfl := Option.some.inj H
        go_wp2
        go_ret
        exact ⟨by first | rfl | (simp; done) | (simp [*]; done), by repeat (first | exact Drawn0.refl _ | apply Drawn0.step)⟩
      ·rw [if_neg c8] at H
       have c8b0 : (((rd_T61 l0 x5_1).f1) == (wrap64 (x1_1 + 1))) = false := beq_eq_false_iff_ne.mpr c8
       have c8b1 : (((rd_T61 l0 x5_1).f1) != (wrap64 (x1_1 + 1))) = true := bne_iff_ne.mpr c8
       (first | rw [c8b0] | rw [c8b1] | (simp only [i64_w, i32_w]; first | rw [c8b0] | rw [c8b1]) | skip)
       obtain rfl := Option.some.inj H
       go_wp2
       go_ret
       exact ⟨by first | rfl | (simp; done) | (simp [*]; done), by repeat (first | exact Drawn0.refl _ | apply Drawn0.step)⟩
     ·rw [if_neg c6] at H
      have c6b0 : (((rd_T61 l0 x5_1).f0) == x1_1) = false := beq_eq_false_iff_ne.mpr c6
      have c6b1 : (((rd_T61 l0 x5_1).f0) != x1_1) = true := bne_iff_ne.mpr c6
      (first | rw [c6b0] | rw [c6b1] | (simp only [i64_w, i32_w]; first | rw [c6b0] | rw [c6b1]) | skip)
      obtain rfl := Option.some.inj H
      go_wp2
      go_ret
      exact ⟨by first | rfl | (simp; done) | (simp [*]; done), by repeat (first | exact Drawn0.refl _ | apply Drawn0.step)⟩
    ·rw [if_neg c4] at H
     exact absurd H (by simp)
   ·rw [if_neg c3] at H
    have c3b0 : decide (x5_1 < (l0.length : Int)) = false := decide_eq_false c3
    clear c3
    obtain rfl := Option.some.inj H
    go_wp2
    go_ret
    exact ⟨by first | rfl | (simp; done) | (simp [*]; done), by repeat (first | exact Drawn0.refl _ | apply Drawn0.step)⟩

end Go.Proofs.Ythjmdiggglkeaaa.Q
