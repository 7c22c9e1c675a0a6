import Derived.Test.YtnecbkognpponaaXReadPacketQx45
import Derived.Test.YtnecbkognpponaaXReadPacketQlawsmarkNearS
/- A Go function as a Lean function, and its contract: for every input the Go code comes to what the Lean function tells. The rows that are handed in are the call's own, as are the rows that they lead to. -/


namespace Go.Proofs.Ytnecbkognpponaa.Q
open Go.RowKit Go.Proofs.YtnecbkognpponaaW.PrintWords Go.Proofs.YtnecbkognpponaaW.PrintLast Go.Proofs.YtnecbkognpponaaW.PrintMore
attribute [local go_sem] max2_int min2_int max_two min_two max_three min_three max_four min_four   -- for this text's walks alone
set_option linter.unusedVariables false
set_option linter.unusedSimpArgs false

/-! ### laws_markRecordS: function 62 -/
def laws_markRecordS.l0 : Nat → List (S24) → Int → Int → Option (Int × (List (S24)))
  | 0, _, _, _ => none
  | k + 1, x0, x1, x5 => if x5 < (x0.length : Int) then (if 0 ≤ x5 then ((laws_markNearS.f k ((rd_T24 x0 x5).f5) (wrap64 ((wrap64 ((wrap64 ((wrap64 ((wrap64 (x1 + 1)) + 1)) + 1)) + 1)) + 1))).bind fun q => (laws_markRecordS.l0 k (x0.set (x5 : Int).toNat (⟨x1, wrap64 (x1 + 1), wrap64 ((wrap64 (x1 + 1)) + 1), wrap64 ((wrap64 ((wrap64 (x1 + 1)) + 1)) + 1), wrap64 ((wrap64 ((wrap64 ((wrap64 (x1 + 1)) + 1)) + 1)) + 1), q.2, q.1, (Int.tmod (wrap64 (q.1 + 1)) 3) == 0⟩ : S24)) (wrap64 ((wrap64 (q.1 + 1)) + 1)) (wrap64 (x5 + 1)))) else (none)) else (some (x1, x0))
def laws_markRecordS.f (k : Nat) (l0 : List (S24)) (a1 : Int) : Option (Int × (List (S24))) := laws_markRecordS.l0 k l0 a1 0
theorem laws_markRecordS.mono_l : ∀ k, (∀ y0 y1 y2, LeO (laws_markRecordS.l0 k y0 y1 y2) (laws_markRecordS.l0 (k + 1) y0 y1 y2))
  | 0 => fun _ _ _ r h => by simp [laws_markRecordS.l0] at h
  | k + 1 => by
    have ih0 := laws_markRecordS.mono_l k
    intro y0 y1 y2
    unfold laws_markRecordS.l0
    with_reducible repeat' (first | apply ih0 | apply laws_markNearS.mono | exact LeO.refl _ | exact LeO.none _ | refine LeO.ite ?_ ?_ | refine LeO.bind ?_ (fun _ => ?_))
theorem laws_markRecordS.mono : ∀ a0 a1 k, LeO (laws_markRecordS.f k a0 a1) (laws_markRecordS.f (k + 1) a0 a1) := by
  intro a0 a1 k
  exact laws_markRecordS.mono_l k _ _ _
/-- An element that is known, out of a row of the call's own. -/
theorem laws_markRecordS.at_ {d : Kd S24} {e base g n cap : Nat} {ok : Nat → Prop} {W : World} {xs : List S24} {x : S24} {i : Int} (h : Kd.S d e W base ok (.slice (some ⟨g, 0, none⟩) n cap) (xs.set i.toNat x)) (h0 : 0 ≤ i) (h1 : i < (n : Int)) :
    ∃ (oki : Nat → Prop) (c : List Value), c.length = d.sz ∧ d.M W base oki x c ∧ (∀ j u, c[j]? = some u → W.cell? ⟨g, i.toNat * d.sz + j, none⟩ = some u) ∧ (∀ j, W.frozen? ⟨g, i.toNat * d.sz + j, none⟩ = false) ∧ (∀ k, oki k → ok k ∧ k ≠ g) ∧ Kd.H d e W base ok (.slice (some ⟨g, 0, none⟩) n cap) (xs.set i.toNat x) i oki c := by
  have hn := (Kd.S_reads' h).1; obtain ⟨oki, c, a1, a2, a3, a4, a5, a6⟩ := Kd.S_elem h x i h0 h1; rw [List.length_set] at hn
  rw [List.getD_eq_getElem?_getD, List.getElem?_set_self (by omega)] at a2
  exact ⟨oki, c, a1, a2, a3, a4, a5, a6⟩
theorem laws_markRecordS.put_ {d : Kd S24} {e base g n cap : Nat} {ok oki okp : Nat → Prop} {W : World} {xs : List S24} {x x' : S24} {i : Int} {c : List Value} (hH : Kd.H d e W base ok (.slice (some ⟨g, 0, none⟩) n cap) (xs.set i.toNat x) i oki c) (h0 : 0 ≤ i) (h1 : i < (n : Int)) {u : Value} {j : Nat} (hj : j + 1 ≤ d.sz)
    (hM : d.M W base okp x' (c.take j ++ [u] ++ c.drop (j + 1))) (hokp : ∀ k, okp k → oki k) : Kd.S d e (W.setCell ⟨g, i.toNat * d.sz + j, none⟩ u) base ok (.slice (some ⟨g, 0, none⟩) n cap) (xs.set i.toNat x') ∧ W.grownBy (W.setCell ⟨g, i.toNat * d.sz + j, none⟩ u) (some g) := by
  have h := Kd.S_seg0 hH h0 h1 (seg := [u]) hj hM hokp; rw [List.set_set] at h
  exact h
theorem laws_markRecordS.call_ {d : Kd S24} {e base g n cap : Nat} {ok oki okp : Nat → Prop} {W W2 : World} {xs : List S24} {x x' : S24} {i : Int} {c : List Value} (hH : Kd.H d e W base ok (.slice (some ⟨g, 0, none⟩) n cap) (xs.set i.toNat x) i oki c) (hk : Kept W W2 oki)
    (hM : d.M W2 base okp x' c) (hokp : ∀ k, okp k → oki k) : Kd.S d e W2 base ok (.slice (some ⟨g, 0, none⟩) n cap) (xs.set i.toNat x') := by
  have h := Kd.H_back (Kd.H_kept hH hk (fun _ _ hn => hn)) hM hokp
  rw [List.set_set] at h
  exact h
theorem laws_markRecordS.start_ {xs : List S24} {i : Int} (h1 : i < (xs.length : Int)) (h0 : 0 ≤ i) : xs.set i.toNat (rd_T24 xs i) = xs := by
  unfold rd_T24
  rw [List.getD_eq_getElem?_getD, List.getElem?_eq_getElem (by omega)]
  exact List.set_getElem_self _
set_option maxHeartbeats 8000000 in
set_option maxRecDepth 100000 in
theorem laws_markRecordS.calls (k : Nat) (P0_ : Nat → Prop) (u9000_ : Value) (l0 : List (S24)) (a1 : Int) (r1 : Int) (r2 : List (S24)) (w0 w : World) (hB : Below w0.heap.size w0 w) (ho0 : Kd.S k24 24 w w0.heap.size P0_ u9000_ l0) (h : laws_markRecordS.f k l0 a1 = some (r1, r2)) :
    Calls Try.prog 62 #[u9000_, .int .i64 a1] w fun e w' => e = .returned (.int .i64 r1) ∧ Kd.S k24 24 w' w0.heap.size P0_ u9000_ r2 ∧ Below w0.heap.size w0 w' ∧ Kept w w' P0_ := by
  have Af := ak ho0; have HK := ak (Kept.refl w P0_); have HB := ak hB; clear hB ho0
  have H' := ak (show laws_markRecordS.l0 k l0 a1 0 = some (r1, r2) from h)
  clear h
  go_enter Try.func62, Try.ntmps62
  go_wp2
  go_loopg [1, 5] k (fun kq v1 v5 w' => ∃ (Ac : List (S24)) (Ab : Int) (Aa : Int), v1 = .int .i64 Ab ∧ v5 = .int .i64 Aa ∧ Aside0 (laws_markRecordS.l0 kq Ac Ab Aa = some (r1, r2)) ∧ Aside0 (kq ≤ k) ∧ Aside0 (Kd.S k24 24 w' w0.heap.size P0_ u9000_ Ac) ∧ Aside0 (Kept w w' P0_) ∧ Aside0 (Below w0.heap.size w0 w'))
  case atStart => exact ⟨l0, a1, 0, rs_q, rs_q, H', ⟨Nat.le_refl _⟩, ⟨kS_q Af⟩, ⟨hk_q HK⟩, ⟨(bw_q HB)⟩⟩
  case round =>
    clear H'; (try clear p2); obtain ⟨Ac, Ab, Aa, rfl, rfl, HA, Ad, HO, HK, HB⟩ := hrel
    cases gk with
    | zero => exact absurd HA.out (by simp [laws_markRecordS.l0])
    | succ k1 =>
      have H := HA.out; clear HA
      simp only [laws_markRecordS.l0] at H
      by_cases c3 : Aa < (Ac.length : Int)
      · rw [if_pos c3] at H
        have Ae : decide (Aa < (Ac.length : Int)) = true := decide_eq_true c3
        by_cases c4 : 0 ≤ Aa
        · rw [if_pos c4] at H
          have Ag : decide (0 ≤ Aa) = true := decide_eq_true c4
          replace H := bsi H; obtain ⟨⟨t, y⟩, A, H⟩ := H; have H' := ak H; clear H; have A := ak A; obtain ⟨Ao7, co7, eo7⟩ := Kd.S_slice HO.out; subst eo7
          obtain ⟨go, co, eo, gb, gl, cl, HG⟩ := Kd.S_form HO.out (by omega)
          (first | cases eo | (injection eo with ea_ en_ ec_; (first | subst ea_ | (injection ea_ with ea_; subst ea_)); subst ec_; clear en_))
          have GB := ak gb
          have GP := ak (show P0_ go from (Kd.S_R HO.out).1 go rfl)
          clear gb gl HG
          have p : 0 ≤ (Aa : Int) := c4
          have q : (Aa : Int) < ((Ac.length : Nat) : Int) := c3
          have HS : Kd.S k24 24 wr w0.heap.size P0_ (.slice (some ⟨go, 0, none⟩) Ac.length co7) (Ac.set (Aa : Int).toNat (rd_T24 Ac Aa)) := by rw [laws_markRecordS.start_ q p]; exact HO.out
          clear HO
          generalize rd_T24 Ac Aa = e at *
          obtain ⟨oka, ca, cla, cma, cca, cfa, coa, cha⟩ := laws_markRecordS.at_ HS p q; obtain ⟨va, rfl, gea⟩ := k24_openM cma
          have hxa_0 : wr.cell? ⟨go, (Aa : Int).toNat * 8, none⟩ = some (.int .i64 (e.f0)) := cca 0 _ rfl
          have hfa_0 : wr.frozen? ⟨go, (Aa : Int).toNat * 8, none⟩ = false := cfa 0
          have hxa_1 : wr.cell? ⟨go, (Aa : Int).toNat * 8 + 1, none⟩ = some (.int .i64 (e.f1)) := cca 1 _ rfl
          have hfa_1 : wr.frozen? ⟨go, (Aa : Int).toNat * 8 + 1, none⟩ = false := cfa 1
          have hxa_2 : wr.cell? ⟨go, (Aa : Int).toNat * 8 + 2, none⟩ = some (.int .i64 (e.f2)) := cca 2 _ rfl
          have hfa_2 : wr.frozen? ⟨go, (Aa : Int).toNat * 8 + 2, none⟩ = false := cfa 2
          have hxa_3 : wr.cell? ⟨go, (Aa : Int).toNat * 8 + 3, none⟩ = some (.int .i64 (e.f3)) := cca 3 _ rfl
          have hfa_3 : wr.frozen? ⟨go, (Aa : Int).toNat * 8 + 3, none⟩ = false := cfa 3
          have hxa_4 : wr.cell? ⟨go, (Aa : Int).toNat * 8 + 4, none⟩ = some (.int .i64 (e.f4)) := cca 4 _ rfl
          have hfa_4 : wr.frozen? ⟨go, (Aa : Int).toNat * 8 + 4, none⟩ = false := cfa 4
          have hxa_5 : wr.cell? ⟨go, (Aa : Int).toNat * 8 + 5, none⟩ = some (va) := cca 5 _ rfl
          have hfa_5 : wr.frozen? ⟨go, (Aa : Int).toNat * 8 + 5, none⟩ = false := cfa 5
          have hxa_6 : wr.cell? ⟨go, (Aa : Int).toNat * 8 + 6, none⟩ = some (.int .i64 (e.f6)) := cca 6 _ rfl
          have hfa_6 : wr.frozen? ⟨go, (Aa : Int).toNat * 8 + 6, none⟩ = false := cfa 6
          have hxa_7 : wr.cell? ⟨go, (Aa : Int).toNat * 8 + 7, none⟩ = some (.bool (e.f7)) := cca 7 _ rfl
          have hfa_7 : wr.frozen? ⟨go, (Aa : Int).toNat * 8 + 7, none⟩ = false := cfa 7
          clear cla cma cca cfa; have p_ := eq_true p; have q_ := eq_true q
          go_wp2_with (first | ((with_reducible refine gate_store (t := 3) (p := 16) rfl ?_); refine store_event (t := 3) (p := 16) (v := ?vo_wb) (w1 := (wr.setCell ⟨go, (Aa : Int).toNat * 8, none⟩ (.int .i64 Ab))) ?hg ?ho ?hn ?hr ?_; (case ho => rfl); (case hg => rfl); (case hn => rfl); (case hr => first | (go_simp; done) | (go_simp; rfl)); intro wb hw; have HP0 := laws_markRecordS.put_ (x' := (⟨Ab, e.f1, e.f2, e.f3, e.f4, e.f5, e.f6, e.f7⟩ : S24)) (u := .int .i64 Ab) (j := 0) cha p q (show 0 + 1 ≤ 8 by decide) (k24_mkM _ _ _ (⟨Ab, e.f1, e.f2, e.f3, e.f4, e.f5, e.f6, e.f7⟩ : S24) gea) (fun _ h_ => h_); have hg : wr.grownBy wb (some go) := (by rw [hw]; exact HP0.2); have HP : Kd.S k24 24 wb w0.heap.size P0_ (.slice (some ⟨go, 0, none⟩) Ac.length co7) (Ac.set (Aa : Int).toNat (⟨Ab, e.f1, e.f2, e.f3, e.f4, e.f5, e.f6, e.f7⟩ : S24)) := (by rw [hw]; exact HP0.1); have n1_ := ak ((by rw [hw]; exact below_set (HB.out) GB.out : Below w0.heap.size w0 wb)); have n2_ := ak (Kept.of_grown (S := P0_) hg (hk_q HK) (fun k_ e_ => .inl (by injection e_ with e_; rw [← e_]; exact GP.out))); clear HB HK hg hw HP0; have HB := n1_; have HK := n2_; clear n1_ n2_; clear hxa_0 hxa_1 hxa_2 hxa_3 hxa_4 hxa_5 hxa_6 hxa_7 hfa_0 hfa_1 hfa_2 hfa_3 hfa_4 hfa_5 hfa_6 hfa_7 gea coa cha; have HSb := HP; clear HP; obtain ⟨okb, cb, clb, cmb, ccb, cfb, cob, chb⟩ := laws_markRecordS.at_ HSb p q; obtain ⟨vb, rfl, geb⟩ := k24_openM cmb; have hxb_0 : wb.cell? ⟨go, (Aa : Int).toNat * 8, none⟩ = some (.int .i64 (Ab)) := ccb 0 _ rfl; have hfb_0 : wb.frozen? ⟨go, (Aa : Int).toNat * 8, none⟩ = false := cfb 0; have hxb_1 : wb.cell? ⟨go, (Aa : Int).toNat * 8 + 1, none⟩ = some (.int .i64 (e.f1)) := ccb 1 _ rfl; have hfb_1 : wb.frozen? ⟨go, (Aa : Int).toNat * 8 + 1, none⟩ = false := cfb 1; have hxb_2 : wb.cell? ⟨go, (Aa : Int).toNat * 8 + 2, none⟩ = some (.int .i64 (e.f2)) := ccb 2 _ rfl; have hfb_2 : wb.frozen? ⟨go, (Aa : Int).toNat * 8 + 2, none⟩ = false := cfb 2; have hxb_3 : wb.cell? ⟨go, (Aa : Int).toNat * 8 + 3, none⟩ = some (.int .i64 (e.f3)) := ccb 3 _ rfl; have hfb_3 : wb.frozen? ⟨go, (Aa : Int).toNat * 8 + 3, none⟩ = false := cfb 3; have hxb_4 : wb.cell? ⟨go, (Aa : Int).toNat * 8 + 4, none⟩ = some (.int .i64 (e.f4)) := ccb 4 _ rfl; have hfb_4 : wb.frozen? ⟨go, (Aa : Int).toNat * 8 + 4, none⟩ = false := cfb 4; have hxb_5 : wb.cell? ⟨go, (Aa : Int).toNat * 8 + 5, none⟩ = some (vb) := ccb 5 _ rfl; have hfb_5 : wb.frozen? ⟨go, (Aa : Int).toNat * 8 + 5, none⟩ = false := cfb 5; have hxb_6 : wb.cell? ⟨go, (Aa : Int).toNat * 8 + 6, none⟩ = some (.int .i64 (e.f6)) := ccb 6 _ rfl; have hfb_6 : wb.frozen? ⟨go, (Aa : Int).toNat * 8 + 6, none⟩ = false := cfb 6; have hxb_7 : wb.cell? ⟨go, (Aa : Int).toNat * 8 + 7, none⟩ = some (.bool (e.f7)) := ccb 7 _ rfl; have hfb_7 : wb.frozen? ⟨go, (Aa : Int).toNat * 8 + 7, none⟩ = false := cfb 7; clear clb cmb ccb cfb) | ((with_reducible refine gate_store (t := 3) (p := 23) rfl ?_); refine store_event (t := 3) (p := 23) (v := ?vo_wc) (w1 := (wb.setCell ⟨go, (Aa : Int).toNat * 8 + 1, none⟩ (.int .i64 (wrap64 (Ab + 1))))) ?hg ?ho ?hn ?hr ?_; (case ho => rfl); (case hg => rfl); (case hn => rfl); (case hr => first | (go_simp; done) | (go_simp; rfl)); intro wc hw; have HP0 := laws_markRecordS.put_ (x' := (⟨Ab, wrap64 (Ab + 1), e.f2, e.f3, e.f4, e.f5, e.f6, e.f7⟩ : S24)) (u := .int .i64 (wrap64 (Ab + 1))) (j := 1) chb p q (show 1 + 1 ≤ 8 by decide) (k24_mkM _ _ _ (⟨Ab, wrap64 (Ab + 1), e.f2, e.f3, e.f4, e.f5, e.f6, e.f7⟩ : S24) geb) (fun _ h_ => h_); have hg : wb.grownBy wc (some go) := (by rw [hw]; exact HP0.2); have HP : Kd.S k24 24 wc w0.heap.size P0_ (.slice (some ⟨go, 0, none⟩) Ac.length co7) (Ac.set (Aa : Int).toNat (⟨Ab, wrap64 (Ab + 1), e.f2, e.f3, e.f4, e.f5, e.f6, e.f7⟩ : S24)) := (by rw [hw]; exact HP0.1); have n1_ := ak ((by rw [hw]; exact below_set (HB.out) GB.out : Below w0.heap.size w0 wc)); have n2_ := ak (Kept.of_grown (S := P0_) hg (hk_q HK) (fun k_ e_ => .inl (by injection e_ with e_; rw [← e_]; exact GP.out))); clear HB HK hg hw HP0; have HB := n1_; have HK := n2_; clear n1_ n2_; clear hxb_0 hxb_1 hxb_2 hxb_3 hxb_4 hxb_5 hxb_6 hxb_7 hfb_0 hfb_1 hfb_2 hfb_3 hfb_4 hfb_5 hfb_6 hfb_7 geb cob chb; have HSc := HP; clear HP; obtain ⟨okc, cc, clc, cmc, ccc, cfc, coc, chc⟩ := laws_markRecordS.at_ HSc p q; obtain ⟨vc, rfl, gec⟩ := k24_openM cmc; have hxc_0 : wc.cell? ⟨go, (Aa : Int).toNat * 8, none⟩ = some (.int .i64 (Ab)) := ccc 0 _ rfl; have hfc_0 : wc.frozen? ⟨go, (Aa : Int).toNat * 8, none⟩ = false := cfc 0; have hxc_1 : wc.cell? ⟨go, (Aa : Int).toNat * 8 + 1, none⟩ = some (.int .i64 (wrap64 (Ab + 1))) := ccc 1 _ rfl; have hfc_1 : wc.frozen? ⟨go, (Aa : Int).toNat * 8 + 1, none⟩ = false := cfc 1; have hxc_2 : wc.cell? ⟨go, (Aa : Int).toNat * 8 + 2, none⟩ = some (.int .i64 (e.f2)) := ccc 2 _ rfl; have hfc_2 : wc.frozen? ⟨go, (Aa : Int).toNat * 8 + 2, none⟩ = false := cfc 2; have hxc_3 : wc.cell? ⟨go, (Aa : Int).toNat * 8 + 3, none⟩ = some (.int .i64 (e.f3)) := ccc 3 _ rfl; have hfc_3 : wc.frozen? ⟨go, (Aa : Int).toNat * 8 + 3, none⟩ = false := cfc 3; have hxc_4 : wc.cell? ⟨go, (Aa : Int).toNat * 8 + 4, none⟩ = some (.int .i64 (e.f4)) := ccc 4 _ rfl; have hfc_4 : wc.frozen? ⟨go, (Aa : Int).toNat * 8 + 4, none⟩ = false := cfc 4; have hxc_5 : wc.cell? ⟨go, (Aa : Int).toNat * 8 + 5, none⟩ = some (vc) := ccc 5 _ rfl; have hfc_5 : wc.frozen? ⟨go, (Aa : Int).toNat * 8 + 5, none⟩ = false := cfc 5; have hxc_6 : wc.cell? ⟨go, (Aa : Int).toNat * 8 + 6, none⟩ = some (.int .i64 (e.f6)) := ccc 6 _ rfl; have hfc_6 : wc.frozen? ⟨go, (Aa : Int).toNat * 8 + 6, none⟩ = false := cfc 6; have hxc_7 : wc.cell? ⟨go, (Aa : Int).toNat * 8 + 7, none⟩ = some (.bool (e.f7)) := ccc 7 _ rfl; have hfc_7 : wc.frozen? ⟨go, (Aa : Int).toNat * 8 + 7, none⟩ = false := cfc 7; clear clc cmc ccc cfc) | ((with_reducible refine gate_store (t := 3) (p := 30) rfl ?_); refine store_event (t := 3) (p := 30) (v := ?vo_wd) (w1 := (wc.setCell ⟨go, (Aa : Int).toNat * 8 + 2, none⟩ (.int .i64 (wrap64 ((wrap64 (Ab + 1)) + 1))))) ?hg ?ho ?hn ?hr ?_; (case ho => rfl); (case hg => rfl); (case hn => rfl); (case hr => first | (go_simp; done) | (go_simp; rfl)); intro wd hw; have HP0 := laws_markRecordS.put_ (x' := (⟨Ab, wrap64 (Ab + 1), wrap64 ((wrap64 (Ab + 1)) + 1), e.f3, e.f4, e.f5, e.f6, e.f7⟩ : S24)) (u := .int .i64 (wrap64 ((wrap64 (Ab + 1)) + 1))) (j := 2) chc p q (show 2 + 1 ≤ 8 by decide) (k24_mkM _ _ _ (⟨Ab, wrap64 (Ab + 1), wrap64 ((wrap64 (Ab + 1)) + 1), e.f3, e.f4, e.f5, e.f6, e.f7⟩ : S24) gec) (fun _ h_ => h_); have hg : wc.grownBy wd (some go) := (by rw [hw]; exact HP0.2); have HP : Kd.S k24 24 wd w0.heap.size P0_ (.slice (some ⟨go, 0, none⟩) Ac.length co7) (Ac.set (Aa : Int).toNat (⟨Ab, wrap64 (Ab + 1), wrap64 ((wrap64 (Ab + 1)) + 1), e.f3, e.f4, e.f5, e.f6, e.f7⟩ : S24)) := (by rw [hw]; exact HP0.1); have n1_ := ak ((by rw [hw]; exact below_set (HB.out) GB.out : Below w0.heap.size w0 wd)); have n2_ := ak (Kept.of_grown (S := P0_) hg (hk_q HK) (fun k_ e_ => .inl (by injection e_ with e_; rw [← e_]; exact GP.out))); clear HB HK hg hw HP0; have HB := n1_; have HK := n2_; clear n1_ n2_; clear hxc_0 hxc_1 hxc_2 hxc_3 hxc_4 hxc_5 hxc_6 hxc_7 hfc_0 hfc_1 hfc_2 hfc_3 hfc_4 hfc_5 hfc_6 hfc_7 gec coc chc; have HSd := HP; clear HP; obtain ⟨okd, cd, cld, cmd, ccd, cfd, cod, chd⟩ := laws_markRecordS.at_ HSd p q; obtain ⟨vd, rfl, ged⟩ := k24_openM cmd; have hxd_0 : wd.cell? ⟨go, (Aa : Int).toNat * 8, none⟩ = some (.int .i64 (Ab)) := ccd 0 _ rfl; have hfd_0 : wd.frozen? ⟨go, (Aa : Int).toNat * 8, none⟩ = false := cfd 0; have hxd_1 : wd.cell? ⟨go, (Aa : Int).toNat * 8 + 1, none⟩ = some (.int .i64 (wrap64 (Ab + 1))) := ccd 1 _ rfl; have hfd_1 : wd.frozen? ⟨go, (Aa : Int).toNat * 8 + 1, none⟩ = false := cfd 1; have hxd_2 : wd.cell? ⟨go, (Aa : Int).toNat * 8 + 2, none⟩ = some (.int .i64 (wrap64 ((wrap64 (Ab + 1)) + 1))) := ccd 2 _ rfl; have hfd_2 : wd.frozen? ⟨go, (Aa : Int).toNat * 8 + 2, none⟩ = false := cfd 2; have hxd_3 : wd.cell? ⟨go, (Aa : Int).toNat * 8 + 3, none⟩ = some (.int .i64 (e.f3)) := ccd 3 _ rfl; have hfd_3 : wd.frozen? ⟨go, (Aa : Int).toNat * 8 + 3, none⟩ = false := cfd 3; have hxd_4 : wd.cell? ⟨go, (Aa : Int).toNat * 8 + 4, none⟩ = some (.int .i64 (e.f4)) := ccd 4 _ rfl; have hfd_4 : wd.frozen? ⟨go, (Aa : Int).toNat * 8 + 4, none⟩ = false := cfd 4; have hxd_5 : wd.cell? ⟨go, (Aa : Int).toNat * 8 + 5, none⟩ = some (vd) := ccd 5 _ rfl; have hfd_5 : wd.frozen? ⟨go, (Aa : Int).toNat * 8 + 5, none⟩ = false := cfd 5; have hxd_6 : wd.cell? ⟨go, (Aa : Int).toNat * 8 + 6, none⟩ = some (.int .i64 (e.f6)) := ccd 6 _ rfl; have hfd_6 : wd.frozen? ⟨go, (Aa : Int).toNat * 8 + 6, none⟩ = false := cfd 6; have hxd_7 : wd.cell? ⟨go, (Aa : Int).toNat * 8 + 7, none⟩ = some (.bool (e.f7)) := ccd 7 _ rfl; have hfd_7 : wd.frozen? ⟨go, (Aa : Int).toNat * 8 + 7, none⟩ = false := cfd 7; clear cld cmd ccd cfd) | ((with_reducible refine gate_store (t := 3) (p := 37) rfl ?_); refine store_event (t := 3) (p := 37) (v := ?vo_we) (w1 := (wd.setCell ⟨go, (Aa : Int).toNat * 8 + 3, none⟩ (.int .i64 (wrap64 ((wrap64 ((wrap64 (Ab + 1)) + 1)) + 1))))) ?hg ?ho ?hn ?hr ?_; (case ho => rfl); (case hg => rfl); (case hn => rfl); (case hr => first | (go_simp; done) | (go_simp; rfl)); intro we hw; have HP0 := laws_markRecordS.put_ (x' := (⟨Ab, wrap64 (Ab + 1), wrap64 ((wrap64 (Ab + 1)) + 1), wrap64 ((wrap64 ((wrap64 (Ab + 1)) + 1)) + 1), e.f4, e.f5, e.f6, e.f7⟩ : S24)) (u := .int .i64 (wrap64 ((wrap64 ((wrap64 (Ab + 1)) + 1)) + 1))) (j := 3) chd p q (show 3 + 1 ≤ 8 by decide) (k24_mkM _ _ _ (⟨Ab, wrap64 (Ab + 1), wrap64 ((wrap64 (Ab + 1)) + 1), wrap64 ((wrap64 ((wrap64 (Ab + 1)) + 1)) + 1), e.f4, e.f5, e.f6, e.f7⟩ : S24) ged) (fun _ h_ => h_); have hg : wd.grownBy we (some go) := (by rw [hw]; exact HP0.2); have HP : Kd.S k24 24 we w0.heap.size P0_ (.slice (some ⟨go, 0, none⟩) Ac.length co7) (Ac.set (Aa : Int).toNat (⟨Ab, wrap64 (Ab + 1), wrap64 ((wrap64 (Ab + 1)) + 1), wrap64 ((wrap64 ((wrap64 (Ab + 1)) + 1)) + 1), e.f4, e.f5, e.f6, e.f7⟩ : S24)) := (by rw [hw]; exact HP0.1); have n1_ := ak ((by rw [hw]; exact below_set (HB.out) GB.out : Below w0.heap.size w0 we)); have n2_ := ak (Kept.of_grown (S := P0_) hg (hk_q HK) (fun k_ e_ => .inl (by injection e_ with e_; rw [← e_]; exact GP.out))); clear HB HK hg hw HP0; have HB := n1_; have HK := n2_; clear n1_ n2_; clear hxd_0 hxd_1 hxd_2 hxd_3 hxd_4 hxd_5 hxd_6 hxd_7 hfd_0 hfd_1 hfd_2 hfd_3 hfd_4 hfd_5 hfd_6 hfd_7 ged cod chd; have HSe := HP; clear HP; obtain ⟨oke, ce, cle, cme, cce, cfe, coe, che⟩ := laws_markRecordS.at_ HSe p q; obtain ⟨ve, rfl, gee⟩ := k24_openM cme; have hxe_0 : we.cell? ⟨go, (Aa : Int).toNat * 8, none⟩ = some (.int .i64 (Ab)) := cce 0 _ rfl; have hfe_0 : we.frozen? ⟨go, (Aa : Int).toNat * 8, none⟩ = false := cfe 0; have hxe_1 : we.cell? ⟨go, (Aa : Int).toNat * 8 + 1, none⟩ = some (.int .i64 (wrap64 (Ab + 1))) := cce 1 _ rfl; have hfe_1 : we.frozen? ⟨go, (Aa : Int).toNat * 8 + 1, none⟩ = false := cfe 1; have hxe_2 : we.cell? ⟨go, (Aa : Int).toNat * 8 + 2, none⟩ = some (.int .i64 (wrap64 ((wrap64 (Ab + 1)) + 1))) := cce 2 _ rfl; have hfe_2 : we.frozen? ⟨go, (Aa : Int).toNat * 8 + 2, none⟩ = false := cfe 2; have hxe_3 : we.cell? ⟨go, (Aa : Int).toNat * 8 + 3, none⟩ = some (.int .i64 (wrap64 ((wrap64 ((wrap64 (Ab + 1)) + 1)) + 1))) := cce 3 _ rfl; have hfe_3 : we.frozen? ⟨go, (Aa : Int).toNat * 8 + 3, none⟩ = false := cfe 3; have hxe_4 : we.cell? ⟨go, (Aa : Int).toNat * 8 + 4, none⟩ = some (.int .i64 (e.f4)) := cce 4 _ rfl; have hfe_4 : we.frozen? ⟨go, (Aa : Int).toNat * 8 + 4, none⟩ = false := cfe 4; have hxe_5 : we.cell? ⟨go, (Aa : Int).toNat * 8 + 5, none⟩ = some (ve) := cce 5 _ rfl; have hfe_5 : we.frozen? ⟨go, (Aa : Int).toNat * 8 + 5, none⟩ = false := cfe 5; have hxe_6 : we.cell? ⟨go, (Aa : Int).toNat * 8 + 6, none⟩ = some (.int .i64 (e.f6)) := cce 6 _ rfl; have hfe_6 : we.frozen? ⟨go, (Aa : Int).toNat * 8 + 6, none⟩ = false := cfe 6; have hxe_7 : we.cell? ⟨go, (Aa : Int).toNat * 8 + 7, none⟩ = some (.bool (e.f7)) := cce 7 _ rfl; have hfe_7 : we.frozen? ⟨go, (Aa : Int).toNat * 8 + 7, none⟩ = false := cfe 7; clear cle cme cce cfe) | ((with_reducible refine gate_store (t := 3) (p := 44) rfl ?_); refine store_event (t := 3) (p := 44) (v := ?vo_wf) (w1 := (we.setCell ⟨go, (Aa : Int).toNat * 8 + 4, none⟩ (.int .i64 (wrap64 ((wrap64 ((wrap64 ((wrap64 (Ab + 1)) + 1)) + 1)) + 1))))) ?hg ?ho ?hn ?hr ?_; (case ho => rfl); (case hg => rfl); (case hn => rfl); (case hr => first | (go_simp; done) | (go_simp; rfl)); intro wf hw; have HP0 := laws_markRecordS.put_ (x' := (⟨Ab, wrap64 (Ab + 1), wrap64 ((wrap64 (Ab + 1)) + 1), wrap64 ((wrap64 ((wrap64 (Ab + 1)) + 1)) + 1), wrap64 ((wrap64 ((wrap64 ((wrap64 (Ab + 1)) + 1)) + 1)) + 1), e.f5, e.f6, e.f7⟩ : S24)) (u := .int .i64 (wrap64 ((wrap64 ((wrap64 ((wrap64 (Ab + 1)) + 1)) + 1)) + 1))) (j := 4) che p q (show 4 + 1 ≤ 8 by decide) (k24_mkM _ _ _ (⟨Ab, wrap64 (Ab + 1), wrap64 ((wrap64 (Ab + 1)) + 1), wrap64 ((wrap64 ((wrap64 (Ab + 1)) + 1)) + 1), wrap64 ((wrap64 ((wrap64 ((wrap64 (Ab + 1)) + 1)) + 1)) + 1), e.f5, e.f6, e.f7⟩ : S24) gee) (fun _ h_ => h_); have hg : we.grownBy wf (some go) := (by rw [hw]; exact HP0.2); have HP : Kd.S k24 24 wf w0.heap.size P0_ (.slice (some ⟨go, 0, none⟩) Ac.length co7) (Ac.set (Aa : Int).toNat (⟨Ab, wrap64 (Ab + 1), wrap64 ((wrap64 (Ab + 1)) + 1), wrap64 ((wrap64 ((wrap64 (Ab + 1)) + 1)) + 1), wrap64 ((wrap64 ((wrap64 ((wrap64 (Ab + 1)) + 1)) + 1)) + 1), e.f5, e.f6, e.f7⟩ : S24)) := (by rw [hw]; exact HP0.1); have n1_ := ak ((by rw [hw]; exact below_set (HB.out) GB.out : Below w0.heap.size w0 wf)); have n2_ := ak (Kept.of_grown (S := P0_) hg (hk_q HK) (fun k_ e_ => .inl (by injection e_ with e_; rw [← e_]; exact GP.out))); clear HB HK hg hw HP0; have HB := n1_; have HK := n2_; clear n1_ n2_; clear hxe_0 hxe_1 hxe_2 hxe_3 hxe_4 hxe_5 hxe_6 hxe_7 hfe_0 hfe_1 hfe_2 hfe_3 hfe_4 hfe_5 hfe_6 hfe_7 gee coe che; have HSf := HP; clear HP; obtain ⟨okf, cf, clf, cmf, ccf, cff, cof, chf⟩ := laws_markRecordS.at_ HSf p q; obtain ⟨vf, rfl, gef⟩ := k24_openM cmf; have hxf_0 : wf.cell? ⟨go, (Aa : Int).toNat * 8, none⟩ = some (.int .i64 (Ab)) := ccf 0 _ rfl; have hff_0 : wf.frozen? ⟨go, (Aa : Int).toNat * 8, none⟩ = false := cff 0; have hxf_1 : wf.cell? ⟨go, (Aa : Int).toNat * 8 + 1, none⟩ = some (.int .i64 (wrap64 (Ab + 1))) := ccf 1 _ rfl; have hff_1 : wf.frozen? ⟨go, (Aa : Int).toNat * 8 + 1, none⟩ = false := cff 1; have hxf_2 : wf.cell? ⟨go, (Aa : Int).toNat * 8 + 2, none⟩ = some (.int .i64 (wrap64 ((wrap64 (Ab + 1)) + 1))) := ccf 2 _ rfl; have hff_2 : wf.frozen? ⟨go, (Aa : Int).toNat * 8 + 2, none⟩ = false := cff 2; have hxf_3 : wf.cell? ⟨go, (Aa : Int).toNat * 8 + 3, none⟩ = some (.int .i64 (wrap64 ((wrap64 ((wrap64 (Ab + 1)) + 1)) + 1))) := ccf 3 _ rfl; have hff_3 : wf.frozen? ⟨go, (Aa : Int).toNat * 8 + 3, none⟩ = false := cff 3; have hxf_4 : wf.cell? ⟨go, (Aa : Int).toNat * 8 + 4, none⟩ = some (.int .i64 (wrap64 ((wrap64 ((wrap64 ((wrap64 (Ab + 1)) + 1)) + 1)) + 1))) := ccf 4 _ rfl; have hff_4 : wf.frozen? ⟨go, (Aa : Int).toNat * 8 + 4, none⟩ = false := cff 4; have hxf_5 : wf.cell? ⟨go, (Aa : Int).toNat * 8 + 5, none⟩ = some (vf) := ccf 5 _ rfl; have hff_5 : wf.frozen? ⟨go, (Aa : Int).toNat * 8 + 5, none⟩ = false := cff 5; have hxf_6 : wf.cell? ⟨go, (Aa : Int).toNat * 8 + 6, none⟩ = some (.int .i64 (e.f6)) := ccf 6 _ rfl; have hff_6 : wf.frozen? ⟨go, (Aa : Int).toNat * 8 + 6, none⟩ = false := cff 6; have hxf_7 : wf.cell? ⟨go, (Aa : Int).toNat * 8 + 7, none⟩ = some (.bool (e.f7)) := ccf 7 _ rfl; have hff_7 : wf.frozen? ⟨go, (Aa : Int).toNat * 8 + 7, none⟩ = false := cff 7; clear clf cmf ccf cff) | ((with_reducible refine gate_callee (f := 44) rfl ?_); refine goesL_ (some 53) rfl rfl Try.func44 (by kernel_rfl) rfl #[vf, .int .i64 (wrap64 ((wrap64 ((wrap64 ((wrap64 ((wrap64 (Ab + 1)) + 1)) + 1)) + 1)) + 1))] rfl (by (try simp only [List.map_toArray, List.map_cons, List.map_nil]); first | done | rfl | (simp only [List.length_drop, List.length_take]; rfl)) ?_; (with_reducible refine (laws_markNearS.calls k1 okf vf e.f5 (wrap64 ((wrap64 ((wrap64 ((wrap64 ((wrap64 (Ab + 1)) + 1)) + 1)) + 1)) + 1)) t y w0 _ ?side1 ?side2 A.out).mono ?_); (case side1 => exact (bw_q HB)); (case side2 => (with_reducible repeat (first | apply Kd.R_alloc | apply Kd.R_drewN | apply Kd.R_drew)); exact gef); rintro e_ wg ⟨rfl, hR, hb, hk⟩; refine ⟨_, rfl, ?_⟩; have HP := laws_markRecordS.call_ (x' := (⟨Ab, wrap64 (Ab + 1), wrap64 ((wrap64 (Ab + 1)) + 1), wrap64 ((wrap64 ((wrap64 (Ab + 1)) + 1)) + 1), wrap64 ((wrap64 ((wrap64 ((wrap64 (Ab + 1)) + 1)) + 1)) + 1), y, e.f6, e.f7⟩ : S24)) chf hk (k24_mkM _ _ _ (⟨Ab, wrap64 (Ab + 1), wrap64 ((wrap64 (Ab + 1)) + 1), wrap64 ((wrap64 ((wrap64 (Ab + 1)) + 1)) + 1), wrap64 ((wrap64 ((wrap64 ((wrap64 (Ab + 1)) + 1)) + 1)) + 1), y, e.f6, e.f7⟩ : S24) (Kd.R_mono (Kd.R_tight rfl hR) (fun k_ hk_ => gef.1 k_ hk_.symm))) (fun _ h_ => h_); have n1_ := ak hb; have n2_ := ak (Kept.then_ HK.out hk (fun k_ h_ => .inl (cof k_ h_).1)); clear HB HK hR hb hk; have HB := n1_; have HK := n2_; clear n1_ n2_; clear hxf_0 hxf_1 hxf_2 hxf_3 hxf_4 hxf_5 hxf_6 hxf_7 hff_0 hff_1 hff_2 hff_3 hff_4 hff_5 hff_6 hff_7 gef cof chf; have HSg := HP; clear HP; obtain ⟨okg, cg, clg, cmg, ccg, cfg, cog, chg⟩ := laws_markRecordS.at_ HSg p q; obtain ⟨vg, rfl, geg⟩ := k24_openM cmg; have hxg_0 : wg.cell? ⟨go, (Aa : Int).toNat * 8, none⟩ = some (.int .i64 (Ab)) := ccg 0 _ rfl; have hfg_0 : wg.frozen? ⟨go, (Aa : Int).toNat * 8, none⟩ = false := cfg 0; have hxg_1 : wg.cell? ⟨go, (Aa : Int).toNat * 8 + 1, none⟩ = some (.int .i64 (wrap64 (Ab + 1))) := ccg 1 _ rfl; have hfg_1 : wg.frozen? ⟨go, (Aa : Int).toNat * 8 + 1, none⟩ = false := cfg 1; have hxg_2 : wg.cell? ⟨go, (Aa : Int).toNat * 8 + 2, none⟩ = some (.int .i64 (wrap64 ((wrap64 (Ab + 1)) + 1))) := ccg 2 _ rfl; have hfg_2 : wg.frozen? ⟨go, (Aa : Int).toNat * 8 + 2, none⟩ = false := cfg 2; have hxg_3 : wg.cell? ⟨go, (Aa : Int).toNat * 8 + 3, none⟩ = some (.int .i64 (wrap64 ((wrap64 ((wrap64 (Ab + 1)) + 1)) + 1))) := ccg 3 _ rfl; have hfg_3 : wg.frozen? ⟨go, (Aa : Int).toNat * 8 + 3, none⟩ = false := cfg 3; have hxg_4 : wg.cell? ⟨go, (Aa : Int).toNat * 8 + 4, none⟩ = some (.int .i64 (wrap64 ((wrap64 ((wrap64 ((wrap64 (Ab + 1)) + 1)) + 1)) + 1))) := ccg 4 _ rfl; have hfg_4 : wg.frozen? ⟨go, (Aa : Int).toNat * 8 + 4, none⟩ = false := cfg 4; have hxg_5 : wg.cell? ⟨go, (Aa : Int).toNat * 8 + 5, none⟩ = some (vg) := ccg 5 _ rfl; have hfg_5 : wg.frozen? ⟨go, (Aa : Int).toNat * 8 + 5, none⟩ = false := cfg 5; have hxg_6 : wg.cell? ⟨go, (Aa : Int).toNat * 8 + 6, none⟩ = some (.int .i64 (e.f6)) := ccg 6 _ rfl; have hfg_6 : wg.frozen? ⟨go, (Aa : Int).toNat * 8 + 6, none⟩ = false := cfg 6; have hxg_7 : wg.cell? ⟨go, (Aa : Int).toNat * 8 + 7, none⟩ = some (.bool (e.f7)) := ccg 7 _ rfl; have hfg_7 : wg.frozen? ⟨go, (Aa : Int).toNat * 8 + 7, none⟩ = false := cfg 7; clear clg cmg ccg cfg) | ((with_reducible refine gate_store (t := 3) (p := 58) rfl ?_); refine store_event (t := 3) (p := 58) (v := ?vo_wh) (w1 := (wg.setCell ⟨go, (Aa : Int).toNat * 8 + 6, none⟩ (.int .i64 t))) ?hg ?ho ?hn ?hr ?_; (case ho => rfl); (case hg => rfl); (case hn => rfl); (case hr => first | (go_simp; done) | (go_simp; rfl)); intro wh hw; have HP0 := laws_markRecordS.put_ (x' := (⟨Ab, wrap64 (Ab + 1), wrap64 ((wrap64 (Ab + 1)) + 1), wrap64 ((wrap64 ((wrap64 (Ab + 1)) + 1)) + 1), wrap64 ((wrap64 ((wrap64 ((wrap64 (Ab + 1)) + 1)) + 1)) + 1), y, t, e.f7⟩ : S24)) (u := .int .i64 t) (j := 6) chg p q (show 6 + 1 ≤ 8 by decide) (k24_mkM _ _ _ (⟨Ab, wrap64 (Ab + 1), wrap64 ((wrap64 (Ab + 1)) + 1), wrap64 ((wrap64 ((wrap64 (Ab + 1)) + 1)) + 1), wrap64 ((wrap64 ((wrap64 ((wrap64 (Ab + 1)) + 1)) + 1)) + 1), y, t, e.f7⟩ : S24) geg) (fun _ h_ => h_); have hg : wg.grownBy wh (some go) := (by rw [hw]; exact HP0.2); have HP : Kd.S k24 24 wh w0.heap.size P0_ (.slice (some ⟨go, 0, none⟩) Ac.length co7) (Ac.set (Aa : Int).toNat (⟨Ab, wrap64 (Ab + 1), wrap64 ((wrap64 (Ab + 1)) + 1), wrap64 ((wrap64 ((wrap64 (Ab + 1)) + 1)) + 1), wrap64 ((wrap64 ((wrap64 ((wrap64 (Ab + 1)) + 1)) + 1)) + 1), y, t, e.f7⟩ : S24)) := (by rw [hw]; exact HP0.1); have n1_ := ak ((by rw [hw]; exact below_set (HB.out) GB.out : Below w0.heap.size w0 wh)); have n2_ := ak (Kept.of_grown (S := P0_) hg (hk_q HK) (fun k_ e_ => .inl (by injection e_ with e_; rw [← e_]; exact GP.out))); clear HB HK hg hw HP0; have HB := n1_; have HK := n2_; clear n1_ n2_; clear hxg_0 hxg_1 hxg_2 hxg_3 hxg_4 hxg_5 hxg_6 hxg_7 hfg_0 hfg_1 hfg_2 hfg_3 hfg_4 hfg_5 hfg_6 hfg_7 geg cog chg; have HSh := HP; clear HP; obtain ⟨okh, ch, clh, cmh, cch, cfh, coh, chh⟩ := laws_markRecordS.at_ HSh p q; obtain ⟨vh, rfl, geh⟩ := k24_openM cmh; have hxh_0 : wh.cell? ⟨go, (Aa : Int).toNat * 8, none⟩ = some (.int .i64 (Ab)) := cch 0 _ rfl; have hfh_0 : wh.frozen? ⟨go, (Aa : Int).toNat * 8, none⟩ = false := cfh 0; have hxh_1 : wh.cell? ⟨go, (Aa : Int).toNat * 8 + 1, none⟩ = some (.int .i64 (wrap64 (Ab + 1))) := cch 1 _ rfl; have hfh_1 : wh.frozen? ⟨go, (Aa : Int).toNat * 8 + 1, none⟩ = false := cfh 1; have hxh_2 : wh.cell? ⟨go, (Aa : Int).toNat * 8 + 2, none⟩ = some (.int .i64 (wrap64 ((wrap64 (Ab + 1)) + 1))) := cch 2 _ rfl; have hfh_2 : wh.frozen? ⟨go, (Aa : Int).toNat * 8 + 2, none⟩ = false := cfh 2; have hxh_3 : wh.cell? ⟨go, (Aa : Int).toNat * 8 + 3, none⟩ = some (.int .i64 (wrap64 ((wrap64 ((wrap64 (Ab + 1)) + 1)) + 1))) := cch 3 _ rfl; have hfh_3 : wh.frozen? ⟨go, (Aa : Int).toNat * 8 + 3, none⟩ = false := cfh 3; have hxh_4 : wh.cell? ⟨go, (Aa : Int).toNat * 8 + 4, none⟩ = some (.int .i64 (wrap64 ((wrap64 ((wrap64 ((wrap64 (Ab + 1)) + 1)) + 1)) + 1))) := cch 4 _ rfl; have hfh_4 : wh.frozen? ⟨go, (Aa : Int).toNat * 8 + 4, none⟩ = false := cfh 4; have hxh_5 : wh.cell? ⟨go, (Aa : Int).toNat * 8 + 5, none⟩ = some (vh) := cch 5 _ rfl; have hfh_5 : wh.frozen? ⟨go, (Aa : Int).toNat * 8 + 5, none⟩ = false := cfh 5; have hxh_6 : wh.cell? ⟨go, (Aa : Int).toNat * 8 + 6, none⟩ = some (.int .i64 (t)) := cch 6 _ rfl; have hfh_6 : wh.frozen? ⟨go, (Aa : Int).toNat * 8 + 6, none⟩ = false := cfh 6; have hxh_7 : wh.cell? ⟨go, (Aa : Int).toNat * 8 + 7, none⟩ = some (.bool (e.f7)) := cch 7 _ rfl; have hfh_7 : wh.frozen? ⟨go, (Aa : Int).toNat * 8 + 7, none⟩ = false := cfh 7; clear clh cmh cch cfh) | ((with_reducible refine gate_store (t := 4) (p := 67) rfl ?_); refine store_event (t := 4) (p := 67) (v := ?vo_wi) (w1 := (wh.setCell ⟨go, (Aa : Int).toNat * 8 + 7, none⟩ (.bool ((Int.tmod (wrap64 (t + 1)) 3) == 0)))) ?hg ?ho ?hn ?hr ?_; (case ho => rfl); (case hg => rfl); (case hn => rfl); (case hr => first | (go_simp; done) | (go_simp; rfl)); intro wi hw; have HP0 := laws_markRecordS.put_ (x' := (⟨Ab, wrap64 (Ab + 1), wrap64 ((wrap64 (Ab + 1)) + 1), wrap64 ((wrap64 ((wrap64 (Ab + 1)) + 1)) + 1), wrap64 ((wrap64 ((wrap64 ((wrap64 (Ab + 1)) + 1)) + 1)) + 1), y, t, (Int.tmod (wrap64 (t + 1)) 3) == 0⟩ : S24)) (u := .bool ((Int.tmod (wrap64 (t + 1)) 3) == 0)) (j := 7) chh p q (show 7 + 1 ≤ 8 by decide) (k24_mkM _ _ _ (⟨Ab, wrap64 (Ab + 1), wrap64 ((wrap64 (Ab + 1)) + 1), wrap64 ((wrap64 ((wrap64 (Ab + 1)) + 1)) + 1), wrap64 ((wrap64 ((wrap64 ((wrap64 (Ab + 1)) + 1)) + 1)) + 1), y, t, (Int.tmod (wrap64 (t + 1)) 3) == 0⟩ : S24) geh) (fun _ h_ => h_); have hg : wh.grownBy wi (some go) := (by rw [hw]; exact HP0.2); have HP : Kd.S k24 24 wi w0.heap.size P0_ (.slice (some ⟨go, 0, none⟩) Ac.length co7) (Ac.set (Aa : Int).toNat (⟨Ab, wrap64 (Ab + 1), wrap64 ((wrap64 (Ab + 1)) + 1), wrap64 ((wrap64 ((wrap64 (Ab + 1)) + 1)) + 1), wrap64 ((wrap64 ((wrap64 ((wrap64 (Ab + 1)) + 1)) + 1)) + 1), y, t, (Int.tmod (wrap64 (t + 1)) 3) == 0⟩ : S24)) := (by rw [hw]; exact HP0.1); have n1_ := ak ((by rw [hw]; exact below_set (HB.out) GB.out : Below w0.heap.size w0 wi)); have n2_ := ak (Kept.of_grown (S := P0_) hg (hk_q HK) (fun k_ e_ => .inl (by injection e_ with e_; rw [← e_]; exact GP.out))); clear HB HK hg hw HP0; have HB := n1_; have HK := n2_; clear n1_ n2_; clear hxh_0 hxh_1 hxh_2 hxh_3 hxh_4 hxh_5 hxh_6 hxh_7 hfh_0 hfh_1 hfh_2 hfh_3 hfh_4 hfh_5 hfh_6 hfh_7 geh coh chh; have HSi := HP; clear HP))
          go_roundg k1
          case measure => have := Ad.out; omega
          case rel => exact ⟨_, (wrap64 ((wrap64 (t + 1)) + 1)), (wrap64 (Aa + 1)), rs_q, rs_q, H', ⟨by have := Ad.out; omega⟩, ⟨by (with_reducible repeat (first | apply Kd.S_alloc | apply Kd.S_drewN | apply Kd.S_drew)); exact HSi⟩, ⟨hk_q HK⟩, ⟨(bw_q HB)⟩⟩
        · rw [if_neg c4] at H
          exact absurd H (by simp)
      · rw [if_neg c3] at H
        have Ae : decide (Aa < (Ac.length : Int)) = false := decide_eq_false c3
        clear c3
        simp only [Option.some.injEq, Prod.mk.injEq] at H
        obtain ⟨rfl, rfl⟩ := H; obtain ⟨Ao12, co12, eo12⟩ := Kd.S_slice HO.out; subst eo12
        go_wp2
        go_ret
        exact ⟨by first | rfl | (simp [errW_none, errW_some] <;> rfl) | (simp [*, errW_none, errW_some] <;> rfl), kS_q HO, (bw_q HB), hk_q HK⟩
def laws_markPacket.f (k : Nat) (e : Int) (g : Int) (h : Int) (i : Int) (c : List Int) (d : List (S24)) (a1 : Int) : Option (Int × List Int × (List (S24))) := (laws_markIntS.f k c a1).bind fun a => ((laws_markRecordS.f k d a.1).bind fun b => (some (b.1, a.2, b.2)))
theorem laws_markPacket.mono : ∀ a0 a1 a2 a3 a4 a5 a6 k, LeO (laws_markPacket.f k a0 a1 a2 a3 a4 a5 a6) (laws_markPacket.f (k + 1) a0 a1 a2 a3 a4 a5 a6) := by
  intro a0 a1 a2 a3 a4 a5 a6 k
  unfold laws_markPacket.f
  refine LeO.bind (laws_markIntS.mono _ _ _) (fun _ => ?_)
  exact LeO.bind (laws_markRecordS.mono _ _ _) (fun _ => LeO.refl _)
set_option maxHeartbeats 8000000 in
set_option maxRecDepth 100000 in
theorem laws_markPacket.calls (k : Nat) (Ae : Int) (Ag : Int) (Ah : Int) (Ai : Int) (P0_ : Nat → Prop) (u4_ u5_ : Value) (Aa : List Int) (Ac : List (S24)) (a1 : Int) (r1 : Int) (r2 : List Int) (r3 : List (S24)) (w0 w : World) (hB : Below w0.heap.size w0 w) (ho4 : Kd.R (Kd.int .i64) 3 w w0.heap.size P0_ u4_ Aa) (ho5 : Kd.S k24 24 w w0.heap.size P0_ u5_ Ac) (h : laws_markPacket.f k Ae Ag Ah Ai Aa Ac a1 = some (r1, r2, r3)) :
  Calls Try.prog 21 #[.agg #[.int .i64 Ae, .int .i64 Ag, .int .i64 Ah, .int .i64 Ai, u4_, u5_], .int .i64 a1] w fun e w' => e = .returned (.int .i64 r1) ∧ Kd.R (Kd.int .i64) 3 w' w0.heap.size (fun k_ => (P0_ k_ ∨ w.heap.size ≤ k_)) u4_ r2 ∧ Kd.S k24 24 w' w0.heap.size P0_ u5_ r3 ∧ Below w0.heap.size w0 w' ∧ Kept w w' P0_ := by
  have hu := Try.underlying39
  have Ab := ak (show Kd.R (Kd.int .i64) 3 w w0.heap.size (fun k_ => (P0_ k_ ∨ w.heap.size ≤ k_)) u4_ Aa from Kd.R_mono ho4 (fun k_ hk => (.inl hk)))
  have Ad := ak ho5; have HK := ak (Kept.refl w P0_); have HB := ak hB; clear hB ho4 ho5; have H := h
  clear h; unfold laws_markPacket.f at H; replace H := bsi H; obtain ⟨⟨t1, t2⟩, A10, H⟩ := H
  (try dsimp only at H)
  have A1 := ak A10; clear A10; replace H := bsi H; obtain ⟨⟨t3, t4⟩, A20, H⟩ := H
  (try dsimp only at H)
  have A2 := ak A20; clear A20
  simp only [Option.some.injEq, Prod.mk.injEq] at H
  obtain ⟨rfl, rfl, rfl⟩ := H; obtain ⟨Ao4, co4, eo4⟩ := Kd.R_slice Ab.out; subst eo4; obtain ⟨Ao5, co5, eo5⟩ := Kd.S_slice Ad.out; subst eo5
  go_enter Try.func21, Try.ntmps21
  go_wp2_with (first | ((with_reducible refine gate_dst (N := 2) rfl ?_); refine box_q 2 #[.int .i64 Ae, .int .i64 Ag, .int .i64 Ah, .int .i64 Ai, .slice Ao4 Aa.length co4, .slice Ao5 Ac.length co5] 39 ?_; intro gb hg w5 hbox hb; replace Ab := ak (Kd.R_below (kR_q Ab) hb); replace Ad := ak (Kd.S_below (kS_q Ad) hb); have BK := ak hbox; replace HK := ak (Kept.below (S := P0_) (hk_q HK) hb); have GE := gsz w0 (below_size (bw_q HB)) hg; replace HB := ak (below_step (bw_q HB) hb); clear hb hbox hg; have hcz_0 : w5.cell? ⟨gb, 0, none⟩ = some (.int .i64 Ae) := (blk_cell BK.out 0).trans rfl; have hcz_4 : w5.cell? ⟨gb, 4, none⟩ = some (.slice Ao4 Aa.length co4) := (blk_cell BK.out 4).trans rfl; have hcz_5 : w5.cell? ⟨gb, 5, none⟩ = some (.slice Ao5 Ac.length co5) := (blk_cell BK.out 5).trans rfl; have hfz_4 := blk_frozen BK.out 4; have hfz_5 := blk_frozen BK.out 5) | ((with_reducible refine gate_callee (f := 61) rfl ?_); refine goesL_ (some 8) rfl rfl Try.func61 (by kernel_rfl) rfl #[.slice Ao4 Aa.length co4, .int .i64 a1] rfl mp_q ?_; (with_reducible refine (laws_markIntS.calls k (fun k_ => some k_ = (.slice Ao4 Aa.length co4 : Value).ownBlock) (.slice Ao4 Aa.length co4) Aa a1 t1 t2 w0 _ ?side1 ?side2 A1.out).mono ?_); (case side1 => exact bw_q HB); (case side2 => exact Kd.R_tight rfl Ab.out); rintro e w7 ⟨rfl, Af, hb, hkp⟩; refine ⟨_, rfl, ?_⟩; replace Ad := ak (Kd.S_mono (Kd.S_kept (Kd.S_apart' Ad.out (Kd.R_typed Ab.out) (by decide)) hkp (fun k_ h1_ h2_ => h1_.2 h2_)) (fun k_ h1_ => h1_.1)); replace BK := ak (blk_kept BK.out hkp (fun hs_ => (Kd.R_ne Ab.out BK.out (by decide)) hs_)); replace HK := ak (Kept.then_ (S := P0_) HK.out hkp (fun k_ hs_ => Ab.out.1 k_ hs_.symm)); replace Ab := ak (Kd.R_reok rfl Af (fun k_ e_ => Ab.out.1 k_ e_)); replace HB := ak hb; clear hb hkp Af; have hcy_5 : w7.cell? ⟨gb, 5, none⟩ = some (.slice Ao5 Ac.length co5) := (blk_cell BK.out 5).trans rfl; have hfy_5 := blk_frozen BK.out 5) | ((with_reducible refine gate_callee (f := 62) rfl ?_); refine goesL_ (some 12) rfl rfl Try.func62 (by kernel_rfl) rfl #[.slice Ao5 Ac.length co5, .int .i64 t1] rfl mp_q ?_; (with_reducible refine (laws_markRecordS.calls k (fun k_ => P0_ k_ ∧ some k_ ≠ (.slice Ao4 Aa.length co4 : Value).ownBlock) (.slice Ao5 Ac.length co5) Ac t1 t3 t4 w0 _ ?side1 ?side2 A2.out).mono ?_); (case side1 => exact bw_q HB); (case side2 => exact Kd.S_apart' Ad.out (Kd.R_typed Ab.out) (by decide)); rintro e w9 ⟨rfl, Af, hb, hkp⟩; refine ⟨_, rfl, ?_⟩; replace HK := ak (Kept.then_ (S := P0_) HK.out hkp (fun k_ hs_ => .inl hs_.1)); replace Ad := ak (Kd.S_mono Af (fun k_ h1_ => h1_.1)); replace Ab := ak (Kd.R_mono (Kd.R_kept (Kd.R_tight2 rfl Ab.out) hkp (fun k_ h1_ h2_ => h2_.2 h1_.1)) (fun k_ h1_ => h1_.2)); replace HB := ak hb; clear hb hkp Af))
  go_ret
  exact ⟨er_q, kR_q Ab, (kS_q Ad), bw_q HB, hk_q HK⟩

/-! ### laws_heldIntS: function 63 -/
def laws_heldIntS.l0 : Nat → List Int → Int → Int → Option (Int)
 | 0, _, _, _ => none
 | k + 1, b, c, a => if a < (b.length : Int) then (if 0 ≤ a then (if (rd b a) = c then (laws_heldIntS.l0 k b (wrap64 (c + 1)) (wrap64 (a + 1))) else (some (-1))) else (none)) else (some c)
def laws_heldIntS.f (k : Nat) (l0 : List Int) (a1 : Int) : Option (Int) := laws_heldIntS.l0 k l0 a1 0
theorem laws_heldIntS.mono_l : ∀ k, (∀ y0 y1 y2, LeO (laws_heldIntS.l0 k y0 y1 y2) (laws_heldIntS.l0 (k + 1) y0 y1 y2))
 | 0 => fun _ _ _ r h => by simp [laws_heldIntS.l0] at h
 | k + 1 => by
  have ih0 := laws_heldIntS.mono_l k
  ·intro y0 y1 y2
   unfold laws_heldIntS.l0
   with_reducible repeat' (first | apply ih0 | exact LeO.refl _ | exact LeO.none _ | refine LeO.ite ?_ ?_ | refine LeO.bind ?_ (fun _ => ?_))
theorem laws_heldIntS.mono : ∀ a0 a1 k, LeO (laws_heldIntS.f k a0 a1) (laws_heldIntS.f (k + 1) a0 a1) := by
 intro a0 a1 k
 have ih0 := laws_heldIntS.mono_l k
 unfold laws_heldIntS.f
 with_reducible repeat' (first | apply ih0 | exact LeO.refl _ | exact LeO.none _ | refine LeO.ite ?_ ?_ | refine LeO.bind ?_ (fun _ => ?_))
set_option maxHeartbeats 8000000 in
set_option maxRecDepth 100000 in
theorem laws_heldIntS.calls (k : Nat) (A0 : Option Addr) (c0 : Nat) (l0 : List Int) (a1 : Int) (r : Int) (w : World) (hr0 : Kd.C (Kd.int .i64) w A0 l0.length l0) (hc0 : l0.length ≤ c0) (h : laws_heldIntS.f k l0 a1 = some r) :
  Calls Try.prog 63 #[.slice A0 l0.length c0, .int .i64 a1] w fun e w' => e = .returned (.int .i64 r) ∧ Drawn0 w w' := by
 have HR0 := ak hr0; have Ak := ak hc0; clear hr0 hc0; have H := h
 clear h; unfold laws_heldIntS.f at H; have H' := ak H; clear H
 go_enter Try.func63, Try.ntmps63
 go_wp2
 go_loopg [1, 5] k (fun kq v1 v5 w' => ∃ (Ab : Int) (Aa : Int), v1 = .int .i64 Ab ∧ v5 = .int .i64 Aa ∧ Aside0 (laws_heldIntS.l0 kq l0 Ab Aa = some r) ∧ Aside0 (kq ≤ k) ∧ Drawn0 w w')
 case atStart => exact ⟨(a1), (0), rs_q, rs_q, H', ⟨Nat.le_refl _⟩, by repeat (first | exact Drawn0.refl _ | apply Drawn0.step)⟩
 case round =>
  clear H'; (try clear p2); obtain ⟨Ab, Aa, rfl, rfl, HA, Af, ⟨m1, rfl⟩⟩ := hrel
  cases gk with
  | zero => exact absurd HA.out (by simp [laws_heldIntS.l0])
  | succ k1 =>
   have H := HA.out; clear HA
   simp only [laws_heldIntS.l0] at H
   by_cases c3 : Aa < (l0.length : Int)
   ·rw [if_pos c3] at H
    have Ah : decide (Aa < (l0.length : Int)) = true := decide_eq_true c3
    clear c3
    by_cases c4 : 0 ≤ Aa
    ·rw [if_pos c4] at H
     have Aj : decide (0 ≤ Aa) = true := decide_eq_true c4
     clear c4; have Ag := ak H; clear H
     have p754 : 0 ≤ (Aa : Int) := of_decide_eq_true as_q
     have q754 : Aa < (l0.length : Int) := of_decide_eq_true as_q
     obtain ⟨Ai, e754, Ae⟩ := Kd.at_int HR0.out Aa p754 q754
     cases e754
     replace p754 := eq_true p754; replace q754 := eq_true q754
     go_upto_if 17 with (fail)
     (try clear Ae); have H := Ag.out; clear Ag
     by_cases c6 : (rd l0 Aa) = Ab
     ·rw [if_pos c6] at H
      have Ac : ((rd l0 Aa) == Ab) = true := bqi c6
      have Ad : ((rd l0 Aa) != Ab) = false := bnf c6
      clear c6
      (first | rw [Ac] | rw [Ad] | (simp only [i64_w, i32_w]; first | rw [Ac] | rw [Ad]) | skip)
      have H' := ak H; clear H
      go_wp2
      go_roundg k1
      case measure => have := Af.out; omega
      case rel => exact ⟨(wrap64 (Ab + 1)), (wrap64 (Aa + 1)), rs_q, rs_q, H', ⟨by have := Af.out; omega⟩, by repeat (first | exact Drawn0.refl _ | apply Drawn0.step)⟩
     ·rw [if_neg c6] at H
      have Ac : ((rd l0 Aa) == Ab) = false := bqf c6
      have Ad : ((rd l0 Aa) != Ab) = true := bni c6
      (first | rw [Ac] | rw [Ad] | (simp only [i64_w, i32_w]; first | rw [Ac] | rw [Ad]) | skip)
      obtain rfl := Option.some.inj H
      go_wp2
      go_ret
      exact ⟨rs_q, dr_q⟩
    ·rw [if_neg c4] at H
     exact absurd H (by simp)
   ·rw [if_neg c3] at H
    have Ah : decide (Aa < (l0.length : Int)) = false := decide_eq_false c3
    clear c3; obtain rfl := Option.some.inj H
    go_wp2
    go_ret
    exact ⟨rs_q, dr_q⟩

/-! ### laws_heldNearS: function 45 -/
def laws_heldNearS.l0 : Nat → List (S63) → Int → Int → Option (Int)
 | 0, _, _, _ => none
 | k + 1, b, c, a => if a < (b.length : Int) then (if 0 ≤ a then (if ((rd_T63 b a).f0) = c then (if ((rd_T63 b a).f1) = (wrap64 (c + 1)) then (laws_heldNearS.l0 k b (wrap64 ((wrap64 (c + 1)) + 1)) (wrap64 (a + 1))) else (some (-1))) else (some (-1))) else (none)) else (some c)
def laws_heldNearS.f (k : Nat) (l0 : List (S63)) (a1 : Int) : Option (Int) := laws_heldNearS.l0 k l0 a1 0
theorem laws_heldNearS.mono_l : ∀ k, (∀ y0 y1 y2, LeO (laws_heldNearS.l0 k y0 y1 y2) (laws_heldNearS.l0 (k + 1) y0 y1 y2))
 | 0 => fun _ _ _ r h => by simp [laws_heldNearS.l0] at h
 | k + 1 => by
  have ih0 := laws_heldNearS.mono_l k
  ·intro y0 y1 y2
   unfold laws_heldNearS.l0
   with_reducible repeat' (first | apply ih0 | exact LeO.refl _ | exact LeO.none _ | refine LeO.ite ?_ ?_ | refine LeO.bind ?_ (fun _ => ?_))
theorem laws_heldNearS.mono : ∀ a0 a1 k, LeO (laws_heldNearS.f k a0 a1) (laws_heldNearS.f (k + 1) a0 a1) := by
 intro a0 a1 k
 have ih0 := laws_heldNearS.mono_l k
 unfold laws_heldNearS.f
 with_reducible repeat' (first | apply ih0 | exact LeO.refl _ | exact LeO.none _ | refine LeO.ite ?_ ?_ | refine LeO.bind ?_ (fun _ => ?_))
set_option maxHeartbeats 8000000 in
set_option maxRecDepth 100000 in
theorem laws_heldNearS.calls (k : Nat) (A0 : Option Addr) (c0 : Nat) (l0 : List (S63)) (a1 : Int) (r : Int) (w : World) (hr0 : Kd.C k63 w A0 l0.length l0) (hc0 : l0.length ≤ c0) (h : laws_heldNearS.f k l0 a1 = some r) :
  Calls Try.prog 45 #[.slice A0 l0.length c0, .int .i64 a1] w fun e w' => e = .returned (.int .i64 r) ∧ Drawn0 w w' := by
 have HR0 := ak hr0; have Ar := ak hc0; clear hr0 hc0; have H := h
 clear h; unfold laws_heldNearS.f at H; have H' := ak H; clear H
 go_enter Try.func45, Try.ntmps45
 go_wp2
 go_loopg [1, 5] k (fun kq v1 v5 w' => ∃ (Ab : Int) (Aa : Int), v1 = .int .i64 Ab ∧ v5 = .int .i64 Aa ∧ Aside0 (laws_heldNearS.l0 kq l0 Ab Aa = some r) ∧ Aside0 (kq ≤ k) ∧ Drawn0 w w')
 case atStart => exact ⟨(a1), (0), rs_q, rs_q, H', ⟨Nat.le_refl _⟩, by repeat (first | exact Drawn0.refl _ | apply Drawn0.step)⟩
 case round =>
  clear H'; (try clear p2); obtain ⟨Ab, Aa, rfl, rfl, HA, Am, ⟨m1, rfl⟩⟩ := hrel
  cases gk with
  | zero => exact absurd HA.out (by simp [laws_heldNearS.l0])
  | succ k1 =>
   have H := HA.out; clear HA
   simp only [laws_heldNearS.l0] at H
   by_cases c3 : Aa < (l0.length : Int)
   ·rw [if_pos c3] at H
    have Ap : decide (Aa < (l0.length : Int)) = true := decide_eq_true c3
    clear c3
    by_cases c4 : 0 ≤ Aa
    ·rw [if_pos c4] at H
     have Aq : decide (0 ≤ Aa) = true := decide_eq_true c4
     clear c4; have An := ak H; clear H
     have p497 : 0 ≤ (Aa : Int) := of_decide_eq_true as_q
     have q497 : Aa < (l0.length : Int) := of_decide_eq_true as_q
     obtain ⟨Ak, e497, Ag, Ah⟩ := at_T63 HR0.out Aa p497 q497
     cases e497
     replace p497 := eq_true p497; replace q497 := eq_true q497
     go_upto_if 18 with (fail)
     (try clear Ag); (try clear Ah); have H := An.out; clear An
     by_cases c6 : ((rd_T63 l0 Aa).f0) = Ab
     ·rw [if_pos c6] at H
      have Ac : (((rd_T63 l0 Aa).f0) == Ab) = true := bqi c6
      have Ad : (((rd_T63 l0 Aa).f0) != Ab) = false := bnf c6
      clear c6
      (first | rw [Ac] | rw [Ad] | (simp only [i64_w, i32_w]; first | rw [Ac] | rw [Ad]) | skip)
      have Ao := ak H; clear H
      have p498 : 0 ≤ (Aa : Int) := of_decide_eq_true as_q
      have q498 : Aa < (l0.length : Int) := of_decide_eq_true as_q
      obtain ⟨Al, e498, Ai, Aj⟩ := at_T63 HR0.out Aa p498 q498
      obtain rfl : Ak = Al := (by injection e498)
      replace p498 := eq_true p498; replace q498 := eq_true q498
      go_upto_if 27 with (fail)
      (try clear Ai); (try clear Aj); have H := Ao.out; clear Ao
      by_cases c8 : ((rd_T63 l0 Aa).f1) = (wrap64 (Ab + 1))
      ·rw [if_pos c8] at H
       have Ae : (((rd_T63 l0 Aa).f1) == (wrap64 (Ab + 1))) = true := bqi c8
       have Af : (((rd_T63 l0 Aa).f1) != (wrap64 (Ab + 1))) = false := bnf c8
       clear c8
       (first | rw [Ae] | rw [Af] | (simp only [i64_w, i32_w]; first | rw [Ae] | rw [Af]) | skip)
       have H' := ak H; clear H
       go_wp2
       go_roundg k1
       case measure => have := Am.out; omega
       case rel => exact ⟨(wrap64 ((wrap64 (Ab + 1)) + 1)), (wrap64 (Aa + 1)), rs_q, rs_q, H', ⟨by have := Am.out; omega⟩, by repeat (first | exact Drawn0.refl _ | apply Drawn0.step)⟩
      ·rw [if_neg c8] at H
       have Ae : (((rd_T63 l0 Aa).f1) == (wrap64 (Ab + 1))) = false := bqf c8
       have Af : (((rd_T63 l0 Aa).f1) != (wrap64 (Ab + 1))) = true := bni c8
       (first | rw [Ae] | rw [Af] | (simp only [i64_w, i32_w]; first | rw [Ae] | rw [Af]) | skip)
       obtain rfl := Option.some.inj H
       go_wp2
       go_ret
       exact ⟨rs_q, dr_q⟩
     ·rw [if_neg c6] at H
      have Ac : (((rd_T63 l0 Aa).f0) == Ab) = false := bqf c6
      have Ad : (((rd_T63 l0 Aa).f0) != Ab) = true := bni c6
      (first | rw [Ac] | rw [Ad] | (simp only [i64_w, i32_w]; first | rw [Ac] | rw [Ad]) | skip)
      obtain rfl := Option.some.inj H
      go_wp2
      go_ret
      exact ⟨rs_q, dr_q⟩
    ·rw [if_neg c4] at H
     exact absurd H (by simp)
   ·rw [if_neg c3] at H
    have Ap : decide (Aa < (l0.length : Int)) = false := decide_eq_false c3
    clear c3; obtain rfl := Option.some.inj H
    go_wp2
    go_ret
    exact ⟨rs_q, dr_q⟩

/-! ### laws_heldRecordS: function 64 -/
def laws_heldRecordS.l0 : Nat → List (S24) → Int → Int → Option (Int)
 | 0, _, _, _ => none
 | k + 1, b, d, a => if a < (b.length : Int) then (if 0 ≤ a then (if ((rd_T24 b a).f0) = d then (if ((rd_T24 b a).f1) = (wrap64 (d + 1)) then (if ((rd_T24 b a).f2) = (wrap64 ((wrap64 (d + 1)) + 1)) then (if ((rd_T24 b a).f3) = (wrap64 ((wrap64 ((wrap64 (d + 1)) + 1)) + 1)) then (if ((rd_T24 b a).f4) = (wrap64 ((wrap64 ((wrap64 ((wrap64 (d + 1)) + 1)) + 1)) + 1)) then ((laws_heldNearS.f k ((rd_T24 b a).f5) (wrap64 ((wrap64 ((wrap64 ((wrap64 ((wrap64 (d + 1)) + 1)) + 1)) + 1)) + 1))).bind fun c => (if c < 0 then (some (-1)) else (if ((rd_T24 b a).f6) = c then (if (((rd_T24 b a).f7) != ((Int.tmod (wrap64 (c + 1)) 3) == 0)) = true then (some (-1)) else (laws_heldRecordS.l0 k b (wrap64 ((wrap64 (c + 1)) + 1)) (wrap64 (a + 1)))) else (some (-1))))) else (some (-1))) else (some (-1))) else (some (-1))) else (some (-1))) else (some (-1))) else (none)) else (some d)
def laws_heldRecordS.f (k : Nat) (l0 : List (S24)) (a1 : Int) : Option (Int) := laws_heldRecordS.l0 k l0 a1 0
theorem laws_heldRecordS.mono_l : ∀ k, (∀ y0 y1 y2, LeO (laws_heldRecordS.l0 k y0 y1 y2) (laws_heldRecordS.l0 (k + 1) y0 y1 y2))
 | 0 => fun _ _ _ r h => by simp [laws_heldRecordS.l0] at h
 | k + 1 => by
  have ih0 := laws_heldRecordS.mono_l k
  ·intro y0 y1 y2
   unfold laws_heldRecordS.l0
   with_reducible repeat' (first | apply ih0 | apply laws_heldNearS.mono | exact LeO.refl _ | exact LeO.none _ | refine LeO.ite ?_ ?_ | refine LeO.bind ?_ (fun _ => ?_))
theorem laws_heldRecordS.mono : ∀ a0 a1 k, LeO (laws_heldRecordS.f k a0 a1) (laws_heldRecordS.f (k + 1) a0 a1) := by
 intro a0 a1 k
 have ih0 := laws_heldRecordS.mono_l k
 unfold laws_heldRecordS.f
 with_reducible repeat' (first | apply ih0 | apply laws_heldNearS.mono | exact LeO.refl _ | exact LeO.none _ | refine LeO.ite ?_ ?_ | refine LeO.bind ?_ (fun _ => ?_))
set_option maxHeartbeats 8000000 in
set_option maxRecDepth 100000 in
theorem laws_heldRecordS.calls (k : Nat) (A0 : Option Addr) (c0 : Nat) (l0 : List (S24)) (a1 : Int) (r : Int) (w : World) (hr0 : Kd.C k24 w A0 l0.length l0) (hc0 : l0.length ≤ c0) (h : laws_heldRecordS.f k l0 a1 = some r) :
  Calls Try.prog 64 #[.slice A0 l0.length c0, .int .i64 a1] w fun e w' => e = .returned (.int .i64 r) ∧ Drawn0 w w' := by
 have HR0 := ak hr0; have Ep := ak hc0; clear hr0 hc0; have H := h
 clear h; unfold laws_heldRecordS.f at H; have H' := ak H; clear H
 go_enter Try.func64, Try.ntmps64
 go_wp2
 go_loopg [1, 5] k (fun kq v1 v5 w' => ∃ (Ab : Int) (Aa : Int), v1 = .int .i64 Ab ∧ v5 = .int .i64 Aa ∧ Aside0 (laws_heldRecordS.l0 kq l0 Ab Aa = some r) ∧ Aside0 (kq ≤ k) ∧ Drawn0 w w')
 case atStart => exact ⟨(a1), (0), rs_q, rs_q, H', ⟨Nat.le_refl _⟩, by repeat (first | exact Drawn0.refl _ | apply Drawn0.step)⟩
 case round =>
  clear H'; (try clear p2); obtain ⟨Ab, Aa, rfl, rfl, HA, Dw, ⟨m1, rfl⟩⟩ := hrel
  cases gk with
  | zero => exact absurd HA.out (by simp [laws_heldRecordS.l0])
  | succ k1 =>
   have H := HA.out; clear HA
   simp only [laws_heldRecordS.l0] at H
   by_cases c3 : Aa < (l0.length : Int)
   ·rw [if_pos c3] at H
    have Ea : decide (Aa < (l0.length : Int)) = true := decide_eq_true c3
    clear c3
    by_cases c4 : 0 ≤ Aa
    ·rw [if_pos c4] at H
     have Eo : decide (0 ≤ Aa) = true := decide_eq_true c4
     clear c4; have Dx := ak H; clear H
     have p755 : 0 ≤ (Aa : Int) := of_decide_eq_true as_q
     have q755 : Aa < (l0.length : Int) := of_decide_eq_true as_q
     obtain ⟨Ad, A755_5, c755_5, e755, At, Au, Av, Aw, Ax, Ay, Az, Ba, hl755_5, hi755_5⟩ := at_T24 HR0.out Aa p755 q755
     cases e755
     have Eb := ak hi755_5; have Ec := ak hl755_5; clear hi755_5 hl755_5; replace p755 := eq_true p755; replace q755 := eq_true q755
     go_upto_if 18 with (fail)
     (try clear At); (try clear Au); (try clear Av); (try clear Aw); (try clear Ax); (try clear Ay); (try clear Az); (try clear Ba); have H := Dx.out; clear Dx
     by_cases c6 : ((rd_T24 l0 Aa).f0) = Ab
     ·rw [if_pos c6] at H
      have An : (((rd_T24 l0 Aa).f0) == Ab) = true := bqi c6
      have Ao : (((rd_T24 l0 Aa).f0) != Ab) = false := bnf c6
      clear c6
      (first | rw [An] | rw [Ao] | (simp only [i64_w, i32_w]; first | rw [An] | rw [Ao]) | skip)
      have Dy := ak H; clear H
      have p756 : 0 ≤ (Aa : Int) := of_decide_eq_true as_q
      have q756 : Aa < (l0.length : Int) := of_decide_eq_true as_q
      obtain ⟨Dn, A756_5, c756_5, e756, Bb, Bc, Bd, Be, Bf, Bg, Bh, Bi, hl756_5, hi756_5⟩ := at_T24 HR0.out Aa p756 q756
      obtain rfl : Ad = Dn := (by injection e756)
      have Ed := ak hi756_5; have Ee := ak hl756_5; clear hi756_5 hl756_5; replace p756 := eq_true p756; replace q756 := eq_true q756
      go_upto_if 27 with (fail)
      (try clear Bb); (try clear Bc); (try clear Bd); (try clear Be); (try clear Bf); (try clear Bg); (try clear Bh); (try clear Bi); have H := Dy.out; clear Dy
      by_cases c8 : ((rd_T24 l0 Aa).f1) = (wrap64 (Ab + 1))
      ·rw [if_pos c8] at H
       have Ap : (((rd_T24 l0 Aa).f1) == (wrap64 (Ab + 1))) = true := bqi c8
       have Aq : (((rd_T24 l0 Aa).f1) != (wrap64 (Ab + 1))) = false := bnf c8
       clear c8
       (first | rw [Ap] | rw [Aq] | (simp only [i64_w, i32_w]; first | rw [Ap] | rw [Aq]) | skip)
       have Dz := ak H; clear H
       have p757 : 0 ≤ (Aa : Int) := of_decide_eq_true as_q
       have q757 : Aa < (l0.length : Int) := of_decide_eq_true as_q
       obtain ⟨Do, A757_5, c757_5, e757, Bj, Bk, Bl, Bm, Bn, Bo, Bp, Bq, hl757_5, hi757_5⟩ := at_T24 HR0.out Aa p757 q757
       obtain rfl : Ad = Do := (by injection e757)
       have Ef := ak hi757_5; have Eg := ak hl757_5; clear hi757_5 hl757_5; replace p757 := eq_true p757; replace q757 := eq_true q757
       go_upto_if 36 with (fail)
       (try clear Bj); (try clear Bk); (try clear Bl); (try clear Bm); (try clear Bn); (try clear Bo); (try clear Bp); (try clear Bq); have H := Dz.out; clear Dz
       by_cases c10 : ((rd_T24 l0 Aa).f2) = (wrap64 ((wrap64 (Ab + 1)) + 1))
       ·rw [if_pos c10] at H
        have Ae : (((rd_T24 l0 Aa).f2) == (wrap64 ((wrap64 (Ab + 1)) + 1))) = true := bqi c10
        have Af : (((rd_T24 l0 Aa).f2) != (wrap64 ((wrap64 (Ab + 1)) + 1))) = false := bnf c10
        clear c10
        (first | rw [Ae] | rw [Af] | (simp only [i64_w, i32_w]; first | rw [Ae] | rw [Af]) | skip)
        have Dj := ak H; clear H
        have p758 : 0 ≤ (Aa : Int) := of_decide_eq_true as_q
        have q758 : Aa < (l0.length : Int) := of_decide_eq_true as_q
        obtain ⟨Dp, A758_5, c758_5, e758, Br, Bs, Bt, Bu, Bv, Bw, Bx, By, hl758_5, hi758_5⟩ := at_T24 HR0.out Aa p758 q758
        obtain rfl : Ad = Dp := (by injection e758)
        have Eh := ak hi758_5; have Ei := ak hl758_5; clear hi758_5 hl758_5; replace p758 := eq_true p758; replace q758 := eq_true q758
        go_upto_if 45 with (fail)
        (try clear Br); (try clear Bs); (try clear Bt); (try clear Bu); (try clear Bv); (try clear Bw); (try clear Bx); (try clear By); have H := Dj.out; clear Dj
        by_cases c12 : ((rd_T24 l0 Aa).f3) = (wrap64 ((wrap64 ((wrap64 (Ab + 1)) + 1)) + 1))
        ·rw [if_pos c12] at H
         have Ag : (((rd_T24 l0 Aa).f3) == (wrap64 ((wrap64 ((wrap64 (Ab + 1)) + 1)) + 1))) = true := bqi c12
         have Ah : (((rd_T24 l0 Aa).f3) != (wrap64 ((wrap64 ((wrap64 (Ab + 1)) + 1)) + 1))) = false := bnf c12
         clear c12
         (first | rw [Ag] | rw [Ah] | (simp only [i64_w, i32_w]; first | rw [Ag] | rw [Ah]) | skip)
         have Dk := ak H; clear H
         have p759 : 0 ≤ (Aa : Int) := of_decide_eq_true as_q
         have q759 : Aa < (l0.length : Int) := of_decide_eq_true as_q
         obtain ⟨Dq, A759_5, c759_5, e759, Bz, Ca, Cb, Cc, Cd, Ce, Cf, Cg, hl759_5, hi759_5⟩ := at_T24 HR0.out Aa p759 q759
         obtain rfl : Ad = Dq := (by injection e759)
         have Ej := ak hi759_5; have Ek := ak hl759_5; clear hi759_5 hl759_5; replace p759 := eq_true p759; replace q759 := eq_true q759
         go_upto_if 54 with (fail)
         (try clear Bz); (try clear Ca); (try clear Cb); (try clear Cc); (try clear Cd); (try clear Ce); (try clear Cf); (try clear Cg); have H := Dk.out; clear Dk
         by_cases c14 : ((rd_T24 l0 Aa).f4) = (wrap64 ((wrap64 ((wrap64 ((wrap64 (Ab + 1)) + 1)) + 1)) + 1))
         ·rw [if_pos c14] at H
          have Ai : (((rd_T24 l0 Aa).f4) == (wrap64 ((wrap64 ((wrap64 ((wrap64 (Ab + 1)) + 1)) + 1)) + 1))) = true := bqi c14
          have Aj : (((rd_T24 l0 Aa).f4) != (wrap64 ((wrap64 ((wrap64 ((wrap64 (Ab + 1)) + 1)) + 1)) + 1))) = false := bnf c14
          clear c14
          (first | rw [Ai] | rw [Aj] | (simp only [i64_w, i32_w]; first | rw [Ai] | rw [Aj]) | skip)
          replace H := bsi H; obtain ⟨Ac, A150, H⟩ := H
          (try dsimp only at H)
          have A15 := ak A150; clear A150; have Dl := ak H; clear H
          have p760 : 0 ≤ (Aa : Int) := of_decide_eq_true as_q
          have q760 : Aa < (l0.length : Int) := of_decide_eq_true as_q
          obtain ⟨Dr, A760_5, c760_5, e760, Ch, Ci, Cj, Ck, Cl, Cm, Cn, Co, hl760_5, hi760_5⟩ := at_T24 HR0.out Aa p760 q760
          obtain rfl : Ad = Dr := (by injection e760)
          have Cp := ak hi760_5; have Cq := ak hl760_5; clear hi760_5 hl760_5; replace p760 := eq_true p760; replace q760 := eq_true q760
          go_upto_if 65 with (first | ((with_reducible refine gate_callee (f := 45) rfl ?_); refine goesL_ (some 63) rfl rfl Try.func45 (by kernel_rfl) rfl #[.slice A760_5 ((rd_T24 l0 Aa).f5).length c760_5, .int .i64 (wrap64 ((wrap64 ((wrap64 ((wrap64 ((wrap64 (Ab + 1)) + 1)) + 1)) + 1)) + 1))] rfl mp_q ?_; (with_reducible refine (laws_heldNearS.calls k1 _ _ ((rd_T24 l0 Aa).f5) (wrap64 ((wrap64 ((wrap64 ((wrap64 ((wrap64 (Ab + 1)) + 1)) + 1)) + 1)) + 1)) Ac _ ?side1 ?side2 A15.out).mono ?_); (case side1 => repeat (first | exact Cp.out | (with_reducible refine Kd.C_alloc ?_ _) | (with_reducible refine Kd.C_drewN ?_ _) | (with_reducible refine Kd.C_drew ?_))); (case side2 => exact Cq.out); rintro e w' ⟨rfl, ⟨nd, rfl⟩⟩; refine ⟨_, rfl, ?_⟩))
          (try clear Ch); (try clear Ci); (try clear Cj); (try clear Ck); (try clear Cl); (try clear Cm); (try clear Cn); (try clear Co); have H := Dl.out; clear Dl
          by_cases c17 : Ac < 0
          ·rw [if_pos c17] at H
           have Ak : decide (Ac < 0) = true := decide_eq_true c17
           clear c17
           (first | rw [Ak] | rw [Ar] | (simp only [i64_w, i32_w]; first | rw [Ak] | rw [Ar]) | skip)
           obtain rfl := Option.some.inj H
           go_wp2
           go_ret
           exact ⟨rs_q, dr_q⟩
          ·rw [if_neg c17] at H
           have Ak : decide (Ac < 0) = false := decide_eq_false c17
           clear c17
           (first | rw [Ak] | rw [Ar] | (simp only [i64_w, i32_w]; first | rw [Ak] | rw [Ar]) | skip)
           have Dm := ak H; clear H
           have p762 : 0 ≤ (Aa : Int) := of_decide_eq_true as_q
           have q762 : Aa < (l0.length : Int) := of_decide_eq_true as_q
           obtain ⟨Ds, A762_5, c762_5, e762, Cr, Cs, Ct, Cu, Cv, Cw, Cx, Cy, hl762_5, hi762_5⟩ := at_T24 HR0.out Aa p762 q762
           obtain rfl : Ad = Ds := (by injection e762)
           have El := ak hi762_5; have Em := ak hl762_5; clear hi762_5 hl762_5; replace p762 := eq_true p762; replace q762 := eq_true q762
           go_upto_if 72 with (fail)
           (try clear Cr); (try clear Cs); (try clear Ct); (try clear Cu); (try clear Cv); (try clear Cw); (try clear Cx); (try clear Cy); have H := Dm.out; clear Dm
           by_cases c19 : ((rd_T24 l0 Aa).f6) = Ac
           ·rw [if_pos c19] at H
            have Al : (((rd_T24 l0 Aa).f6) == Ac) = true := bqi c19
            have Am : (((rd_T24 l0 Aa).f6) != Ac) = false := bnf c19
            clear c19
            (first | rw [Al] | rw [Am] | (simp only [i64_w, i32_w]; first | rw [Al] | rw [Am]) | skip)
            by_cases c20 : (((rd_T24 l0 Aa).f7) != ((Int.tmod (wrap64 (Ac + 1)) 3) == 0)) = true
            ·rw [if_pos c20] at H
             have Dt : (((rd_T24 l0 Aa).f7) != ((Int.tmod (wrap64 (Ac + 1)) 3) == 0)) = true := c20
             (try (have Du : decide (((rd_T24 l0 Aa).f7) = ((Int.tmod (wrap64 (Ac + 1)) 3) == 0)) = false := by simpa using c20))
             (try (have Dv : (((rd_T24 l0 Aa).f7) == ((Int.tmod (wrap64 (Ac + 1)) 3) == 0)) = false := by simpa using c20))
             (try (have En : ¬ (((rd_T24 l0 Aa).f7) = ((Int.tmod (wrap64 (Ac + 1)) 3) == 0)) := by simpa using c20))
             clear c20; obtain rfl := Option.some.inj H
             have p763 : 0 ≤ (Aa : Int) := of_decide_eq_true as_q
             have q763 : Aa < (l0.length : Int) := of_decide_eq_true as_q
             obtain ⟨As, A763_5, c763_5, e763, Cz, Da, Db, Dc, Dd, De, Df, Dg, hl763_5, hi763_5⟩ := at_T24 HR0.out Aa p763 q763
             obtain rfl : Ad = As := (by injection e763)
             have Dh := ak hi763_5; have Di := ak hl763_5; clear hi763_5 hl763_5; replace p763 := eq_true p763; replace q763 := eq_true q763
             go_wp2
             go_ret
             exact ⟨rs_q, dr_q⟩
            ·rw [if_neg c20] at H
             have Dt : (((rd_T24 l0 Aa).f7) != ((Int.tmod (wrap64 (Ac + 1)) 3) == 0)) = false := by simpa using c20
             (try (have Du : decide (((rd_T24 l0 Aa).f7) = ((Int.tmod (wrap64 (Ac + 1)) 3) == 0)) = true := by simpa using c20))
             (try (have Dv : (((rd_T24 l0 Aa).f7) == ((Int.tmod (wrap64 (Ac + 1)) 3) == 0)) = true := by simpa using c20))
             clear c20; have H' := ak H; clear H
             have p763 : 0 ≤ (Aa : Int) := of_decide_eq_true as_q
             have q763 : Aa < (l0.length : Int) := of_decide_eq_true as_q
             obtain ⟨As, A763_5, c763_5, e763, Cz, Da, Db, Dc, Dd, De, Df, Dg, hl763_5, hi763_5⟩ := at_T24 HR0.out Aa p763 q763
             obtain rfl : Ad = As := (by injection e763)
             have Dh := ak hi763_5; have Di := ak hl763_5; clear hi763_5 hl763_5; replace p763 := eq_true p763; replace q763 := eq_true q763
             go_wp2
             go_roundg k1
             case measure => have := Dw.out; omega
             case rel => exact ⟨(wrap64 ((wrap64 (Ac + 1)) + 1)), (wrap64 (Aa + 1)), rs_q, rs_q, H', ⟨by have := Dw.out; omega⟩, by repeat (first | exact Drawn0.refl _ | apply Drawn0.step)⟩
           ·rw [if_neg c19] at H
            have Al : (((rd_T24 l0 Aa).f6) == Ac) = false := bqf c19
            have Am : (((rd_T24 l0 Aa).f6) != Ac) = true := bni c19
            (first | rw [Al] | rw [Am] | (simp only [i64_w, i32_w]; first | rw [Al] | rw [Am]) | skip)
            obtain rfl := Option.some.inj H
            go_wp2
            go_ret
            exact ⟨rs_q, dr_q⟩
         ·rw [if_neg c14] at H
          have Ai : (((rd_T24 l0 Aa).f4) == (wrap64 ((wrap64 ((wrap64 ((wrap64 (Ab + 1)) + 1)) + 1)) + 1))) = false := bqf c14
          have Aj : (((rd_T24 l0 Aa).f4) != (wrap64 ((wrap64 ((wrap64 ((wrap64 (Ab + 1)) + 1)) + 1)) + 1))) = true := bni c14
          (first | rw [Ai] | rw [Aj] | (simp only [i64_w, i32_w]; first | rw [Ai] | rw [Aj]) | skip)
          obtain rfl := Option.some.inj H
          go_wp2
          go_ret
          exact ⟨rs_q, dr_q⟩
        ·rw [if_neg c12] at H
         have Ag : (((rd_T24 l0 Aa).f3) == (wrap64 ((wrap64 ((wrap64 (Ab + 1)) + 1)) + 1))) = false := bqf c12
         have Ah : (((rd_T24 l0 Aa).f3) != (wrap64 ((wrap64 ((wrap64 (Ab + 1)) + 1)) + 1))) = true := bni c12
         (first | rw [Ag] | rw [Ah] | (simp only [i64_w, i32_w]; first | rw [Ag] | rw [Ah]) | skip)
         obtain rfl := Option.some.inj H
         go_wp2
         go_ret
         exact ⟨rs_q, dr_q⟩
       ·rw [if_neg c10] at H
        have Ae : (((rd_T24 l0 Aa).f2) == (wrap64 ((wrap64 (Ab + 1)) + 1))) = false := bqf c10
        have Af : (((rd_T24 l0 Aa).f2) != (wrap64 ((wrap64 (Ab + 1)) + 1))) = true := bni c10
        (first | rw [Ae] | rw [Af] | (simp only [i64_w, i32_w]; first | rw [Ae] | rw [Af]) | skip)
        obtain rfl := Option.some.inj H
        go_wp2
        go_ret
        exact ⟨rs_q, dr_q⟩
      ·rw [if_neg c8] at H
       have Ap : (((rd_T24 l0 Aa).f1) == (wrap64 (Ab + 1))) = false := bqf c8
       have Aq : (((rd_T24 l0 Aa).f1) != (wrap64 (Ab + 1))) = true := bni c8
       (first | rw [Ap] | rw [Aq] | (simp only [i64_w, i32_w]; first | rw [Ap] | rw [Aq]) | skip)
       obtain rfl := Option.some.inj H
       go_wp2
       go_ret
       exact ⟨rs_q, dr_q⟩
     ·rw [if_neg c6] at H
      have An : (((rd_T24 l0 Aa).f0) == Ab) = false := bqf c6
      have Ao : (((rd_T24 l0 Aa).f0) != Ab) = true := bni c6
      (first | rw [An] | rw [Ao] | (simp only [i64_w, i32_w]; first | rw [An] | rw [Ao]) | skip)
      obtain rfl := Option.some.inj H
      go_wp2
      go_ret
      exact ⟨rs_q, dr_q⟩
    ·rw [if_neg c4] at H
     exact absurd H (by simp)
   ·rw [if_neg c3] at H
    have Ea : decide (Aa < (l0.length : Int)) = false := decide_eq_false c3
    clear c3; obtain rfl := Option.some.inj H
    go_wp2
    go_ret
    exact ⟨rs_q, dr_q⟩

/-! ### laws_heldPacket: function 22 -/
def laws_heldPacket.f (k : Nat) (e : Int) (g : Int) (h : Int) (i : Int) (c : List Int) (d : List (S24)) (a1 : Int) : Option (Int) := (laws_heldIntS.f k c a1).bind fun a => (if a < 0 then (some (-1)) else ((laws_heldRecordS.f k d a).bind fun b => (if b < 0 then (some (-1)) else (some b))))
theorem laws_heldPacket.mono : ∀ a0 a1 a2 a3 a4 a5 a6 k, LeO (laws_heldPacket.f k a0 a1 a2 a3 a4 a5 a6) (laws_heldPacket.f (k + 1) a0 a1 a2 a3 a4 a5 a6) := by
 intro a0 a1 a2 a3 a4 a5 a6 k
 unfold laws_heldPacket.f
 with_reducible repeat' (first | apply laws_heldIntS.mono | apply laws_heldRecordS.mono | exact LeO.refl _ | exact LeO.none _ | refine LeO.ite ?_ ?_ | refine LeO.bind ?_ (fun _ => ?_))
set_option maxHeartbeats 8000000 in
set_option maxRecDepth 100000 in
theorem laws_heldPacket.calls (k : Nat) (Al : Int) (Am : Int) (An : Int) (Ao : Int) (Af : Option Addr) (Ag : Nat) (Aa : List Int) (Ah : Option Addr) (Ai : Nat) (Ab : List (S24)) (a1 : Int) (r : Int) (w : World) (hr0_4 : Kd.C (Kd.int .i64) w Af Aa.length Aa) (hc0_4 : Aa.length ≤ Ag) (hr0_5 : Kd.C k24 w Ah Ab.length Ab) (hc0_5 : Ab.length ≤ Ai) (h : laws_heldPacket.f k Al Am An Ao Aa Ab a1 = some r) :
  Calls Try.prog 22 #[.agg #[.int .i64 Al, .int .i64 Am, .int .i64 An, .int .i64 Ao, .slice Af Aa.length Ag, .slice Ah Ab.length Ai], .int .i64 a1] w fun e w' => e = .returned (.int .i64 r) ∧ Below w.heap.size w w' := by
 have hu39 := Try.underlying39; have Ar := ak hr0_4; have As := ak hc0_4; clear hr0_4 hc0_4; have At := ak hr0_5; have Au := ak hc0_5; clear hr0_5 hc0_5; have HB := ak (Below.refl w.heap.size w); have H := h
 clear h; unfold laws_heldPacket.f at H; replace H := bsi H; obtain ⟨Ad, A30, H⟩ := H
 (try dsimp only at H)
 have A3 := ak A30; clear A30; have Av := ak H; clear H
 go_enter Try.func22, Try.ntmps22
 go_upto_if 10 with (first | ((with_reducible refine gate_dst (N := 2) rfl ?_); refine box_q 2 #[.int .i64 Al, .int .i64 Am, .int .i64 An, .int .i64 Ao, .slice Af Aa.length Ag, .slice Ah Ab.length Ai] 39 ?_; intro Bv hg w5 hbox hb; have Aq := ak (hbox); have Bw := gsz w (below_size (bw_q HB)) hg; have Bx := gsz w (below_size (bw_q HB)) hg; replace HB := ak (below_step (bw_q HB) hb); clear hb hbox hg; obtain ⟨Bj, Bk, Bl, Bm, Bn, Bo, Bp, Bq, Br, Bs, Bt, Bu⟩ := cf6_ Aq) | ((with_reducible refine gate_callee (f := 63) rfl ?_); refine goesL_ (some 8) rfl rfl Try.func63 (by kernel_rfl) rfl #[.slice Af Aa.length Ag, .int .i64 a1] rfl mp_q ?_; (with_reducible refine (laws_heldIntS.calls k _ _ Aa a1 Ad _ ?side1 ?side2 A3.out).mono ?_); (case side1 => exact cs_q (Kd.C_below Ar.out HB.out)); (case side2 => exact As.out); rintro e w' ⟨rfl, ⟨nd, rfl⟩⟩; refine ⟨_, rfl, ?_⟩))
 have H := Av.out; clear Av
 by_cases c7 : Ad < 0
 ·rw [if_pos c7] at H
  have Ae : decide (Ad < 0) = true := decide_eq_true c7
  clear c7
  (first | rw [Ae] | rw [Ap] | (simp only [i64_w, i32_w]; first | rw [Ae] | rw [Ap]) | skip)
  obtain rfl := Option.some.inj H
  go_wp2
  go_ret
  exact ⟨er_q, bw_q HB⟩
 ·rw [if_neg c7] at H
  have Ae : decide (Ad < 0) = false := decide_eq_false c7
  clear c7
  (first | rw [Ae] | rw [Ap] | (simp only [i64_w, i32_w]; first | rw [Ae] | rw [Ap]) | skip)
  replace H := bsi H; obtain ⟨Aj, A80, H⟩ := H
  (try dsimp only at H)
  have A8 := ak A80; clear A80; have Aw := ak H; clear H; obtain ⟨Ax, Ay, Az, Ba, Bb, Bc, Bd, Be, Bf, Bg, Bh, Bi⟩ := cf6_ Aq
  go_upto_if 16 with (first | ((with_reducible refine gate_callee (f := 64) rfl ?_); refine goesL_ (some 14) rfl rfl Try.func64 (by kernel_rfl) rfl #[.slice Ah Ab.length Ai, .int .i64 Ad] rfl mp_q ?_; (with_reducible refine (laws_heldRecordS.calls k _ _ Ab Ad Aj _ ?side1 ?side2 A8.out).mono ?_); (case side1 => exact cs_q (Kd.C_below At.out HB.out)); (case side2 => exact Au.out); rintro e w' ⟨rfl, ⟨nd, rfl⟩⟩; refine ⟨_, rfl, ?_⟩))
  have H := Aw.out; clear Aw
  by_cases c11 : Aj < 0
  ·rw [if_pos c11] at H
   have Ac : decide (Aj < 0) = true := decide_eq_true c11
   clear c11
   (first | rw [Ac] | rw [Ak] | (simp only [i64_w, i32_w]; first | rw [Ac] | rw [Ak]) | skip)
   obtain rfl := Option.some.inj H
   go_wp2
   go_ret
   exact ⟨er_q, bw_q HB⟩
  ·rw [if_neg c11] at H
   have Ac : decide (Aj < 0) = false := decide_eq_false c11
   clear c11
   (first | rw [Ac] | rw [Ak] | (simp only [i64_w, i32_w]; first | rw [Ac] | rw [Ak]) | skip)
   obtain rfl := Option.some.inj H
   go_wp2
   go_ret
   exact ⟨er_q, bw_q HB⟩

end Go.Proofs.Ytnecbkognpponaa.Q
