/- A Go function as a Lean function, and its contract: for every input the Go code comes to what the Lean function tells. The rows that are handed in are the call's own, as are the rows that they lead to. -/
import Derived.Test.YtjkjhaiemephdaaQk
import Derived.Test.YtjkjhaiemephdaaQlawsmarkIntS
namespace Go.Proofs.Ytjkjhaiemephdaa.Q
open Go.RowKit Go.Proofs.YtjkjhaiemephdaaW.PrintWords Go.Proofs.YtjkjhaiemephdaaW.PrintLast Go.Proofs.YtjkjhaiemephdaaW.PrintMore
attribute [local go_sem] max2_int min2_int max_two min_two max_three min_three max_four min_four   -- for this text's walks alone
set_option linter.unusedVariables false
set_option linter.unusedSimpArgs false

/-! ### laws_markRouteS: function 67 -/
def laws_markRouteS.l0 : Nat → List (S135) → Int → Int → Option (Int × (List (S135)))
  | 0, _, _, _ => none
  | k + 1, x0, x1, x5 => if x5 < (x0.length : Int) then (if 0 ≤ x5 then ((laws_markIntS.f k ((rd_T135 x0 x5).f5) (wrap64 ((wrap64 ((wrap64 ((wrap64 ((wrap64 (x1 + 1)) + 1)) + 1)) + 1)) + 1))).bind fun q => (laws_markRouteS.l0 k (x0.set (x5 : Int).toNat (⟨(Int.tmod x1 3) == 0, wrap64 (x1 + 1), wrap64 ((wrap64 (x1 + 1)) + 1), wrap64 ((wrap64 ((wrap64 (x1 + 1)) + 1)) + 1), wrap64 ((wrap64 ((wrap64 ((wrap64 (x1 + 1)) + 1)) + 1)) + 1), q.2⟩ : S135)) q.1 (wrap64 (x5 + 1)))) else (none)) else (some (x1, x0))
def laws_markRouteS.f (k : Nat) (l0 : List (S135)) (a1 : Int) : Option (Int × (List (S135))) := laws_markRouteS.l0 k l0 a1 0
theorem laws_markRouteS.mono_l : ∀ k, (∀ y0 y1 y2, LeO (laws_markRouteS.l0 k y0 y1 y2) (laws_markRouteS.l0 (k + 1) y0 y1 y2))
  | 0 => fun _ _ _ r h => by simp [laws_markRouteS.l0] at h
  | k + 1 => by
    have ih0 := laws_markRouteS.mono_l k
    intro y0 y1 y2
    unfold laws_markRouteS.l0
    repeat' first
      | (with_reducible exact ih0 _ _ _)
      | (with_reducible exact laws_markIntS.mono _ _ _)
      | (with_reducible exact LeO.refl _)
      | (with_reducible exact LeO.none _)
      | (with_reducible refine LeO.ite ?_ ?_)
      | (with_reducible refine LeO.bind ?_ (fun _ => ?_))
      | exact ih0 _ _ _
      | exact laws_markIntS.mono _ _ _
      | exact LeO.none _
      | refine LeO.ite ?_ ?_
      | refine LeO.bind ?_ (fun _ => ?_)
theorem laws_markRouteS.mono : ∀ a0 a1 k, LeO (laws_markRouteS.f k a0 a1) (laws_markRouteS.f (k + 1) a0 a1) := by
  intro a0 a1 k
  exact laws_markRouteS.mono_l k _ _ _
/-- An element that is known, out of a row of the call's own. -/
theorem laws_markRouteS.at_ {d : Kd S135} {e base g n cap : Nat} {ok : Nat → Prop} {W : World} {xs : List S135} {x : S135} {i : Int} (h : Kd.S d e W base ok (.slice (some ⟨g, 0, none⟩) n cap) (xs.set i.toNat x)) (h0 : 0 ≤ i) (h1 : i < (n : Int)) :
    ∃ (oki : Nat → Prop) (c : List Value), c.length = d.sz ∧ d.M W base oki x c ∧ (∀ j u, c[j]? = some u → W.cell? ⟨g, i.toNat * d.sz + j, none⟩ = some u) ∧ (∀ j, W.frozen? ⟨g, i.toNat * d.sz + j, none⟩ = false) ∧ (∀ k, oki k → ok k ∧ k ≠ g) ∧ Kd.H d e W base ok (.slice (some ⟨g, 0, none⟩) n cap) (xs.set i.toNat x) i oki c := by
  have hn := (Kd.S_reads' h).1
  obtain ⟨oki, c, a1, a2, a3, a4, a5, a6⟩ := Kd.S_elem h x i h0 h1
  rw [List.length_set] at hn
  rw [List.getD_eq_getElem?_getD, List.getElem?_set_self (by omega)] at a2
  exact ⟨oki, c, a1, a2, a3, a4, a5, a6⟩
theorem laws_markRouteS.put_ {d : Kd S135} {e base g n cap : Nat} {ok oki okp : Nat → Prop} {W : World} {xs : List S135} {x x' : S135} {i : Int} {c : List Value} (hH : Kd.H d e W base ok (.slice (some ⟨g, 0, none⟩) n cap) (xs.set i.toNat x) i oki c) (h0 : 0 ≤ i) (h1 : i < (n : Int)) {u : Value} {j : Nat} (hj : j + 1 ≤ d.sz)
    (hM : d.M W base okp x' (c.take j ++ [u] ++ c.drop (j + 1))) (hokp : ∀ k, okp k → oki k) : Kd.S d e (W.setCell ⟨g, i.toNat * d.sz + j, none⟩ u) base ok (.slice (some ⟨g, 0, none⟩) n cap) (xs.set i.toNat x') ∧ W.grownBy (W.setCell ⟨g, i.toNat * d.sz + j, none⟩ u) (some g) := by
  have h := Kd.S_seg0 hH h0 h1 (seg := [u]) hj hM hokp
  rw [List.set_set] at h
  exact h
theorem laws_markRouteS.call_ {d : Kd S135} {e base g n cap : Nat} {ok oki okp : Nat → Prop} {W W2 : World} {xs : List S135} {x x' : S135} {i : Int} {c : List Value} (hH : Kd.H d e W base ok (.slice (some ⟨g, 0, none⟩) n cap) (xs.set i.toNat x) i oki c) (hk : Kept W W2 oki)
    (hM : d.M W2 base okp x' c) (hokp : ∀ k, okp k → oki k) : Kd.S d e W2 base ok (.slice (some ⟨g, 0, none⟩) n cap) (xs.set i.toNat x') := by
  have h := Kd.H_back (Kd.H_kept hH hk (fun _ _ hn => hn)) hM hokp
  rw [List.set_set] at h
  exact h
theorem laws_markRouteS.start_ {xs : List S135} {i : Int} (h1 : i < (xs.length : Int)) (h0 : 0 ≤ i) : xs.set i.toNat (rd_T135 xs i) = xs := by
  unfold rd_T135
  rw [List.getD_eq_getElem?_getD, List.getElem?_eq_getElem (by omega)]
  exact List.set_getElem_self _
set_option maxHeartbeats 8000000 in
set_option maxRecDepth 100000 in
theorem laws_markRouteS.calls (k : Nat) (P0_ : Nat → Prop) (u9000_ : Value) (l0 : List (S135)) (a1 : Int) (r1 : Int) (r2 : List (S135)) (w0 w : World) (hB : Below w0.heap.size w0 w) (ho0 : Kd.S k135 135 w w0.heap.size P0_ u9000_ l0) (h : laws_markRouteS.f k l0 a1 = some (r1, r2)) :
    Calls Try.prog 67 #[u9000_, .int .i64 a1] w fun e w' => e = .returned (.int .i64 r1) ∧ Kd.S k135 135 w' w0.heap.size P0_ u9000_ r2 ∧ Below w0.heap.size w0 w' ∧ Kept w w' P0_ := by
  have HO0 := Aside0.mk ho0
  have HK := Aside0.mk (Kept.refl w P0_)
  have HB := Aside0.mk hB
  clear hB ho0
  have H' := Aside0.mk (show laws_markRouteS.l0 k l0 a1 0 = some (r1, r2) from h)
  clear h
  go_enter Try.func67, Try.ntmps67
  go_wp2
  go_loopg [1, 5] k (fun kq v1 v5 w' => ∃ (x0_1 : List (S135)) (x1_1 : Int) (x5_1 : Int), v1 = .int .i64 x1_1 ∧ v5 = .int .i64 x5_1 ∧ Aside0 (laws_markRouteS.l0 kq x0_1 x1_1 x5_1 = some (r1, r2)) ∧ Aside0 (kq ≤ k) ∧ Aside0 (Kd.S k135 135 w' w0.heap.size P0_ u9000_ x0_1) ∧ Aside0 (Kept w w' P0_) ∧ Aside0 (Below w0.heap.size w0 w'))
  case atStart => exact ⟨l0, a1, 0, (by first | rfl | (simp; done) | (simp [*]; done)), (by first | rfl | (simp; done) | (simp [*]; done)), H', ⟨Nat.le_refl _⟩, ⟨by (with_reducible repeat (first | apply Kd.S_alloc | apply Kd.S_drewN | apply Kd.S_drew)); exact HO0.out⟩, ⟨by repeat (first | (with_reducible first | exact HK.out | apply Kept.alloc | apply Kept.drewN | apply Kept.drew) | exact HK.out)⟩, ⟨by repeat (first | (with_reducible first | exact HB.out | apply below_alloc | apply pw_below_drewN | apply below_drew1) | exact HB.out)⟩⟩
  case round =>
    clear H'
    try clear p2
    obtain ⟨x0_1, x1_1, x5_1, rfl, rfl, HA, HK1, HO, HK, HB⟩ := hrel
    cases gk with
    | zero => exact absurd HA.out (by simp [laws_markRouteS.l0])
    | succ k1 =>
      have H := HA.out
      clear HA
      simp only [laws_markRouteS.l0] at H
      by_cases c3 : x5_1 < (x0_1.length : Int)
      · rw [if_pos c3] at H
        have c3b0 : decide (x5_1 < (x0_1.length : Int)) = true := decide_eq_true c3
        by_cases c4 : 0 ≤ x5_1
        · rw [if_pos c4] at H
          have c4b0 : decide (0 ≤ x5_1) = true := decide_eq_true c4
          replace H := Option.bind_eq_some_iff.mp H
          obtain ⟨⟨t, y⟩, A, H⟩ := H
          have H' := Aside0.mk H
          clear H
          have A := Aside0.mk A
          obtain ⟨Ao7, co7, eo7⟩ := Kd.S_slice HO.out
          subst eo7
          obtain ⟨go, co, eo, gb, gl, cl, HG⟩ := Kd.S_form HO.out (by omega)
          (first | cases eo | (injection eo with ea_ en_ ec_; (first | subst ea_ | (injection ea_ with ea_; subst ea_)); subst ec_; clear en_))
          have GB := Aside0.mk gb
          have GP := Aside0.mk (show P0_ go from (Kd.S_R HO.out).1 go rfl)
          clear gb gl HG
          have p : 0 ≤ (x5_1 : Int) := c4
          have q : (x5_1 : Int) < ((x0_1.length : Nat) : Int) := c3
          have HS : Kd.S k135 135 wr w0.heap.size P0_ (.slice (some ⟨go, 0, none⟩) x0_1.length co7) (x0_1.set (x5_1 : Int).toNat (rd_T135 x0_1 x5_1)) := by rw [laws_markRouteS.start_ q p]; exact HO.out
          clear HO
          generalize rd_T135 x0_1 x5_1 = e at *
          obtain ⟨oka, ca, cla, cma, cca, cfa, coa, cha⟩ := laws_markRouteS.at_ HS p q
          obtain ⟨va, rfl, gea⟩ := k135_openM cma
          have hxa_0 : wr.cell? ⟨go, (x5_1 : Int).toNat * 6, none⟩ = some (.bool (e.f0)) := cca 0 _ rfl
          have hfa_0 : wr.frozen? ⟨go, (x5_1 : Int).toNat * 6, none⟩ = false := cfa 0
          have hxa_1 : wr.cell? ⟨go, (x5_1 : Int).toNat * 6 + 1, none⟩ = some (.int .i64 (e.f1)) := cca 1 _ rfl
          have hfa_1 : wr.frozen? ⟨go, (x5_1 : Int).toNat * 6 + 1, none⟩ = false := cfa 1
          have hxa_2 : wr.cell? ⟨go, (x5_1 : Int).toNat * 6 + 2, none⟩ = some (.int .i64 (e.f2)) := cca 2 _ rfl
          have hfa_2 : wr.frozen? ⟨go, (x5_1 : Int).toNat * 6 + 2, none⟩ = false := cfa 2
          have hxa_3 : wr.cell? ⟨go, (x5_1 : Int).toNat * 6 + 3, none⟩ = some (.int .i64 (e.f3)) := cca 3 _ rfl
          have hfa_3 : wr.frozen? ⟨go, (x5_1 : Int).toNat * 6 + 3, none⟩ = false := cfa 3
          have hxa_4 : wr.cell? ⟨go, (x5_1 : Int).toNat * 6 + 4, none⟩ = some (.int .i64 (e.f4)) := cca 4 _ rfl
          have hfa_4 : wr.frozen? ⟨go, (x5_1 : Int).toNat * 6 + 4, none⟩ = false := cfa 4
          have hxa_5 : wr.cell? ⟨go, (x5_1 : Int).toNat * 6 + 5, none⟩ = some (va) := cca 5 _ rfl
          have hfa_5 : wr.frozen? ⟨go, (x5_1 : Int).toNat * 6 + 5, none⟩ = false := cfa 5
          clear cla cma cca cfa
          have p_ := eq_true p
          have q_ := eq_true q
          go_wp2_with (first | ((with_reducible refine gate_store (t := 4) (p := 18) rfl ?_); refine store_event (t := 4) (p := 18) (v := ?vo_wb) (w1 := (wr.setCell ⟨go, (x5_1 : Int).toNat * 6, none⟩ (.bool ((Int.tmod x1_1 3) == 0)))) ?hg ?ho ?hn ?hr ?_; (case ho => rfl); (case hg => rfl); (case hn => rfl); (case hr => first | (go_simp; done) | (go_simp; rfl)); intro wb hw; have HP0 := laws_markRouteS.put_ (x' := (⟨(Int.tmod x1_1 3) == 0, e.f1, e.f2, e.f3, e.f4, e.f5⟩ : S135)) (u := .bool ((Int.tmod x1_1 3) == 0)) (j := 0) cha p q (show 0 + 1 ≤ 6 by decide) (k135_mkM _ _ _ (⟨(Int.tmod x1_1 3) == 0, e.f1, e.f2, e.f3, e.f4, e.f5⟩ : S135) gea) (fun _ h_ => h_); have hg : wr.grownBy wb (some go) := (by rw [hw]; exact HP0.2); have HP : Kd.S k135 135 wb w0.heap.size P0_ (.slice (some ⟨go, 0, none⟩) x0_1.length co7) (x0_1.set (x5_1 : Int).toNat (⟨(Int.tmod x1_1 3) == 0, e.f1, e.f2, e.f3, e.f4, e.f5⟩ : S135)) := (by rw [hw]; exact HP0.1); have n1_ := Aside0.mk ((by rw [hw]; exact below_set (HB.out) GB.out : Below w0.heap.size w0 wb)); have n2_ := Aside0.mk (Kept.of_grown (S := P0_) hg (by repeat (first | (with_reducible first | exact HK.out | apply Kept.alloc | apply Kept.drewN | apply Kept.drew) | exact HK.out)) (fun k_ e_ => .inl (by injection e_ with e_; rw [← e_]; exact GP.out))); clear HB HK hg hw HP0; have HB := n1_; have HK := n2_; clear n1_ n2_; clear hxa_0 hxa_1 hxa_2 hxa_3 hxa_4 hxa_5 hfa_0 hfa_1 hfa_2 hfa_3 hfa_4 hfa_5 gea coa cha; have HSb := HP; clear HP; obtain ⟨okb, cb, clb, cmb, ccb, cfb, cob, chb⟩ := laws_markRouteS.at_ HSb p q; obtain ⟨vb, rfl, geb⟩ := k135_openM cmb; have hxb_0 : wb.cell? ⟨go, (x5_1 : Int).toNat * 6, none⟩ = some (.bool ((Int.tmod x1_1 3) == 0)) := ccb 0 _ rfl; have hfb_0 : wb.frozen? ⟨go, (x5_1 : Int).toNat * 6, none⟩ = false := cfb 0; have hxb_1 : wb.cell? ⟨go, (x5_1 : Int).toNat * 6 + 1, none⟩ = some (.int .i64 (e.f1)) := ccb 1 _ rfl; have hfb_1 : wb.frozen? ⟨go, (x5_1 : Int).toNat * 6 + 1, none⟩ = false := cfb 1; have hxb_2 : wb.cell? ⟨go, (x5_1 : Int).toNat * 6 + 2, none⟩ = some (.int .i64 (e.f2)) := ccb 2 _ rfl; have hfb_2 : wb.frozen? ⟨go, (x5_1 : Int).toNat * 6 + 2, none⟩ = false := cfb 2; have hxb_3 : wb.cell? ⟨go, (x5_1 : Int).toNat * 6 + 3, none⟩ = some (.int .i64 (e.f3)) := ccb 3 _ rfl; have hfb_3 : wb.frozen? ⟨go, (x5_1 : Int).toNat * 6 + 3, none⟩ = false := cfb 3; have hxb_4 : wb.cell? ⟨go, (x5_1 : Int).toNat * 6 + 4, none⟩ = some (.int .i64 (e.f4)) := ccb 4 _ rfl; have hfb_4 : wb.frozen? ⟨go, (x5_1 : Int).toNat * 6 + 4, none⟩ = false := cfb 4; have hxb_5 : wb.cell? ⟨go, (x5_1 : Int).toNat * 6 + 5, none⟩ = some (vb) := ccb 5 _ rfl; have hfb_5 : wb.frozen? ⟨go, (x5_1 : Int).toNat * 6 + 5, none⟩ = false := cfb 5; clear clb cmb ccb cfb) | ((with_reducible refine gate_store (t := 3) (p := 25) rfl ?_); refine store_event (t := 3) (p := 25) (v := ?vo_wc) (w1 := (wb.setCell ⟨go, (x5_1 : Int).toNat * 6 + 1, none⟩ (.int .i64 (wrap64 (x1_1 + 1))))) ?hg ?ho ?hn ?hr ?_; (case ho => rfl); (case hg => rfl); (case hn => rfl); (case hr => first | (go_simp; done) | (go_simp; rfl)); intro wc hw; have HP0 := laws_markRouteS.put_ (x' := (⟨(Int.tmod x1_1 3) == 0, wrap64 (x1_1 + 1), e.f2, e.f3, e.f4, e.f5⟩ : S135)) (u := .int .i64 (wrap64 (x1_1 + 1))) (j := 1) chb p q (show 1 + 1 ≤ 6 by decide) (k135_mkM _ _ _ (⟨(Int.tmod x1_1 3) == 0, wrap64 (x1_1 + 1), e.f2, e.f3, e.f4, e.f5⟩ : S135) geb) (fun _ h_ => h_); have hg : wb.grownBy wc (some go) := (by rw [hw]; exact HP0.2); have HP : Kd.S k135 135 wc w0.heap.size P0_ (.slice (some ⟨go, 0, none⟩) x0_1.length co7) (x0_1.set (x5_1 : Int).toNat (⟨(Int.tmod x1_1 3) == 0, wrap64 (x1_1 + 1), e.f2, e.f3, e.f4, e.f5⟩ : S135)) := (by rw [hw]; exact HP0.1); have n1_ := Aside0.mk ((by rw [hw]; exact below_set (HB.out) GB.out : Below w0.heap.size w0 wc)); have n2_ := Aside0.mk (Kept.of_grown (S := P0_) hg (by repeat (first | (with_reducible first | exact HK.out | apply Kept.alloc | apply Kept.drewN | apply Kept.drew) | exact HK.out)) (fun k_ e_ => .inl (by injection e_ with e_; rw [← e_]; exact GP.out))); clear HB HK hg hw HP0; have HB := n1_; have HK := n2_; clear n1_ n2_; clear hxb_0 hxb_1 hxb_2 hxb_3 hxb_4 hxb_5 hfb_0 hfb_1 hfb_2 hfb_3 hfb_4 hfb_5 geb cob chb; have HSc := HP; clear HP; obtain ⟨okc, cc, clc, cmc, ccc, cfc, coc, chc⟩ := laws_markRouteS.at_ HSc p q; obtain ⟨vc, rfl, gec⟩ := k135_openM cmc; have hxc_0 : wc.cell? ⟨go, (x5_1 : Int).toNat * 6, none⟩ = some (.bool ((Int.tmod x1_1 3) == 0)) := ccc 0 _ rfl; have hfc_0 : wc.frozen? ⟨go, (x5_1 : Int).toNat * 6, none⟩ = false := cfc 0; have hxc_1 : wc.cell? ⟨go, (x5_1 : Int).toNat * 6 + 1, none⟩ = some (.int .i64 (wrap64 (x1_1 + 1))) := ccc 1 _ rfl; have hfc_1 : wc.frozen? ⟨go, (x5_1 : Int).toNat * 6 + 1, none⟩ = false := cfc 1; have hxc_2 : wc.cell? ⟨go, (x5_1 : Int).toNat * 6 + 2, none⟩ = some (.int .i64 (e.f2)) := ccc 2 _ rfl; have hfc_2 : wc.frozen? ⟨go, (x5_1 : Int).toNat * 6 + 2, none⟩ = false := cfc 2; have hxc_3 : wc.cell? ⟨go, (x5_1 : Int).toNat * 6 + 3, none⟩ = some (.int .i64 (e.f3)) := ccc 3 _ rfl; have hfc_3 : wc.frozen? ⟨go, (x5_1 : Int).toNat * 6 + 3, none⟩ = false := cfc 3; have hxc_4 : wc.cell? ⟨go, (x5_1 : Int).toNat * 6 + 4, none⟩ = some (.int .i64 (e.f4)) := ccc 4 _ rfl; have hfc_4 : wc.frozen? ⟨go, (x5_1 : Int).toNat * 6 + 4, none⟩ = false := cfc 4; have hxc_5 : wc.cell? ⟨go, (x5_1 : Int).toNat * 6 + 5, none⟩ = some (vc) := ccc 5 _ rfl; have hfc_5 : wc.frozen? ⟨go, (x5_1 : Int).toNat * 6 + 5, none⟩ = false := cfc 5; clear clc cmc ccc cfc) | ((with_reducible refine gate_store (t := 3) (p := 32) rfl ?_); refine store_event (t := 3) (p := 32) (v := ?vo_wd) (w1 := (wc.setCell ⟨go, (x5_1 : Int).toNat * 6 + 2, none⟩ (.int .i64 (wrap64 ((wrap64 (x1_1 + 1)) + 1))))) ?hg ?ho ?hn ?hr ?_; (case ho => rfl); (case hg => rfl); (case hn => rfl); (case hr => first | (go_simp; done) | (go_simp; rfl)); intro wd hw; have HP0 := laws_markRouteS.put_ (x' := (⟨(Int.tmod x1_1 3) == 0, wrap64 (x1_1 + 1), wrap64 ((wrap64 (x1_1 + 1)) + 1), e.f3, e.f4, e.f5⟩ : S135)) (u := .int .i64 (wrap64 ((wrap64 (x1_1 + 1)) + 1))) (j := 2) chc p q (show 2 + 1 ≤ 6 by decide) (k135_mkM _ _ _ (⟨(Int.tmod x1_1 3) == 0, wrap64 (x1_1 + 1), wrap64 ((wrap64 (x1_1 + 1)) + 1), e.f3, e.f4, e.f5⟩ : S135) gec) (fun _ h_ => h_); have hg : wc.grownBy wd (some go) := (by rw [hw]; exact HP0.2); have HP : Kd.S k135 135 wd w0.heap.size P0_ (.slice (some ⟨go, 0, none⟩) x0_1.length co7) (x0_1.set (x5_1 : Int).toNat (⟨(Int.tmod x1_1 3) == 0, wrap64 (x1_1 + 1), wrap64 ((wrap64 (x1_1 + 1)) + 1), e.f3, e.f4, e.f5⟩ : S135)) := (by rw [hw]; exact HP0.1); have n1_ := Aside0.mk ((by rw [hw]; exact below_set (HB.out) GB.out : Below w0.heap.size w0 wd)); have n2_ := Aside0.mk (Kept.of_grown (S := P0_) hg (by repeat (first | (with_reducible first | exact HK.out | apply Kept.alloc | apply Kept.drewN | apply Kept.drew) | exact HK.out)) (fun k_ e_ => .inl (by injection e_ with e_; rw [← e_]; exact GP.out))); clear HB HK hg hw HP0; have HB := n1_; have HK := n2_; clear n1_ n2_; clear hxc_0 hxc_1 hxc_2 hxc_3 hxc_4 hxc_5 hfc_0 hfc_1 hfc_2 hfc_3 hfc_4 hfc_5 gec coc chc; have HSd := HP; clear HP; obtain ⟨okd, cd, cld, cmd, ccd, cfd, cod, chd⟩ := laws_markRouteS.at_ HSd p q; obtain ⟨vd, rfl, ged⟩ := k135_openM cmd; have hxd_0 : wd.cell? ⟨go, (x5_1 : Int).toNat * 6, none⟩ = some (.bool ((Int.tmod x1_1 3) == 0)) := ccd 0 _ rfl; have hfd_0 : wd.frozen? ⟨go, (x5_1 : Int).toNat * 6, none⟩ = false := cfd 0; have hxd_1 : wd.cell? ⟨go, (x5_1 : Int).toNat * 6 + 1, none⟩ = some (.int .i64 (wrap64 (x1_1 + 1))) := ccd 1 _ rfl; have hfd_1 : wd.frozen? ⟨go, (x5_1 : Int).toNat * 6 + 1, none⟩ = false := cfd 1; have hxd_2 : wd.cell? ⟨go, (x5_1 : Int).toNat * 6 + 2, none⟩ = some (.int .i64 (wrap64 ((wrap64 (x1_1 + 1)) + 1))) := ccd 2 _ rfl; have hfd_2 : wd.frozen? ⟨go, (x5_1 : Int).toNat * 6 + 2, none⟩ = false := cfd 2; have hxd_3 : wd.cell? ⟨go, (x5_1 : Int).toNat * 6 + 3, none⟩ = some (.int .i64 (e.f3)) := ccd 3 _ rfl; have hfd_3 : wd.frozen? ⟨go, (x5_1 : Int).toNat * 6 + 3, none⟩ = false := cfd 3; have hxd_4 : wd.cell? ⟨go, (x5_1 : Int).toNat * 6 + 4, none⟩ = some (.int .i64 (e.f4)) := ccd 4 _ rfl; have hfd_4 : wd.frozen? ⟨go, (x5_1 : Int).toNat * 6 + 4, none⟩ = false := cfd 4; have hxd_5 : wd.cell? ⟨go, (x5_1 : Int).toNat * 6 + 5, none⟩ = some (vd) := ccd 5 _ rfl; have hfd_5 : wd.frozen? ⟨go, (x5_1 : Int).toNat * 6 + 5, none⟩ = false := cfd 5; clear cld cmd ccd cfd) | ((with_reducible refine gate_store (t := 3) (p := 39) rfl ?_); refine store_event (t := 3) (p := 39) (v := ?vo_we) (w1 := (wd.setCell ⟨go, (x5_1 : Int).toNat * 6 + 3, none⟩ (.int .i64 (wrap64 ((wrap64 ((wrap64 (x1_1 + 1)) + 1)) + 1))))) ?hg ?ho ?hn ?hr ?_; (case ho => rfl); (case hg => rfl); (case hn => rfl); (case hr => first | (go_simp; done) | (go_simp; rfl)); intro we hw; have HP0 := laws_markRouteS.put_ (x' := (⟨(Int.tmod x1_1 3) == 0, wrap64 (x1_1 + 1), wrap64 ((wrap64 (x1_1 + 1)) + 1), wrap64 ((wrap64 ((wrap64 (x1_1 + 1)) + 1)) + 1), e.f4, e.f5⟩ : S135)) (u := .int .i64 (wrap64 ((wrap64 ((wrap64 (x1_1 + 1)) + 1)) + 1))) (j := 3) chd p q (show 3 + 1 ≤ 6 by decide) (k135_mkM _ _ _ (⟨(Int.tmod x1_1 3) == 0, wrap64 (x1_1 + 1), wrap64 ((wrap64 (x1_1 + 1)) + 1), wrap64 ((wrap64 ((wrap64 (x1_1 + 1)) + 1)) + 1), e.f4, e.f5⟩ : S135) ged) (fun _ h_ => h_); have hg : wd.grownBy we (some go) := (by rw [hw]; exact HP0.2); have HP : Kd.S k135 135 we w0.heap.size P0_ (.slice (some ⟨go, 0, none⟩) x0_1.length co7) (x0_1.set (x5_1 : Int).toNat (⟨(Int.tmod x1_1 3) == 0, wrap64 (x1_1 + 1), wrap64 ((wrap64 (x1_1 + 1)) + 1), wrap64 ((wrap64 ((wrap64 (x1_1 + 1)) + 1)) + 1), e.f4, e.f5⟩ : S135)) := (by rw [hw]; exact HP0.1); have n1_ := Aside0.mk ((by rw [hw]; exact below_set (HB.out) GB.out : Below w0.heap.size w0 we)); have n2_ := Aside0.mk (Kept.of_grown (S := P0_) hg (by repeat (first | (with_reducible first | exact HK.out | apply Kept.alloc | apply Kept.drewN | apply Kept.drew) | exact HK.out)) (fun k_ e_ => .inl (by injection e_ with e_; rw [← e_]; exact GP.out))); clear HB HK hg hw HP0; have HB := n1_; have HK := n2_; clear n1_ n2_; clear hxd_0 hxd_1 hxd_2 hxd_3 hxd_4 hxd_5 hfd_0 hfd_1 hfd_2 hfd_3 hfd_4 hfd_5 ged cod chd; have HSe := HP; clear HP; obtain ⟨oke, ce, cle, cme, cce, cfe, coe, che⟩ := laws_markRouteS.at_ HSe p q; obtain ⟨ve, rfl, gee⟩ := k135_openM cme; have hxe_0 : we.cell? ⟨go, (x5_1 : Int).toNat * 6, none⟩ = some (.bool ((Int.tmod x1_1 3) == 0)) := cce 0 _ rfl; have hfe_0 : we.frozen? ⟨go, (x5_1 : Int).toNat * 6, none⟩ = false := cfe 0; have hxe_1 : we.cell? ⟨go, (x5_1 : Int).toNat * 6 + 1, none⟩ = some (.int .i64 (wrap64 (x1_1 + 1))) := cce 1 _ rfl; have hfe_1 : we.frozen? ⟨go, (x5_1 : Int).toNat * 6 + 1, none⟩ = false := cfe 1; have hxe_2 : we.cell? ⟨go, (x5_1 : Int).toNat * 6 + 2, none⟩ = some (.int .i64 (wrap64 ((wrap64 (x1_1 + 1)) + 1))) := cce 2 _ rfl; have hfe_2 : we.frozen? ⟨go, (x5_1 : Int).toNat * 6 + 2, none⟩ = false := cfe 2; have hxe_3 : we.cell? ⟨go, (x5_1 : Int).toNat * 6 + 3, none⟩ = some (.int .i64 (wrap64 ((wrap64 ((wrap64 (x1_1 + 1)) + 1)) + 1))) := cce 3 _ rfl; have hfe_3 : we.frozen? ⟨go, (x5_1 : Int).toNat * 6 + 3, none⟩ = false := cfe 3; have hxe_4 : we.cell? ⟨go, (x5_1 : Int).toNat * 6 + 4, none⟩ = some (.int .i64 (e.f4)) := cce 4 _ rfl; have hfe_4 : we.frozen? ⟨go, (x5_1 : Int).toNat * 6 + 4, none⟩ = false := cfe 4; have hxe_5 : we.cell? ⟨go, (x5_1 : Int).toNat * 6 + 5, none⟩ = some (ve) := cce 5 _ rfl; have hfe_5 : we.frozen? ⟨go, (x5_1 : Int).toNat * 6 + 5, none⟩ = false := cfe 5; clear cle cme cce cfe) | ((with_reducible refine gate_store (t := 3) (p := 46) rfl ?_); refine store_event (t := 3) (p := 46) (v := ?vo_wf) (w1 := (we.setCell ⟨go, (x5_1 : Int).toNat * 6 + 4, none⟩ (.int .i64 (wrap64 ((wrap64 ((wrap64 ((wrap64 (x1_1 + 1)) + 1)) + 1)) + 1))))) ?hg ?ho ?hn ?hr ?_; (case ho => rfl); (case hg => rfl); (case hn => rfl); (case hr => first | (go_simp; done) | (go_simp; rfl)); intro wf hw; have HP0 := laws_markRouteS.put_ (x' := (⟨(Int.tmod x1_1 3) == 0, wrap64 (x1_1 + 1), wrap64 ((wrap64 (x1_1 + 1)) + 1), wrap64 ((wrap64 ((wrap64 (x1_1 + 1)) + 1)) + 1), wrap64 ((wrap64 ((wrap64 ((wrap64 (x1_1 + 1)) + 1)) + 1)) + 1), e.f5⟩ : S135)) (u := .int .i64 (wrap64 ((wrap64 ((wrap64 ((wrap64 (x1_1 + 1)) + 1)) + 1)) + 1))) (j := 4) che p q (show 4 + 1 ≤ 6 by decide) (k135_mkM _ _ _ (⟨(Int.tmod x1_1 3) == 0, wrap64 (x1_1 + 1), wrap64 ((wrap64 (x1_1 + 1)) + 1), wrap64 ((wrap64 ((wrap64 (x1_1 + 1)) + 1)) + 1), wrap64 ((wrap64 ((wrap64 ((wrap64 (x1_1 + 1)) + 1)) + 1)) + 1), e.f5⟩ : S135) gee) (fun _ h_ => h_); have hg : we.grownBy wf (some go) := (by rw [hw]; exact HP0.2); have HP : Kd.S k135 135 wf w0.heap.size P0_ (.slice (some ⟨go, 0, none⟩) x0_1.length co7) (x0_1.set (x5_1 : Int).toNat (⟨(Int.tmod x1_1 3) == 0, wrap64 (x1_1 + 1), wrap64 ((wrap64 (x1_1 + 1)) + 1), wrap64 ((wrap64 ((wrap64 (x1_1 + 1)) + 1)) + 1), wrap64 ((wrap64 ((wrap64 ((wrap64 (x1_1 + 1)) + 1)) + 1)) + 1), e.f5⟩ : S135)) := (by rw [hw]; exact HP0.1); have n1_ := Aside0.mk ((by rw [hw]; exact below_set (HB.out) GB.out : Below w0.heap.size w0 wf)); have n2_ := Aside0.mk (Kept.of_grown (S := P0_) hg (by repeat (first | (with_reducible first | exact HK.out | apply Kept.alloc | apply Kept.drewN | apply Kept.drew) | exact HK.out)) (fun k_ e_ => .inl (by injection e_ with e_; rw [← e_]; exact GP.out))); clear HB HK hg hw HP0; have HB := n1_; have HK := n2_; clear n1_ n2_; clear hxe_0 hxe_1 hxe_2 hxe_3 hxe_4 hxe_5 hfe_0 hfe_1 hfe_2 hfe_3 hfe_4 hfe_5 gee coe che; have HSf := HP; clear HP; obtain ⟨okf, cf, clf, cmf, ccf, cff, cof, chf⟩ := laws_markRouteS.at_ HSf p q; obtain ⟨vf, rfl, gef⟩ := k135_openM cmf; have hxf_0 : wf.cell? ⟨go, (x5_1 : Int).toNat * 6, none⟩ = some (.bool ((Int.tmod x1_1 3) == 0)) := ccf 0 _ rfl; have hff_0 : wf.frozen? ⟨go, (x5_1 : Int).toNat * 6, none⟩ = false := cff 0; have hxf_1 : wf.cell? ⟨go, (x5_1 : Int).toNat * 6 + 1, none⟩ = some (.int .i64 (wrap64 (x1_1 + 1))) := ccf 1 _ rfl; have hff_1 : wf.frozen? ⟨go, (x5_1 : Int).toNat * 6 + 1, none⟩ = false := cff 1; have hxf_2 : wf.cell? ⟨go, (x5_1 : Int).toNat * 6 + 2, none⟩ = some (.int .i64 (wrap64 ((wrap64 (x1_1 + 1)) + 1))) := ccf 2 _ rfl; have hff_2 : wf.frozen? ⟨go, (x5_1 : Int).toNat * 6 + 2, none⟩ = false := cff 2; have hxf_3 : wf.cell? ⟨go, (x5_1 : Int).toNat * 6 + 3, none⟩ = some (.int .i64 (wrap64 ((wrap64 ((wrap64 (x1_1 + 1)) + 1)) + 1))) := ccf 3 _ rfl; have hff_3 : wf.frozen? ⟨go, (x5_1 : Int).toNat * 6 + 3, none⟩ = false := cff 3; have hxf_4 : wf.cell? ⟨go, (x5_1 : Int).toNat * 6 + 4, none⟩ = some (.int .i64 (wrap64 ((wrap64 ((wrap64 ((wrap64 (x1_1 + 1)) + 1)) + 1)) + 1))) := ccf 4 _ rfl; have hff_4 : wf.frozen? ⟨go, (x5_1 : Int).toNat * 6 + 4, none⟩ = false := cff 4; have hxf_5 : wf.cell? ⟨go, (x5_1 : Int).toNat * 6 + 5, none⟩ = some (vf) := ccf 5 _ rfl; have hff_5 : wf.frozen? ⟨go, (x5_1 : Int).toNat * 6 + 5, none⟩ = false := cff 5; clear clf cmf ccf cff) | ((with_reducible refine gate_callee (f := 68) rfl ?_); refine goesL_ (some 55) rfl rfl Try.func68 (by kernel_rfl) rfl #[vf, .int .i64 (wrap64 ((wrap64 ((wrap64 ((wrap64 ((wrap64 (x1_1 + 1)) + 1)) + 1)) + 1)) + 1))] rfl (by (try simp only [List.map_toArray, List.map_cons, List.map_nil]); first | done | rfl | (simp only [List.length_drop, List.length_take]; rfl)) ?_; (with_reducible refine (laws_markIntS.calls k1 okf vf e.f5 (wrap64 ((wrap64 ((wrap64 ((wrap64 ((wrap64 (x1_1 + 1)) + 1)) + 1)) + 1)) + 1)) t y w0 _ ?side1 ?side2 A.out).mono ?_); (case side1 => exact (by repeat (first | (with_reducible first | exact HB.out | apply below_alloc | apply pw_below_drewN | apply below_drew1) | exact HB.out))); (case side2 => (with_reducible repeat (first | apply Kd.R_alloc | apply Kd.R_drewN | apply Kd.R_drew)); exact gef); rintro e_ wg ⟨rfl, hR, hb, hk⟩; refine ⟨_, rfl, ?_⟩; have HP := laws_markRouteS.call_ (x' := (⟨(Int.tmod x1_1 3) == 0, wrap64 (x1_1 + 1), wrap64 ((wrap64 (x1_1 + 1)) + 1), wrap64 ((wrap64 ((wrap64 (x1_1 + 1)) + 1)) + 1), wrap64 ((wrap64 ((wrap64 ((wrap64 (x1_1 + 1)) + 1)) + 1)) + 1), y⟩ : S135)) chf hk (k135_mkM _ _ _ (⟨(Int.tmod x1_1 3) == 0, wrap64 (x1_1 + 1), wrap64 ((wrap64 (x1_1 + 1)) + 1), wrap64 ((wrap64 ((wrap64 (x1_1 + 1)) + 1)) + 1), wrap64 ((wrap64 ((wrap64 ((wrap64 (x1_1 + 1)) + 1)) + 1)) + 1), y⟩ : S135) (Kd.R_mono (Kd.R_tight rfl hR) (fun k_ hk_ => gef.1 k_ hk_.symm))) (fun _ h_ => h_); have n1_ := Aside0.mk hb; have n2_ := Aside0.mk (Kept.then_ HK.out hk (fun k_ h_ => .inl (cof k_ h_).1)); clear HB HK hR hb hk; have HB := n1_; have HK := n2_; clear n1_ n2_; clear hxf_0 hxf_1 hxf_2 hxf_3 hxf_4 hxf_5 hff_0 hff_1 hff_2 hff_3 hff_4 hff_5 gef cof chf; have HSg := HP; clear HP))
          go_roundg k1
          case measure => have := HK1.out; omega
          case rel => exact ⟨_, t, (wrap64 (x5_1 + 1)), (by first | rfl | (simp; done) | (simp [*]; done)), (by first | rfl | (simp; done) | (simp [*]; done)), H', ⟨by have := HK1.out; omega⟩, ⟨by (with_reducible repeat (first | apply Kd.S_alloc | apply Kd.S_drewN | apply Kd.S_drew)); exact HSg⟩, ⟨by repeat (first | (with_reducible first | exact HK.out | apply Kept.alloc | apply Kept.drewN | apply Kept.drew) | exact HK.out)⟩, ⟨by repeat (first | (with_reducible first | exact HB.out | apply below_alloc | apply pw_below_drewN | apply below_drew1) | exact HB.out)⟩⟩
        · rw [if_neg c4] at H
          exact absurd H (by simp)
      · rw [if_neg c3] at H
        have c3b0 : decide (x5_1 < (x0_1.length : Int)) = false := decide_eq_false c3
        clear c3
        simp only [Option.some.injEq, Prod.mk.injEq] at H
        obtain ⟨rfl, rfl⟩ := H
        obtain ⟨Ao12, co12, eo12⟩ := Kd.S_slice HO.out
        subst eo12
        go_wp2
        go_ret
        exact ⟨by first | rfl | (simp [errW_none, errW_some] <;> rfl) | (simp [*, errW_none, errW_some] <;> rfl), by (with_reducible repeat (first | apply Kd.S_alloc | apply Kd.S_drewN | apply Kd.S_drew)); exact HO.out, by repeat (first | (with_reducible first | exact HB.out | apply below_alloc | apply pw_below_drewN | apply below_drew1) | exact HB.out), by repeat (first | (with_reducible first | exact HK.out | apply Kept.alloc | apply Kept.drewN | apply Kept.drew) | exact HK.out)⟩

end Go.Proofs.Ytjkjhaiemephdaa.Q
