/- A Go function as a Lean function, and its contract: for every input the Go code comes to what the Lean function tells. The rows that are handed in are the call's own, as are the rows that they lead to. -/
import Derived.Test.YtjkjhaiemephdaaQk
import Derived.Test.YtjkjhaiemephdaaQlawsmarkIntS
namespace Go.Proofs.Ytjkjhaiemephdaa.Q
open Go.RowKit Go.Proofs.YtjkjhaiemephdaaW.PrintWords Go.Proofs.YtjkjhaiemephdaaW.PrintLast Go.Proofs.YtjkjhaiemephdaaW.PrintMore
attribute [local go_sem] max2_int min2_int max_two min_two max_three min_three max_four min_four   -- for this text's walks alone
set_option linter.unusedVariables false
set_option linter.unusedSimpArgs false

/-! ### laws_markWayS: function 58 -/
def laws_markWayS.l0 : Nat → List (S27) → Int → Int → Option (Int × (List (S27)))
  | 0, _, _, _ => none
  | k + 1, x0, x1, x5 => if x5 < (x0.length : Int) then (if 0 ≤ x5 then ((laws_markIntS.f k ((rd_T27 x0 x5).f2) (wrap64 ((wrap64 (x1 + 1)) + 1))).bind fun q => (laws_markWayS.l0 k (x0.set (x5 : Int).toNat (⟨x1, wrap64 (x1 + 1), q.2⟩ : S27)) q.1 (wrap64 (x5 + 1)))) else (none)) else (some (x1, x0))
def laws_markWayS.f (k : Nat) (l0 : List (S27)) (a1 : Int) : Option (Int × (List (S27))) := laws_markWayS.l0 k l0 a1 0
theorem laws_markWayS.mono_l : ∀ k, (∀ y0 y1 y2, LeO (laws_markWayS.l0 k y0 y1 y2) (laws_markWayS.l0 (k + 1) y0 y1 y2))
  | 0 => fun _ _ _ r h => by simp [laws_markWayS.l0] at h
  | k + 1 => by
    have ih0 := laws_markWayS.mono_l k
    intro y0 y1 y2
    unfold laws_markWayS.l0
    repeat' first
      | (with_reducible exact ih0 _ _ _)
      | (with_reducible exact laws_markIntS.mono _ _ _)
      | (with_reducible exact LeO.refl _)
      | (with_reducible exact LeO.none _)
      | (with_reducible refine LeO.ite ?_ ?_)
      | (with_reducible refine LeO.bind ?_ (fun _ => ?_))
      | exact ih0 _ _ _
      | exact laws_markIntS.mono _ _ _
      | exact LeO.none _
      | refine LeO.ite ?_ ?_
      | refine LeO.bind ?_ (fun _ => ?_)
theorem laws_markWayS.mono : ∀ a0 a1 k, LeO (laws_markWayS.f k a0 a1) (laws_markWayS.f (k + 1) a0 a1) := by
  intro a0 a1 k
  exact laws_markWayS.mono_l k _ _ _
/-- An element that is known, out of a row of the call's own. -/
theorem laws_markWayS.at_ {d : Kd S27} {e base g n cap : Nat} {ok : Nat → Prop} {W : World} {xs : List S27} {x : S27} {i : Int} (h : Kd.S d e W base ok (.slice (some ⟨g, 0, none⟩) n cap) (xs.set i.toNat x)) (h0 : 0 ≤ i) (h1 : i < (n : Int)) :
    ∃ (oki : Nat → Prop) (c : List Value), c.length = d.sz ∧ d.M W base oki x c ∧ (∀ j u, c[j]? = some u → W.cell? ⟨g, i.toNat * d.sz + j, none⟩ = some u) ∧ (∀ j, W.frozen? ⟨g, i.toNat * d.sz + j, none⟩ = false) ∧ (∀ k, oki k → ok k ∧ k ≠ g) ∧ Kd.H d e W base ok (.slice (some ⟨g, 0, none⟩) n cap) (xs.set i.toNat x) i oki c := by
  have hn := (Kd.S_reads' h).1
  obtain ⟨oki, c, a1, a2, a3, a4, a5, a6⟩ := Kd.S_elem h x i h0 h1
  rw [List.length_set] at hn
  rw [List.getD_eq_getElem?_getD, List.getElem?_set_self (by omega)] at a2
  exact ⟨oki, c, a1, a2, a3, a4, a5, a6⟩
theorem laws_markWayS.put_ {d : Kd S27} {e base g n cap : Nat} {ok oki okp : Nat → Prop} {W : World} {xs : List S27} {x x' : S27} {i : Int} {c : List Value} (hH : Kd.H d e W base ok (.slice (some ⟨g, 0, none⟩) n cap) (xs.set i.toNat x) i oki c) (h0 : 0 ≤ i) (h1 : i < (n : Int)) {u : Value} {j : Nat} (hj : j + 1 ≤ d.sz)
    (hM : d.M W base okp x' (c.take j ++ [u] ++ c.drop (j + 1))) (hokp : ∀ k, okp k → oki k) : Kd.S d e (W.setCell ⟨g, i.toNat * d.sz + j, none⟩ u) base ok (.slice (some ⟨g, 0, none⟩) n cap) (xs.set i.toNat x') ∧ W.grownBy (W.setCell ⟨g, i.toNat * d.sz + j, none⟩ u) (some g) := by
  have h := Kd.S_seg0 hH h0 h1 (seg := [u]) hj hM hokp
  rw [List.set_set] at h
  exact h
theorem laws_markWayS.call_ {d : Kd S27} {e base g n cap : Nat} {ok oki okp : Nat → Prop} {W W2 : World} {xs : List S27} {x x' : S27} {i : Int} {c : List Value} (hH : Kd.H d e W base ok (.slice (some ⟨g, 0, none⟩) n cap) (xs.set i.toNat x) i oki c) (hk : Kept W W2 oki)
    (hM : d.M W2 base okp x' c) (hokp : ∀ k, okp k → oki k) : Kd.S d e W2 base ok (.slice (some ⟨g, 0, none⟩) n cap) (xs.set i.toNat x') := by
  have h := Kd.H_back (Kd.H_kept hH hk (fun _ _ hn => hn)) hM hokp
  rw [List.set_set] at h
  exact h
theorem laws_markWayS.start_ {xs : List S27} {i : Int} (h1 : i < (xs.length : Int)) (h0 : 0 ≤ i) : xs.set i.toNat (rd_T27 xs i) = xs := by
  unfold rd_T27
  rw [List.getD_eq_getElem?_getD, List.getElem?_eq_getElem (by omega)]
  exact List.set_getElem_self _
set_option maxHeartbeats 8000000 in
set_option maxRecDepth 100000 in
theorem laws_markWayS.calls (k : Nat) (P0_ : Nat → Prop) (u9000_ : Value) (l0 : List (S27)) (a1 : Int) (r1 : Int) (r2 : List (S27)) (w0 w : World) (hB : Below w0.heap.size w0 w) (ho0 : Kd.S k27 27 w w0.heap.size P0_ u9000_ l0) (h : laws_markWayS.f k l0 a1 = some (r1, r2)) :
    Calls Try.prog 58 #[u9000_, .int .i64 a1] w fun e w' => e = .returned (.int .i64 r1) ∧ Kd.S k27 27 w' w0.heap.size P0_ u9000_ r2 ∧ Below w0.heap.size w0 w' ∧ Kept w w' P0_ := by
  have HO0 := Aside0.mk ho0
  have HK := Aside0.mk (Kept.refl w P0_)
  have HB := Aside0.mk hB
  clear hB ho0
  have H' := Aside0.mk (show laws_markWayS.l0 k l0 a1 0 = some (r1, r2) from h)
  clear h
  go_enter Try.func58, Try.ntmps58
  go_wp2
  go_loopg [1, 5] k (fun kq v1 v5 w' => ∃ (x0_1 : List (S27)) (x1_1 : Int) (x5_1 : Int), v1 = .int .i64 x1_1 ∧ v5 = .int .i64 x5_1 ∧ Aside0 (laws_markWayS.l0 kq x0_1 x1_1 x5_1 = some (r1, r2)) ∧ Aside0 (kq ≤ k) ∧ Aside0 (Kd.S k27 27 w' w0.heap.size P0_ u9000_ x0_1) ∧ Aside0 (Kept w w' P0_) ∧ Aside0 (Below w0.heap.size w0 w'))
  case atStart => exact ⟨l0, a1, 0, (by first | rfl | (simp; done) | (simp [*]; done)), (by first | rfl | (simp; done) | (simp [*]; done)), H', ⟨Nat.le_refl _⟩, ⟨by (with_reducible repeat (first | apply Kd.S_alloc | apply Kd.S_drewN | apply Kd.S_drew)); exact HO0.out⟩, ⟨by repeat (first | (with_reducible first | exact HK.out | apply Kept.alloc | apply Kept.drewN | apply Kept.drew) | exact HK.out)⟩, ⟨by repeat (first | (with_reducible first | exact HB.out | apply below_alloc | apply pw_below_drewN | apply below_drew1) | exact HB.out)⟩⟩
  case round =>
    clear H'
    try clear p2
    obtain ⟨x0_1, x1_1, x5_1, rfl, rfl, HA, HK1, HO, HK, HB⟩ := hrel
    cases gk with
    | zero => exact absurd HA.out (by simp [laws_markWayS.l0])
    | succ k1 =>
      have H := HA.out
      clear HA
      simp only [laws_markWayS.l0] at H
      by_cases c3 : x5_1 < (x0_1.length : Int)
      · rw [if_pos c3] at H
        have c3b0 : decide (x5_1 < (x0_1.length : Int)) = true := decide_eq_true c3
        by_cases c4 : 0 ≤ x5_1
        · rw [if_pos c4] at H
          have c4b0 : decide (0 ≤ x5_1) = true := decide_eq_true c4
          replace H := Option.bind_eq_some_iff.mp H
          obtain ⟨⟨t, y⟩, A, H⟩ := H
          have H' := Aside0.mk H
          clear H
          have A := Aside0.mk A
          obtain ⟨Ao7, co7, eo7⟩ := Kd.S_slice HO.out
          subst eo7
          obtain ⟨go, co, eo, gb, gl, cl, HG⟩ := Kd.S_form HO.out (by omega)
          (first | cases eo | (injection eo with ea_ en_ ec_; (first | subst ea_ | (injection ea_ with ea_; subst ea_)); subst ec_; clear en_))
          have GB := Aside0.mk gb
          have GP := Aside0.mk (show P0_ go from (Kd.S_R HO.out).1 go rfl)
          clear gb gl HG
          have p : 0 ≤ (x5_1 : Int) := c4
          have q : (x5_1 : Int) < ((x0_1.length : Nat) : Int) := c3
          have HS : Kd.S k27 27 wr w0.heap.size P0_ (.slice (some ⟨go, 0, none⟩) x0_1.length co7) (x0_1.set (x5_1 : Int).toNat (rd_T27 x0_1 x5_1)) := by rw [laws_markWayS.start_ q p]; exact HO.out
          clear HO
          generalize rd_T27 x0_1 x5_1 = e at *
          obtain ⟨oka, ca, cla, cma, cca, cfa, coa, cha⟩ := laws_markWayS.at_ HS p q
          obtain ⟨va, rfl, gea⟩ := k27_openM cma
          have hxa_0 : wr.cell? ⟨go, (x5_1 : Int).toNat * 3, none⟩ = some (.int .i64 (e.f0)) := cca 0 _ rfl
          have hfa_0 : wr.frozen? ⟨go, (x5_1 : Int).toNat * 3, none⟩ = false := cfa 0
          have hxa_1 : wr.cell? ⟨go, (x5_1 : Int).toNat * 3 + 1, none⟩ = some (.int .i64 (e.f1)) := cca 1 _ rfl
          have hfa_1 : wr.frozen? ⟨go, (x5_1 : Int).toNat * 3 + 1, none⟩ = false := cfa 1
          have hxa_2 : wr.cell? ⟨go, (x5_1 : Int).toNat * 3 + 2, none⟩ = some (va) := cca 2 _ rfl
          have hfa_2 : wr.frozen? ⟨go, (x5_1 : Int).toNat * 3 + 2, none⟩ = false := cfa 2
          clear cla cma cca cfa
          have p_ := eq_true p
          have q_ := eq_true q
          go_wp2_with (first | ((with_reducible refine gate_store (t := 3) (p := 16) rfl ?_); refine store_event (t := 3) (p := 16) (v := ?vo_wb) (w1 := (wr.setCell ⟨go, (x5_1 : Int).toNat * 3, none⟩ (.int .i64 x1_1))) ?hg ?ho ?hn ?hr ?_; (case ho => rfl); (case hg => rfl); (case hn => rfl); (case hr => first | (go_simp; done) | (go_simp; rfl)); intro wb hw; have HP0 := laws_markWayS.put_ (x' := (⟨x1_1, e.f1, e.f2⟩ : S27)) (u := .int .i64 x1_1) (j := 0) cha p q (show 0 + 1 ≤ 3 by decide) (k27_mkM _ _ _ (⟨x1_1, e.f1, e.f2⟩ : S27) gea) (fun _ h_ => h_); have hg : wr.grownBy wb (some go) := (by rw [hw]; exact HP0.2); have HP : Kd.S k27 27 wb w0.heap.size P0_ (.slice (some ⟨go, 0, none⟩) x0_1.length co7) (x0_1.set (x5_1 : Int).toNat (⟨x1_1, e.f1, e.f2⟩ : S27)) := (by rw [hw]; exact HP0.1); have n1_ := Aside0.mk ((by rw [hw]; exact below_set (HB.out) GB.out : Below w0.heap.size w0 wb)); have n2_ := Aside0.mk (Kept.of_grown (S := P0_) hg (by repeat (first | (with_reducible first | exact HK.out | apply Kept.alloc | apply Kept.drewN | apply Kept.drew) | exact HK.out)) (fun k_ e_ => .inl (by injection e_ with e_; rw [← e_]; exact GP.out))); clear HB HK hg hw HP0; have HB := n1_; have HK := n2_; clear n1_ n2_; clear hxa_0 hxa_1 hxa_2 hfa_0 hfa_1 hfa_2 gea coa cha; have HSb := HP; clear HP; obtain ⟨okb, cb, clb, cmb, ccb, cfb, cob, chb⟩ := laws_markWayS.at_ HSb p q; obtain ⟨vb, rfl, geb⟩ := k27_openM cmb; have hxb_0 : wb.cell? ⟨go, (x5_1 : Int).toNat * 3, none⟩ = some (.int .i64 (x1_1)) := ccb 0 _ rfl; have hfb_0 : wb.frozen? ⟨go, (x5_1 : Int).toNat * 3, none⟩ = false := cfb 0; have hxb_1 : wb.cell? ⟨go, (x5_1 : Int).toNat * 3 + 1, none⟩ = some (.int .i64 (e.f1)) := ccb 1 _ rfl; have hfb_1 : wb.frozen? ⟨go, (x5_1 : Int).toNat * 3 + 1, none⟩ = false := cfb 1; have hxb_2 : wb.cell? ⟨go, (x5_1 : Int).toNat * 3 + 2, none⟩ = some (vb) := ccb 2 _ rfl; have hfb_2 : wb.frozen? ⟨go, (x5_1 : Int).toNat * 3 + 2, none⟩ = false := cfb 2; clear clb cmb ccb cfb) | ((with_reducible refine gate_store (t := 3) (p := 23) rfl ?_); refine store_event (t := 3) (p := 23) (v := ?vo_wc) (w1 := (wb.setCell ⟨go, (x5_1 : Int).toNat * 3 + 1, none⟩ (.int .i64 (wrap64 (x1_1 + 1))))) ?hg ?ho ?hn ?hr ?_; (case ho => rfl); (case hg => rfl); (case hn => rfl); (case hr => first | (go_simp; done) | (go_simp; rfl)); intro wc hw; have HP0 := laws_markWayS.put_ (x' := (⟨x1_1, wrap64 (x1_1 + 1), e.f2⟩ : S27)) (u := .int .i64 (wrap64 (x1_1 + 1))) (j := 1) chb p q (show 1 + 1 ≤ 3 by decide) (k27_mkM _ _ _ (⟨x1_1, wrap64 (x1_1 + 1), e.f2⟩ : S27) geb) (fun _ h_ => h_); have hg : wb.grownBy wc (some go) := (by rw [hw]; exact HP0.2); have HP : Kd.S k27 27 wc w0.heap.size P0_ (.slice (some ⟨go, 0, none⟩) x0_1.length co7) (x0_1.set (x5_1 : Int).toNat (⟨x1_1, wrap64 (x1_1 + 1), e.f2⟩ : S27)) := (by rw [hw]; exact HP0.1); have n1_ := Aside0.mk ((by rw [hw]; exact below_set (HB.out) GB.out : Below w0.heap.size w0 wc)); have n2_ := Aside0.mk (Kept.of_grown (S := P0_) hg (by repeat (first | (with_reducible first | exact HK.out | apply Kept.alloc | apply Kept.drewN | apply Kept.drew) | exact HK.out)) (fun k_ e_ => .inl (by injection e_ with e_; rw [← e_]; exact GP.out))); clear HB HK hg hw HP0; have HB := n1_; have HK := n2_; clear n1_ n2_; clear hxb_0 hxb_1 hxb_2 hfb_0 hfb_1 hfb_2 geb cob chb; have HSc := HP; clear HP; obtain ⟨okc, cc, clc, cmc, ccc, cfc, coc, chc⟩ := laws_markWayS.at_ HSc p q; obtain ⟨vc, rfl, gec⟩ := k27_openM cmc; have hxc_0 : wc.cell? ⟨go, (x5_1 : Int).toNat * 3, none⟩ = some (.int .i64 (x1_1)) := ccc 0 _ rfl; have hfc_0 : wc.frozen? ⟨go, (x5_1 : Int).toNat * 3, none⟩ = false := cfc 0; have hxc_1 : wc.cell? ⟨go, (x5_1 : Int).toNat * 3 + 1, none⟩ = some (.int .i64 (wrap64 (x1_1 + 1))) := ccc 1 _ rfl; have hfc_1 : wc.frozen? ⟨go, (x5_1 : Int).toNat * 3 + 1, none⟩ = false := cfc 1; have hxc_2 : wc.cell? ⟨go, (x5_1 : Int).toNat * 3 + 2, none⟩ = some (vc) := ccc 2 _ rfl; have hfc_2 : wc.frozen? ⟨go, (x5_1 : Int).toNat * 3 + 2, none⟩ = false := cfc 2; clear clc cmc ccc cfc) | ((with_reducible refine gate_callee (f := 68) rfl ?_); refine goesL_ (some 32) rfl rfl Try.func68 (by kernel_rfl) rfl #[vc, .int .i64 (wrap64 ((wrap64 (x1_1 + 1)) + 1))] rfl (by (try simp only [List.map_toArray, List.map_cons, List.map_nil]); first | done | rfl | (simp only [List.length_drop, List.length_take]; rfl)) ?_; (with_reducible refine (laws_markIntS.calls k1 okc vc e.f2 (wrap64 ((wrap64 (x1_1 + 1)) + 1)) t y w0 _ ?side1 ?side2 A.out).mono ?_); (case side1 => exact (by repeat (first | (with_reducible first | exact HB.out | apply below_alloc | apply pw_below_drewN | apply below_drew1) | exact HB.out))); (case side2 => (with_reducible repeat (first | apply Kd.R_alloc | apply Kd.R_drewN | apply Kd.R_drew)); exact gec); rintro e_ wd ⟨rfl, hR, hb, hk⟩; refine ⟨_, rfl, ?_⟩; have HP := laws_markWayS.call_ (x' := (⟨x1_1, wrap64 (x1_1 + 1), y⟩ : S27)) chc hk (k27_mkM _ _ _ (⟨x1_1, wrap64 (x1_1 + 1), y⟩ : S27) (Kd.R_mono (Kd.R_tight rfl hR) (fun k_ hk_ => gec.1 k_ hk_.symm))) (fun _ h_ => h_); have n1_ := Aside0.mk hb; have n2_ := Aside0.mk (Kept.then_ HK.out hk (fun k_ h_ => .inl (coc k_ h_).1)); clear HB HK hR hb hk; have HB := n1_; have HK := n2_; clear n1_ n2_; clear hxc_0 hxc_1 hxc_2 hfc_0 hfc_1 hfc_2 gec coc chc; have HSd := HP; clear HP))
          go_roundg k1
          case measure => have := HK1.out; omega
          case rel => exact ⟨_, t, (wrap64 (x5_1 + 1)), (by first | rfl | (simp; done) | (simp [*]; done)), (by first | rfl | (simp; done) | (simp [*]; done)), H', ⟨by have := HK1.out; omega⟩, ⟨by (with_reducible repeat (first | apply Kd.S_alloc | apply Kd.S_drewN | apply Kd.S_drew)); exact HSd⟩, ⟨by repeat (first | (with_reducible first | exact HK.out | apply Kept.alloc | apply Kept.drewN | apply Kept.drew) | exact HK.out)⟩, ⟨by repeat (first | (with_reducible first | exact HB.out | apply below_alloc | apply pw_below_drewN | apply below_drew1) | exact HB.out)⟩⟩
        · rw [if_neg c4] at H
          exact absurd H (by simp)
      · rw [if_neg c3] at H
        have c3b0 : decide (x5_1 < (x0_1.length : Int)) = false := decide_eq_false c3
        clear c3
        simp only [Option.some.injEq, Prod.mk.injEq] at H
        obtain ⟨rfl, rfl⟩ := H
        obtain ⟨Ao12, co12, eo12⟩ := Kd.S_slice HO.out
        subst eo12
        go_wp2
        go_ret
        exact ⟨by first | rfl | (simp [errW_none, errW_some] <;> rfl) | (simp [*, errW_none, errW_some] <;> rfl), by (with_reducible repeat (first | apply Kd.S_alloc | apply Kd.S_drewN | apply Kd.S_drew)); exact HO.out, by repeat (first | (with_reducible first | exact HB.out | apply below_alloc | apply pw_below_drewN | apply below_drew1) | exact HB.out), by repeat (first | (with_reducible first | exact HK.out | apply Kept.alloc | apply Kept.drewN | apply Kept.drew) | exact HK.out)⟩

end Go.Proofs.Ytjkjhaiemephdaa.Q
