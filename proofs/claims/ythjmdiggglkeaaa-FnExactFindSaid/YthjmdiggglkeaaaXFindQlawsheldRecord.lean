import Derived.Test.YthjmdiggglkeaaaXFindQlawstoRecord
import Derived.Test.YthjmdiggglkeaaaXFindQlawsmarkNearS
/- A Go function as a Lean function, and its contract: for every input the Go code comes to what the Lean function tells. The rows that are handed in are the call's own, as are the rows that they lead to. -/


namespace Go.Proofs.Ythjmdiggglkeaaa.Q
open Go.RowKit Go.Proofs.YthjmdiggglkeaaaW.PrintWords Go.Proofs.YthjmdiggglkeaaaW.PrintLast Go.Proofs.YthjmdiggglkeaaaW.PrintMore
attribute [local go_sem] max2_int min2_int max_two min_two max_three min_three max_four min_four   -- for this text's walks alone
set_option linter.unusedVariables false
set_option linter.unusedSimpArgs false

/-! ### laws_markRecordS: function 31 -/
def laws_markRecordS.l0 : Nat → List (S61) → Int → Int → Option (Int × (List (S61)))
  | 0, _, _, _ => none
  | k + 1, x0, x1, x5 => if x5 < (x0.length : Int) then (if 0 ≤ x5 then ((laws_markNearS.f k ((rd_T61 x0 x5).f5) (wrap64 ((wrap64 ((wrap64 ((wrap64 ((wrap64 (x1 + 1)) + 1)) + 1)) + 1)) + 1))).bind fun q => (laws_markRecordS.l0 k (x0.set (x5 : Int).toNat (⟨x1, wrap64 (x1 + 1), wrap64 ((wrap64 (x1 + 1)) + 1), wrap64 ((wrap64 ((wrap64 (x1 + 1)) + 1)) + 1), wrap64 ((wrap64 ((wrap64 ((wrap64 (x1 + 1)) + 1)) + 1)) + 1), q.2, q.1, (Int.tmod (wrap64 (q.1 + 1)) 3) == 0⟩ : S61)) (wrap64 ((wrap64 (q.1 + 1)) + 1)) (wrap64 (x5 + 1)))) else (none)) else (some (x1, x0))
def laws_markRecordS.f (k : Nat) (l0 : List (S61)) (a1 : Int) : Option (Int × (List (S61))) := laws_markRecordS.l0 k l0 a1 0
theorem laws_markRecordS.mono_l : ∀ k, (∀ y0 y1 y2, LeO (laws_markRecordS.l0 k y0 y1 y2) (laws_markRecordS.l0 (k + 1) y0 y1 y2))
  | 0 => fun _ _ _ r h => by simp [laws_markRecordS.l0] at h
  | k + 1 => by
    have ih0 := laws_markRecordS.mono_l k
    intro y0 y1 y2
    unfold laws_markRecordS.l0
    with_reducible repeat' (first | apply ih0 | apply laws_markNearS.mono | exact LeO.refl _ | exact LeO.none _ | refine LeO.ite ?_ ?_ | refine LeO.bind ?_ (fun _ => ?_))
theorem laws_markRecordS.mono : ∀ a0 a1 k, LeO (laws_markRecordS.f k a0 a1) (laws_markRecordS.f (k + 1) a0 a1) := by
  intro a0 a1 k
  exact laws_markRecordS.mono_l k _ _ _
/-- An element that is known, out of a row of the call's own. -/
theorem laws_markRecordS.at_ {d : Kd S61} {e base g n cap : Nat} {ok : Nat → Prop} {W : World} {xs : List S61} {x : S61} {i : Int} (h : Kd.S d e W base ok (.slice (some ⟨g, 0, none⟩) n cap) (xs.set i.toNat x)) (h0 : 0 ≤ i) (h1 : i < (n : Int)) :
    ∃ (oki : Nat → Prop) (c : List Value), c.length = d.sz ∧ d.M W base oki x c ∧ (∀ j u, c[j]? = some u → W.cell? ⟨g, i.toNat * d.sz + j, none⟩ = some u) ∧ (∀ j, W.frozen? ⟨g, i.toNat * d.sz + j, none⟩ = false) ∧ (∀ k, oki k → ok k ∧ k ≠ g) ∧ Kd.H d e W base ok (.slice (some ⟨g, 0, none⟩) n cap) (xs.set i.toNat x) i oki c := by
  have hn := (Kd.S_reads' h).1; obtain ⟨oki, c, a1, a2, a3, a4, a5, a6⟩ := Kd.S_elem h x i h0 h1; rw [List.length_set] at hn
  rw [List.getD_eq_getElem?_getD, List.getElem?_set_self (by omega)] at a2
  exact ⟨oki, c, a1, a2, a3, a4, a5, a6⟩
theorem laws_markRecordS.put_ {d : Kd S61} {e base g n cap : Nat} {ok oki okp : Nat → Prop} {W : World} {xs : List S61} {x x' : S61} {i : Int} {c : List Value} (hH : Kd.H d e W base ok (.slice (some ⟨g, 0, none⟩) n cap) (xs.set i.toNat x) i oki c) (h0 : 0 ≤ i) (h1 : i < (n : Int)) {u : Value} {j : Nat} (hj : j + 1 ≤ d.sz)
    (hM : d.M W base okp x' (c.take j ++ [u] ++ c.drop (j + 1))) (hokp : ∀ k, okp k → oki k) : Kd.S d e (W.setCell ⟨g, i.toNat * d.sz + j, none⟩ u) base ok (.slice (some ⟨g, 0, none⟩) n cap) (xs.set i.toNat x') ∧ W.grownBy (W.setCell ⟨g, i.toNat * d.sz + j, none⟩ u) (some g) := by
  have h := Kd.S_seg0 hH h0 h1 (seg := [u]) hj hM hokp; rw [List.set_set] at h
  exact h
theorem laws_markRecordS.call_ {d : Kd S61} {e base g n cap : Nat} {ok oki okp : Nat → Prop} {W W2 : World} {xs : List S61} {x x' : S61} {i : Int} {c : List Value} (hH : Kd.H d e W base ok (.slice (some ⟨g, 0, none⟩) n cap) (xs.set i.toNat x) i oki c) (hk : Kept W W2 oki)
    (hM : d.M W2 base okp x' c) (hokp : ∀ k, okp k → oki k) : Kd.S d e W2 base ok (.slice (some ⟨g, 0, none⟩) n cap) (xs.set i.toNat x') := by
  have h := Kd.H_back (Kd.H_kept hH hk (fun _ _ hn => hn)) hM hokp
  rw [List.set_set] at h
  exact h
theorem laws_markRecordS.start_ {xs : List S61} {i : Int} (h1 : i < (xs.length : Int)) (h0 : 0 ≤ i) : xs.set i.toNat (rd_T61 xs i) = xs := by
  unfold rd_T61
  rw [List.getD_eq_getElem?_getD, List.getElem?_eq_getElem (by omega)]
  exact List.set_getElem_self _
set_option maxHeartbeats 8000000 in
set_option maxRecDepth 100000 in
theorem laws_markRecordS.calls (k : Nat) (P0_ : Nat → Prop) (u9000_ : Value) (l0 : List (S61)) (a1 : Int) (r1 : Int) (r2 : List (S61)) (w0 w : World) (hB : Below w0.heap.size w0 w) (ho0 : Kd.S k61 61 w w0.heap.size P0_ u9000_ l0) (h : laws_markRecordS.f k l0 a1 = some (r1, r2)) :
    Calls Try.prog 31 #[u9000_, .int .i64 a1] w fun e w' => e = .returned (.int .i64 r1) ∧ Kd.S k61 61 w' w0.heap.size P0_ u9000_ r2 ∧ Below w0.heap.size w0 w' ∧ Kept w w' P0_ := by
  have Af := ak ho0; have HK := ak (Kept.refl w P0_); have HB := ak hB; clear hB ho0
  have H' := ak (show laws_markRecordS.l0 k l0 a1 0 = some (r1, r2) from h)
  clear h
  go_enter Try.func31, Try.ntmps31
  go_wp2
  go_loopg [1, 5] k (fun kq v1 v5 w' => ∃ (Ac : List (S61)) (Ab : Int) (Aa : Int), v1 = .int .i64 Ab ∧ v5 = .int .i64 Aa ∧ Aside0 (laws_markRecordS.l0 kq Ac Ab Aa = some (r1, r2)) ∧ Aside0 (kq ≤ k) ∧ Aside0 (Kd.S k61 61 w' w0.heap.size P0_ u9000_ Ac) ∧ Aside0 (Kept w w' P0_) ∧ Aside0 (Below w0.heap.size w0 w'))
  case atStart => exact ⟨l0, a1, 0, rs_q, rs_q, H', ⟨Nat.le_refl _⟩, ⟨kS_q Af⟩, ⟨hk_q HK⟩, ⟨(bw_q HB)⟩⟩
  case round =>
    clear H'; (try clear p2); obtain ⟨Ac, Ab, Aa, rfl, rfl, HA, Ad, HO, HK, HB⟩ := hrel
    cases gk with
    | zero => exact absurd HA.out (by simp [laws_markRecordS.l0])
    | succ k1 =>
      have H := HA.out; clear HA
      simp only [laws_markRecordS.l0] at H
      by_cases c3 : Aa < (Ac.length : Int)
      · rw [if_pos c3] at H
        have Ae : decide (Aa < (Ac.length : Int)) = true := decide_eq_true c3
        by_cases c4 : 0 ≤ Aa
        · rw [if_pos c4] at H
          have Ag : decide (0 ≤ Aa) = true := decide_eq_true c4
          replace H := bsi H; obtain ⟨⟨t, y⟩, A, H⟩ := H; have H' := ak H; clear H; have A := ak A; obtain ⟨Ao7, co7, eo7⟩ := Kd.S_slice HO.out; subst eo7
          obtain ⟨go, co, eo, gb, gl, cl, HG⟩ := Kd.S_form HO.out (by omega)
          (first | cases eo | (injection eo with ea_ en_ ec_; (first | subst ea_ | (injection ea_ with ea_; subst ea_)); subst ec_; clear en_))
          have GB := ak gb
          have GP := ak (show P0_ go from (Kd.S_R HO.out).1 go rfl)
          clear gb gl HG
          have p : 0 ≤ (Aa : Int) := c4
          have q : (Aa : Int) < ((Ac.length : Nat) : Int) := c3
          have HS : Kd.S k61 61 wr w0.heap.size P0_ (.slice (some ⟨go, 0, none⟩) Ac.length co7) (Ac.set (Aa : Int).toNat (rd_T61 Ac Aa)) := by rw [laws_markRecordS.start_ q p]; exact HO.out
          clear HO
          generalize rd_T61 Ac Aa = e at *
          obtain ⟨oka, ca, cla, cma, cca, cfa, coa, cha⟩ := laws_markRecordS.at_ HS p q; obtain ⟨va, rfl, gea⟩ := k61_openM cma
          have hxa_0 : wr.cell? ⟨go, (Aa : Int).toNat * 8, none⟩ = some (.int .i64 (e.f0)) := cca 0 _ rfl
          have hfa_0 : wr.frozen? ⟨go, (Aa : Int).toNat * 8, none⟩ = false := cfa 0
          have hxa_1 : wr.cell? ⟨go, (Aa : Int).toNat * 8 + 1, none⟩ = some (.int .i64 (e.f1)) := cca 1 _ rfl
          have hfa_1 : wr.frozen? ⟨go, (Aa : Int).toNat * 8 + 1, none⟩ = false := cfa 1
          have hxa_2 : wr.cell? ⟨go, (Aa : Int).toNat * 8 + 2, none⟩ = some (.int .i64 (e.f2)) := cca 2 _ rfl
          have hfa_2 : wr.frozen? ⟨go, (Aa : Int).toNat * 8 + 2, none⟩ = false := cfa 2
          have hxa_3 : wr.cell? ⟨go, (Aa : Int).toNat * 8 + 3, none⟩ = some (.int .i64 (e.f3)) := cca 3 _ rfl
          have hfa_3 : wr.frozen? ⟨go, (Aa : Int).toNat * 8 + 3, none⟩ = false := cfa 3
          have hxa_4 : wr.cell? ⟨go, (Aa : Int).toNat * 8 + 4, none⟩ = some (.int .i64 (e.f4)) := cca 4 _ rfl
          have hfa_4 : wr.frozen? ⟨go, (Aa : Int).toNat * 8 + 4, none⟩ = false := cfa 4
          have hxa_5 : wr.cell? ⟨go, (Aa : Int).toNat * 8 + 5, none⟩ = some (va) := cca 5 _ rfl
          have hfa_5 : wr.frozen? ⟨go, (Aa : Int).toNat * 8 + 5, none⟩ = false := cfa 5
          have hxa_6 : wr.cell? ⟨go, (Aa : Int).toNat * 8 + 6, none⟩ = some (.int .i64 (e.f6)) := cca 6 _ rfl
          have hfa_6 : wr.frozen? ⟨go, (Aa : Int).toNat * 8 + 6, none⟩ = false := cfa 6
          have hxa_7 : wr.cell? ⟨go, (Aa : Int).toNat * 8 + 7, none⟩ = some (.bool (e.f7)) := cca 7 _ rfl
          have hfa_7 : wr.frozen? ⟨go, (Aa : Int).toNat * 8 + 7, none⟩ = false := cfa 7
          clear cla cma cca cfa; have p_ := eq_true p; have q_ := eq_true q
          go_wp2_with (first | ((with_reducible refine gate_store (t := 3) (p := 16) rfl ?_); refine store_event (t := 3) (p := 16) (v := ?vo_wb) (w1 := (wr.setCell ⟨go, (Aa : Int).toNat * 8, none⟩ (.int .i64 Ab))) ?hg ?ho ?hn ?hr ?_; (case ho => rfl); (case hg => rfl); (case hn => rfl); (case hr => first | (go_simp; done) | (go_simp; rfl)); intro wb hw; have HP0 := laws_markRecordS.put_ (x' := (⟨Ab, e.f1, e.f2, e.f3, e.f4, e.f5, e.f6, e.f7⟩ : S61)) (u := .int .i64 Ab) (j := 0) cha p q (show 0 + 1 ≤ 8 by decide) (k61_mkM _ _ _ (⟨Ab, e.f1, e.f2, e.f3, e.f4, e.f5, e.f6, e.f7⟩ : S61) gea) (fun _ h_ => h_); have hg : wr.grownBy wb (some go) := (by rw [hw]; exact HP0.2); have HP : Kd.S k61 61 wb w0.heap.size P0_ (.slice (some ⟨go, 0, none⟩) Ac.length co7) (Ac.set (Aa : Int).toNat (⟨Ab, e.f1, e.f2, e.f3, e.f4, e.f5, e.f6, e.f7⟩ : S61)) := (by rw [hw]; exact HP0.1); have n1_ := ak ((by rw [hw]; exact below_set (HB.out) GB.out : Below w0.heap.size w0 wb)); have n2_ := ak (Kept.of_grown (S := P0_) hg (hk_q HK) (fun k_ e_ => .inl (by injection e_ with e_; rw [← e_]; exact GP.out))); clear HB HK hg hw HP0; have HB := n1_; have HK := n2_; clear n1_ n2_; clear hxa_0 hxa_1 hxa_2 hxa_3 hxa_4 hxa_5 hxa_6 hxa_7 hfa_0 hfa_1 hfa_2 hfa_3 hfa_4 hfa_5 hfa_6 hfa_7 gea coa cha; have HSb := HP; clear HP; obtain ⟨okb, cb, clb, cmb, ccb, cfb, cob, chb⟩ := laws_markRecordS.at_ HSb p q; obtain ⟨vb, rfl, geb⟩ := k61_openM cmb; have hxb_0 : wb.cell? ⟨go, (Aa : Int).toNat * 8, none⟩ = some (.int .i64 (Ab)) := ccb 0 _ rfl; have hfb_0 : wb.frozen? ⟨go, (Aa : Int).toNat * 8, none⟩ = false := cfb 0; have hxb_1 : wb.cell? ⟨go, (Aa : Int).toNat * 8 + 1, none⟩ = some (.int .i64 (e.f1)) := ccb 1 _ rfl; have hfb_1 : wb.frozen? ⟨go, (Aa : Int).toNat * 8 + 1, none⟩ = false := cfb 1; have hxb_2 : wb.cell? ⟨go, (Aa : Int).toNat * 8 + 2, none⟩ = some (.int .i64 (e.f2)) := ccb 2 _ rfl; have hfb_2 : wb.frozen? ⟨go, (Aa : Int).toNat * 8 + 2, none⟩ = false := cfb 2; have hxb_3 : wb.cell? ⟨go, (Aa : Int).toNat * 8 + 3, none⟩ = some (.int .i64 (e.f3)) := ccb 3 _ rfl; have hfb_3 : wb.frozen? ⟨go, (Aa : Int).toNat * 8 + 3, none⟩ = false := cfb 3; have hxb_4 : wb.cell? ⟨go, (Aa : Int).toNat * 8 + 4, none⟩ = some (.int .i64 (e.f4)) := ccb 4 _ rfl; have hfb_4 : wb.frozen? ⟨go, (Aa : Int).toNat * 8 + 4, none⟩ = false := cfb 4; have hxb_5 : wb.cell? ⟨go, (Aa : Int).toNat * 8 + 5, none⟩ = some (vb) := ccb 5 _ rfl; have hfb_5 : wb.frozen? ⟨go, (Aa : Int).toNat * 8 + 5, none⟩ = false := cfb 5; have hxb_6 : wb.cell? ⟨go, (Aa : Int).toNat * 8 + 6, none⟩ = some (.int .i64 (e.f6)) := ccb 6 _ rfl; have hfb_6 : wb.frozen? ⟨go, (Aa : Int).toNat * 8 + 6, none⟩ = false := cfb 6; have hxb_7 : wb.cell? ⟨go, (Aa : Int).toNat * 8 + 7, none⟩ = some (.bool (e.f7)) := ccb 7 _ rfl; have hfb_7 : wb.frozen? ⟨go, (Aa : Int).toNat * 8 + 7, none⟩ = false := cfb 7; clear clb cmb ccb cfb) | ((with_reducible refine gate_store (t := 3) (p := 23) rfl ?_); refine store_event (t := 3) (p := 23) (v := ?vo_wc) (w1 := (wb.setCell ⟨go, (Aa : Int).toNat * 8 + 1, none⟩ (.int .i64 (wrap64 (Ab + 1))))) ?hg ?ho ?hn ?hr ?_; (case ho => rfl); (case hg => rfl); (case hn => rfl); (case hr => first | (go_simp; done) | (go_simp; rfl)); intro wc hw; have HP0 := laws_markRecordS.put_ (x' := (⟨Ab, wrap64 (Ab + 1), e.f2, e.f3, e.f4, e.f5, e.f6, e.f7⟩ : S61)) (u := .int .i64 (wrap64 (Ab + 1))) (j := 1) chb p q (show 1 + 1 ≤ 8 by decide) (k61_mkM _ _ _ (⟨Ab, wrap64 (Ab + 1), e.f2, e.f3, e.f4, e.f5, e.f6, e.f7⟩ : S61) geb) (fun _ h_ => h_); have hg : wb.grownBy wc (some go) := (by rw [hw]; exact HP0.2); have HP : Kd.S k61 61 wc w0.heap.size P0_ (.slice (some ⟨go, 0, none⟩) Ac.length co7) (Ac.set (Aa : Int).toNat (⟨Ab, wrap64 (Ab + 1), e.f2, e.f3, e.f4, e.f5, e.f6, e.f7⟩ : S61)) := (by rw [hw]; exact HP0.1); have n1_ := ak ((by rw [hw]; exact below_set (HB.out) GB.out : Below w0.heap.size w0 wc)); have n2_ := ak (Kept.of_grown (S := P0_) hg (hk_q HK) (fun k_ e_ => .inl (by injection e_ with e_; rw [← e_]; exact GP.out))); clear HB HK hg hw HP0; have HB := n1_; have HK := n2_; clear n1_ n2_; clear hxb_0 hxb_1 hxb_2 hxb_3 hxb_4 hxb_5 hxb_6 hxb_7 hfb_0 hfb_1 hfb_2 hfb_3 hfb_4 hfb_5 hfb_6 hfb_7 geb cob chb; have HSc := HP; clear HP; obtain ⟨okc, cc, clc, cmc, ccc, cfc, coc, chc⟩ := laws_markRecordS.at_ HSc p q; obtain ⟨vc, rfl, gec⟩ := k61_openM cmc; have hxc_0 : wc.cell? ⟨go, (Aa : Int).toNat * 8, none⟩ = some (.int .i64 (Ab)) := ccc 0 _ rfl; have hfc_0 : wc.frozen? ⟨go, (Aa : Int).toNat * 8, none⟩ = false := cfc 0; have hxc_1 : wc.cell? ⟨go, (Aa : Int).toNat * 8 + 1, none⟩ = some (.int .i64 (wrap64 (Ab + 1))) := ccc 1 _ rfl; have hfc_1 : wc.frozen? ⟨go, (Aa : Int).toNat * 8 + 1, none⟩ = false := cfc 1; have hxc_2 : wc.cell? ⟨go, (Aa : Int).toNat * 8 + 2, none⟩ = some (.int .i64 (e.f2)) := ccc 2 _ rfl; have hfc_2 : wc.frozen? ⟨go, (Aa : Int).toNat * 8 + 2, none⟩ = false := cfc 2; have hxc_3 : wc.cell? ⟨go, (Aa : Int).toNat * 8 + 3, none⟩ = some (.int .i64 (e.f3)) := ccc 3 _ rfl; have hfc_3 : wc.frozen? ⟨go, (Aa : Int).toNat * 8 + 3, none⟩ = false := cfc 3; have hxc_4 : wc.cell? ⟨go, (Aa : Int).toNat * 8 + 4, none⟩ = some (.int .i64 (e.f4)) := ccc 4 _ rfl; have hfc_4 : wc.frozen? ⟨go, (Aa : Int).toNat * 8 + 4, none⟩ = false := cfc 4; have hxc_5 : wc.cell? ⟨go, (Aa : Int).toNat * 8 + 5, none⟩ = some (vc) := ccc 5 _ rfl; have hfc_5 : wc.frozen? ⟨go, (Aa : Int).toNat * 8 + 5, none⟩ = false := cfc 5; have hxc_6 : wc.cell? ⟨go, (Aa : Int).toNat * 8 + 6, none⟩ = some (.int .i64 (e.f6)) := ccc 6 _ rfl; have hfc_6 : wc.frozen? ⟨go, (Aa : Int).toNat * 8 + 6, none⟩ = false := cfc 6; have hxc_7 : wc.cell? ⟨go, (Aa : Int).toNat * 8 + 7, none⟩ = some (.bool (e.f7)) := ccc 7 _ rfl; have hfc_7 : wc.frozen? ⟨go, (Aa : Int).toNat * 8 + 7, none⟩ = false := cfc 7; clear clc cmc ccc cfc) | ((with_reducible refine gate_store (t := 3) (p := 30) rfl ?_); refine store_event (t := 3) (p := 30) (v := ?vo_wd) (w1 := (wc.setCell ⟨go, (Aa : Int).toNat * 8 + 2, none⟩ (.int .i64 (wrap64 ((wrap64 (Ab + 1)) + 1))))) ?hg ?ho ?hn ?hr ?_; (case ho => rfl); (case hg => rfl); (case hn => rfl); (case hr => first | (go_simp; done) | (go_simp; rfl)); intro wd hw; have HP0 := laws_markRecordS.put_ (x' := (⟨Ab, wrap64 (Ab + 1), wrap64 ((wrap64 (Ab + 1)) + 1), e.f3, e.f4, e.f5, e.f6, e.f7⟩ : S61)) (u := .int .i64 (wrap64 ((wrap64 (Ab + 1)) + 1))) (j := 2) chc p q (show 2 + 1 ≤ 8 by decide) (k61_mkM _ _ _ (⟨Ab, wrap64 (Ab + 1), wrap64 ((wrap64 (Ab + 1)) + 1), e.f3, e.f4, e.f5, e.f6, e.f7⟩ : S61) gec) (fun _ h_ => h_); have hg : wc.grownBy wd (some go) := (by rw [hw]; exact HP0.2); have HP : Kd.S k61 61 wd w0.heap.size P0_ (.slice (some ⟨go, 0, none⟩) Ac.length co7) (Ac.set (Aa : Int).toNat (⟨Ab, wrap64 (Ab + 1), wrap64 ((wrap64 (Ab + 1)) + 1), e.f3, e.f4, e.f5, e.f6, e.f7⟩ : S61)) := (by rw [hw]; exact HP0.1); have n1_ := ak ((by rw [hw]; exact below_set (HB.out) GB.out : Below w0.heap.size w0 wd)); have n2_ := ak (Kept.of_grown (S := P0_) hg (hk_q HK) (fun k_ e_ => .inl (by injection e_ with e_; rw [← e_]; exact GP.out))); clear HB HK hg hw HP0; have HB := n1_; have HK := n2_; clear n1_ n2_; clear hxc_0 hxc_1 hxc_2 hxc_3 hxc_4 hxc_5 hxc_6 hxc_7 hfc_0 hfc_1 hfc_2 hfc_3 hfc_4 hfc_5 hfc_6 hfc_7 gec coc chc; have HSd := HP; clear HP; obtain ⟨okd, cd, cld, cmd, ccd, cfd, cod, chd⟩ := laws_markRecordS.at_ HSd p q; obtain ⟨vd, rfl, ged⟩ := k61_openM cmd; have hxd_0 : wd.cell? ⟨go, (Aa : Int).toNat * 8, none⟩ = some (.int .i64 (Ab)) := ccd 0 _ rfl; have hfd_0 : wd.frozen? ⟨go, (Aa : Int).toNat * 8, none⟩ = false := cfd 0; have hxd_1 : wd.cell? ⟨go, (Aa : Int).toNat * 8 + 1, none⟩ = some (.int .i64 (wrap64 (Ab + 1))) := ccd 1 _ rfl; have hfd_1 : wd.frozen? ⟨go, (Aa : Int).toNat * 8 + 1, none⟩ = false := cfd 1; have hxd_2 : wd.cell? ⟨go, (Aa : Int).toNat * 8 + 2, none⟩ = some (.int .i64 (wrap64 ((wrap64 (Ab + 1)) + 1))) := ccd 2 _ rfl; have hfd_2 : wd.frozen? ⟨go, (Aa : Int).toNat * 8 + 2, none⟩ = false := cfd 2; have hxd_3 : wd.cell? ⟨go, (Aa : Int).toNat * 8 + 3, none⟩ = some (.int .i64 (e.f3)) := ccd 3 _ rfl; have hfd_3 : wd.frozen? ⟨go, (Aa : Int).toNat * 8 + 3, none⟩ = false := cfd 3; have hxd_4 : wd.cell? ⟨go, (Aa : Int).toNat * 8 + 4, none⟩ = some (.int .i64 (e.f4)) := ccd 4 _ rfl; have hfd_4 : wd.frozen? ⟨go, (Aa : Int).toNat * 8 + 4, none⟩ = false := cfd 4; have hxd_5 : wd.cell? ⟨go, (Aa : Int).toNat * 8 + 5, none⟩ = some (vd) := ccd 5 _ rfl; have hfd_5 : wd.frozen? ⟨go, (Aa : Int).toNat * 8 + 5, none⟩ = false := cfd 5; have hxd_6 : wd.cell? ⟨go, (Aa : Int).toNat * 8 + 6, none⟩ = some (.int .i64 (e.f6)) := ccd 6 _ rfl; have hfd_6 : wd.frozen? ⟨go, (Aa : Int).toNat * 8 + 6, none⟩ = false := cfd 6; have hxd_7 : wd.cell? ⟨go, (Aa : Int).toNat * 8 + 7, none⟩ = some (.bool (e.f7)) := ccd 7 _ rfl; have hfd_7 : wd.frozen? ⟨go, (Aa : Int).toNat * 8 + 7, none⟩ = false := cfd 7; clear cld cmd ccd cfd) | ((with_reducible refine gate_store (t := 3) (p := 37) rfl ?_); refine store_event (t := 3) (p := 37) (v := ?vo_we) (w1 := (wd.setCell ⟨go, (Aa : Int).toNat * 8 + 3, none⟩ (.int .i64 (wrap64 ((wrap64 ((wrap64 (Ab + 1)) + 1)) + 1))))) ?hg ?ho ?hn ?hr ?_; (case ho => rfl); (case hg => rfl); (case hn => rfl); (case hr => first | (go_simp; done) | (go_simp; rfl)); intro we hw; have HP0 := laws_markRecordS.put_ (x' := (⟨Ab, wrap64 (Ab + 1), wrap64 ((wrap64 (Ab + 1)) + 1), wrap64 ((wrap64 ((wrap64 (Ab + 1)) + 1)) + 1), e.f4, e.f5, e.f6, e.f7⟩ : S61)) (u := .int .i64 (wrap64 ((wrap64 ((wrap64 (Ab + 1)) + 1)) + 1))) (j := 3) chd p q (show 3 + 1 ≤ 8 by decide) (k61_mkM _ _ _ (⟨Ab, wrap64 (Ab + 1), wrap64 ((wrap64 (Ab + 1)) + 1), wrap64 ((wrap64 ((wrap64 (Ab + 1)) + 1)) + 1), e.f4, e.f5, e.f6, e.f7⟩ : S61) ged) (fun _ h_ => h_); have hg : wd.grownBy we (some go) := (by rw [hw]; exact HP0.2); have HP : Kd.S k61 61 we w0.heap.size P0_ (.slice (some ⟨go, 0, none⟩) Ac.length co7) (Ac.set (Aa : Int).toNat (⟨Ab, wrap64 (Ab + 1), wrap64 ((wrap64 (Ab + 1)) + 1), wrap64 ((wrap64 ((wrap64 (Ab + 1)) + 1)) + 1), e.f4, e.f5, e.f6, e.f7⟩ : S61)) := (by rw [hw]; exact HP0.1); have n1_ := ak ((by rw [hw]; exact below_set (HB.out) GB.out : Below w0.heap.size w0 we)); have n2_ := ak (Kept.of_grown (S := P0_) hg (hk_q HK) (fun k_ e_ => .inl (by injection e_ with e_; rw [← e_]; exact GP.out))); clear HB HK hg hw HP0; have HB := n1_; have HK := n2_; clear n1_ n2_; clear hxd_0 hxd_1 hxd_2 hxd_3 hxd_4 hxd_5 hxd_6 hxd_7 hfd_0 hfd_1 hfd_2 hfd_3 hfd_4 hfd_5 hfd_6 hfd_7 ged cod chd; have HSe := HP; clear HP; obtain ⟨oke, ce, cle, cme, cce, cfe, coe, che⟩ := laws_markRecordS.at_ HSe p q; obtain ⟨ve, rfl, gee⟩ := k61_openM cme; have hxe_0 : we.cell? ⟨go, (Aa : Int).toNat * 8, none⟩ = some (.int .i64 (Ab)) := cce 0 _ rfl; have hfe_0 : we.frozen? ⟨go, (Aa : Int).toNat * 8, none⟩ = false := cfe 0; have hxe_1 : we.cell? ⟨go, (Aa : Int).toNat * 8 + 1, none⟩ = some (.int .i64 (wrap64 (Ab + 1))) := cce 1 _ rfl; have hfe_1 : we.frozen? ⟨go, (Aa : Int).toNat * 8 + 1, none⟩ = false := cfe 1; have hxe_2 : we.cell? ⟨go, (Aa : Int).toNat * 8 + 2, none⟩ = some (.int .i64 (wrap64 ((wrap64 (Ab + 1)) + 1))) := cce 2 _ rfl; have hfe_2 : we.frozen? ⟨go, (Aa : Int).toNat * 8 + 2, none⟩ = false := cfe 2; have hxe_3 : we.cell? ⟨go, (Aa : Int).toNat * 8 + 3, none⟩ = some (.int .i64 (wrap64 ((wrap64 ((wrap64 (Ab + 1)) + 1)) + 1))) := cce 3 _ rfl; have hfe_3 : we.frozen? ⟨go, (Aa : Int).toNat * 8 + 3, none⟩ = false := cfe 3; have hxe_4 : we.cell? ⟨go, (Aa : Int).toNat * 8 + 4, none⟩ = some (.int .i64 (e.f4)) := cce 4 _ rfl; have hfe_4 : we.frozen? ⟨go, (Aa : Int).toNat * 8 + 4, none⟩ = false := cfe 4; have hxe_5 : we.cell? ⟨go, (Aa : Int).toNat * 8 + 5, none⟩ = some (ve) := cce 5 _ rfl; have hfe_5 : we.frozen? ⟨go, (Aa : Int).toNat * 8 + 5, none⟩ = false := cfe 5; have hxe_6 : we.cell? ⟨go, (Aa : Int).toNat * 8 + 6, none⟩ = some (.int .i64 (e.f6)) := cce 6 _ rfl; have hfe_6 : we.frozen? ⟨go, (Aa : Int).toNat * 8 + 6, none⟩ = false := cfe 6; have hxe_7 : we.cell? ⟨go, (Aa : Int).toNat * 8 + 7, none⟩ = some (.bool (e.f7)) := cce 7 _ rfl; have hfe_7 : we.frozen? ⟨go, (Aa : Int).toNat * 8 + 7, none⟩ = false := cfe 7; clear cle cme cce cfe) | ((with_reducible refine gate_store (t := 3) (p := 44) rfl ?_); refine store_event (t := 3) (p := 44) (v := ?vo_wf) (w1 := (we.setCell ⟨go, (Aa : Int).toNat * 8 + 4, none⟩ (.int .i64 (wrap64 ((wrap64 ((wrap64 ((wrap64 (Ab + 1)) + 1)) + 1)) + 1))))) ?hg ?ho ?hn ?hr ?_; (case ho => rfl); (case hg => rfl); (case hn => rfl); (case hr => first | (go_simp; done) | (go_simp; rfl)); intro wf hw; have HP0 := laws_markRecordS.put_ (x' := (⟨Ab, wrap64 (Ab + 1), wrap64 ((wrap64 (Ab + 1)) + 1), wrap64 ((wrap64 ((wrap64 (Ab + 1)) + 1)) + 1), wrap64 ((wrap64 ((wrap64 ((wrap64 (Ab + 1)) + 1)) + 1)) + 1), e.f5, e.f6, e.f7⟩ : S61)) (u := .int .i64 (wrap64 ((wrap64 ((wrap64 ((wrap64 (Ab + 1)) + 1)) + 1)) + 1))) (j := 4) che p q (show 4 + 1 ≤ 8 by decide) (k61_mkM _ _ _ (⟨Ab, wrap64 (Ab + 1), wrap64 ((wrap64 (Ab + 1)) + 1), wrap64 ((wrap64 ((wrap64 (Ab + 1)) + 1)) + 1), wrap64 ((wrap64 ((wrap64 ((wrap64 (Ab + 1)) + 1)) + 1)) + 1), e.f5, e.f6, e.f7⟩ : S61) gee) (fun _ h_ => h_); have hg : we.grownBy wf (some go) := (by rw [hw]; exact HP0.2); have HP : Kd.S k61 61 wf w0.heap.size P0_ (.slice (some ⟨go, 0, none⟩) Ac.length co7) (Ac.set (Aa : Int).toNat (⟨Ab, wrap64 (Ab + 1), wrap64 ((wrap64 (Ab + 1)) + 1), wrap64 ((wrap64 ((wrap64 (Ab + 1)) + 1)) + 1), wrap64 ((wrap64 ((wrap64 ((wrap64 (Ab + 1)) + 1)) + 1)) + 1), e.f5, e.f6, e.f7⟩ : S61)) := (by rw [hw]; exact HP0.1); have n1_ := ak ((by rw [hw]; exact below_set (HB.out) GB.out : Below w0.heap.size w0 wf)); have n2_ := ak (Kept.of_grown (S := P0_) hg (hk_q HK) (fun k_ e_ => .inl (by injection e_ with e_; rw [← e_]; exact GP.out))); clear HB HK hg hw HP0; have HB := n1_; have HK := n2_; clear n1_ n2_; clear hxe_0 hxe_1 hxe_2 hxe_3 hxe_4 hxe_5 hxe_6 hxe_7 hfe_0 hfe_1 hfe_2 hfe_3 hfe_4 hfe_5 hfe_6 hfe_7 gee coe che; have HSf := HP; clear HP; obtain ⟨okf, cf, clf, cmf, ccf, cff, cof, chf⟩ := laws_markRecordS.at_ HSf p q; obtain ⟨vf, rfl, gef⟩ := k61_openM cmf; have hxf_0 : wf.cell? ⟨go, (Aa : Int).toNat * 8, none⟩ = some (.int .i64 (Ab)) := ccf 0 _ rfl; have hff_0 : wf.frozen? ⟨go, (Aa : Int).toNat * 8, none⟩ = false := cff 0; have hxf_1 : wf.cell? ⟨go, (Aa : Int).toNat * 8 + 1, none⟩ = some (.int .i64 (wrap64 (Ab + 1))) := ccf 1 _ rfl; have hff_1 : wf.frozen? ⟨go, (Aa : Int).toNat * 8 + 1, none⟩ = false := cff 1; have hxf_2 : wf.cell? ⟨go, (Aa : Int).toNat * 8 + 2, none⟩ = some (.int .i64 (wrap64 ((wrap64 (Ab + 1)) + 1))) := ccf 2 _ rfl; have hff_2 : wf.frozen? ⟨go, (Aa : Int).toNat * 8 + 2, none⟩ = false := cff 2; have hxf_3 : wf.cell? ⟨go, (Aa : Int).toNat * 8 + 3, none⟩ = some (.int .i64 (wrap64 ((wrap64 ((wrap64 (Ab + 1)) + 1)) + 1))) := ccf 3 _ rfl; have hff_3 : wf.frozen? ⟨go, (Aa : Int).toNat * 8 + 3, none⟩ = false := cff 3; have hxf_4 : wf.cell? ⟨go, (Aa : Int).toNat * 8 + 4, none⟩ = some (.int .i64 (wrap64 ((wrap64 ((wrap64 ((wrap64 (Ab + 1)) + 1)) + 1)) + 1))) := ccf 4 _ rfl; have hff_4 : wf.frozen? ⟨go, (Aa : Int).toNat * 8 + 4, none⟩ = false := cff 4; have hxf_5 : wf.cell? ⟨go, (Aa : Int).toNat * 8 + 5, none⟩ = some (vf) := ccf 5 _ rfl; have hff_5 : wf.frozen? ⟨go, (Aa : Int).toNat * 8 + 5, none⟩ = false := cff 5; have hxf_6 : wf.cell? ⟨go, (Aa : Int).toNat * 8 + 6, none⟩ = some (.int .i64 (e.f6)) := ccf 6 _ rfl; have hff_6 : wf.frozen? ⟨go, (Aa : Int).toNat * 8 + 6, none⟩ = false := cff 6; have hxf_7 : wf.cell? ⟨go, (Aa : Int).toNat * 8 + 7, none⟩ = some (.bool (e.f7)) := ccf 7 _ rfl; have hff_7 : wf.frozen? ⟨go, (Aa : Int).toNat * 8 + 7, none⟩ = false := cff 7; clear clf cmf ccf cff) | ((with_reducible refine gate_callee (f := 100) rfl ?_); refine goesL_ (some 53) rfl rfl Try.func100 (by kernel_rfl) rfl #[vf, .int .i64 (wrap64 ((wrap64 ((wrap64 ((wrap64 ((wrap64 (Ab + 1)) + 1)) + 1)) + 1)) + 1))] rfl (by (try simp only [List.map_toArray, List.map_cons, List.map_nil]); first | done | rfl | (simp only [List.length_drop, List.length_take]; rfl)) ?_; (with_reducible refine (laws_markNearS.calls k1 okf vf e.f5 (wrap64 ((wrap64 ((wrap64 ((wrap64 ((wrap64 (Ab + 1)) + 1)) + 1)) + 1)) + 1)) t y w0 _ ?side1 ?side2 A.out).mono ?_); (case side1 => exact (bw_q HB)); (case side2 => (with_reducible repeat (first | apply Kd.R_alloc | apply Kd.R_drewN | apply Kd.R_drew)); exact gef); rintro e_ wg ⟨rfl, hR, hb, hk⟩; refine ⟨_, rfl, ?_⟩; have HP := laws_markRecordS.call_ (x' := (⟨Ab, wrap64 (Ab + 1), wrap64 ((wrap64 (Ab + 1)) + 1), wrap64 ((wrap64 ((wrap64 (Ab + 1)) + 1)) + 1), wrap64 ((wrap64 ((wrap64 ((wrap64 (Ab + 1)) + 1)) + 1)) + 1), y, e.f6, e.f7⟩ : S61)) chf hk (k61_mkM _ _ _ (⟨Ab, wrap64 (Ab + 1), wrap64 ((wrap64 (Ab + 1)) + 1), wrap64 ((wrap64 ((wrap64 (Ab + 1)) + 1)) + 1), wrap64 ((wrap64 ((wrap64 ((wrap64 (Ab + 1)) + 1)) + 1)) + 1), y, e.f6, e.f7⟩ : S61) (Kd.R_mono (Kd.R_tight rfl hR) (fun k_ hk_ => gef.1 k_ hk_.symm))) (fun _ h_ => h_); have n1_ := ak hb; have n2_ := ak (Kept.then_ HK.out hk (fun k_ h_ => .inl (cof k_ h_).1)); clear HB HK hR hb hk; have HB := n1_; have HK := n2_; clear n1_ n2_; clear hxf_0 hxf_1 hxf_2 hxf_3 hxf_4 hxf_5 hxf_6 hxf_7 hff_0 hff_1 hff_2 hff_3 hff_4 hff_5 hff_6 hff_7 gef cof chf; have HSg := HP; clear HP; obtain ⟨okg, cg, clg, cmg, ccg, cfg, cog, chg⟩ := laws_markRecordS.at_ HSg p q; obtain ⟨vg, rfl, geg⟩ := k61_openM cmg; have hxg_0 : wg.cell? ⟨go, (Aa : Int).toNat * 8, none⟩ = some (.int .i64 (Ab)) := ccg 0 _ rfl; have hfg_0 : wg.frozen? ⟨go, (Aa : Int).toNat * 8, none⟩ = false := cfg 0; have hxg_1 : wg.cell? ⟨go, (Aa : Int).toNat * 8 + 1, none⟩ = some (.int .i64 (wrap64 (Ab + 1))) := ccg 1 _ rfl; have hfg_1 : wg.frozen? ⟨go, (Aa : Int).toNat * 8 + 1, none⟩ = false := cfg 1; have hxg_2 : wg.cell? ⟨go, (Aa : Int).toNat * 8 + 2, none⟩ = some (.int .i64 (wrap64 ((wrap64 (Ab + 1)) + 1))) := ccg 2 _ rfl; have hfg_2 : wg.frozen? ⟨go, (Aa : Int).toNat * 8 + 2, none⟩ = false := cfg 2; have hxg_3 : wg.cell? ⟨go, (Aa : Int).toNat * 8 + 3, none⟩ = some (.int .i64 (wrap64 ((wrap64 ((wrap64 (Ab + 1)) + 1)) + 1))) := ccg 3 _ rfl; have hfg_3 : wg.frozen? ⟨go, (Aa : Int).toNat * 8 + 3, none⟩ = false := cfg 3; have hxg_4 : wg.cell? ⟨go, (Aa : Int).toNat * 8 + 4, none⟩ = some (.int .i64 (wrap64 ((wrap64 ((wrap64 ((wrap64 (Ab + 1)) + 1)) + 1)) + 1))) := ccg 4 _ rfl; have hfg_4 : wg.frozen? ⟨go, (Aa : Int).toNat * 8 + 4, none⟩ = false := cfg 4; have hxg_5 : wg.cell? ⟨go, (Aa : Int).toNat * 8 + 5, none⟩ = some (vg) := ccg 5 _ rfl; have hfg_5 : wg.frozen? ⟨go, (Aa : Int).toNat * 8 + 5, none⟩ = false := cfg 5; have hxg_6 : wg.cell? ⟨go, (Aa : Int).toNat * 8 + 6, none⟩ = some (.int .i64 (e.f6)) := ccg 6 _ rfl; have hfg_6 : wg.frozen? ⟨go, (Aa : Int).toNat * 8 + 6, none⟩ = false := cfg 6; have hxg_7 : wg.cell? ⟨go, (Aa : Int).toNat * 8 + 7, none⟩ = some (.bool (e.f7)) := ccg 7 _ rfl; have hfg_7 : wg.frozen? ⟨go, (Aa : Int).toNat * 8 + 7, none⟩ = false := cfg 7; clear clg cmg ccg cfg) | ((with_reducible refine gate_store (t := 3) (p := 58) rfl ?_); refine store_event (t := 3) (p := 58) (v := ?vo_wh) (w1 := (wg.setCell ⟨go, (Aa : Int).toNat * 8 + 6, none⟩ (.int .i64 t))) ?hg ?ho ?hn ?hr ?_; (case ho => rfl); (case hg => rfl); (case hn => rfl); (case hr => first | (go_simp; done) | (go_simp; rfl)); intro wh hw; have HP0 := laws_markRecordS.put_ (x' := (⟨Ab, wrap64 (Ab + 1), wrap64 ((wrap64 (Ab + 1)) + 1), wrap64 ((wrap64 ((wrap64 (Ab + 1)) + 1)) + 1), wrap64 ((wrap64 ((wrap64 ((wrap64 (Ab + 1)) + 1)) + 1)) + 1), y, t, e.f7⟩ : S61)) (u := .int .i64 t) (j := 6) chg p q (show 6 + 1 ≤ 8 by decide) (k61_mkM _ _ _ (⟨Ab, wrap64 (Ab + 1), wrap64 ((wrap64 (Ab + 1)) + 1), wrap64 ((wrap64 ((wrap64 (Ab + 1)) + 1)) + 1), wrap64 ((wrap64 ((wrap64 ((wrap64 (Ab + 1)) + 1)) + 1)) + 1), y, t, e.f7⟩ : S61) geg) (fun _ h_ => h_); have hg : wg.grownBy wh (some go) := (by rw [hw]; exact HP0.2); have HP : Kd.S k61 61 wh w0.heap.size P0_ (.slice (some ⟨go, 0, none⟩) Ac.length co7) (Ac.set (Aa : Int).toNat (⟨Ab, wrap64 (Ab + 1), wrap64 ((wrap64 (Ab + 1)) + 1), wrap64 ((wrap64 ((wrap64 (Ab + 1)) + 1)) + 1), wrap64 ((wrap64 ((wrap64 ((wrap64 (Ab + 1)) + 1)) + 1)) + 1), y, t, e.f7⟩ : S61)) := (by rw [hw]; exact HP0.1); have n1_ := ak ((by rw [hw]; exact below_set (HB.out) GB.out : Below w0.heap.size w0 wh)); have n2_ := ak (Kept.of_grown (S := P0_) hg (hk_q HK) (fun k_ e_ => .inl (by injection e_ with e_; rw [← e_]; exact GP.out))); clear HB HK hg hw HP0; have HB := n1_; have HK := n2_; clear n1_ n2_; clear hxg_0 hxg_1 hxg_2 hxg_3 hxg_4 hxg_5 hxg_6 hxg_7 hfg_0 hfg_1 hfg_2 hfg_3 hfg_4 hfg_5 hfg_6 hfg_7 geg cog chg; have HSh := HP; clear HP; obtain ⟨okh, ch, clh, cmh, cch, cfh, coh, chh⟩ := laws_markRecordS.at_ HSh p q; obtain ⟨vh, rfl, geh⟩ := k61_openM cmh; have hxh_0 : wh.cell? ⟨go, (Aa : Int).toNat * 8, none⟩ = some (.int .i64 (Ab)) := cch 0 _ rfl; have hfh_0 : wh.frozen? ⟨go, (Aa : Int).toNat * 8, none⟩ = false := cfh 0; have hxh_1 : wh.cell? ⟨go, (Aa : Int).toNat * 8 + 1, none⟩ = some (.int .i64 (wrap64 (Ab + 1))) := cch 1 _ rfl; have hfh_1 : wh.frozen? ⟨go, (Aa : Int).toNat * 8 + 1, none⟩ = false := cfh 1; have hxh_2 : wh.cell? ⟨go, (Aa : Int).toNat * 8 + 2, none⟩ = some (.int .i64 (wrap64 ((wrap64 (Ab + 1)) + 1))) := cch 2 _ rfl; have hfh_2 : wh.frozen? ⟨go, (Aa : Int).toNat * 8 + 2, none⟩ = false := cfh 2; have hxh_3 : wh.cell? ⟨go, (Aa : Int).toNat * 8 + 3, none⟩ = some (.int .i64 (wrap64 ((wrap64 ((wrap64 (Ab + 1)) + 1)) + 1))) := cch 3 _ rfl; have hfh_3 : wh.frozen? ⟨go, (Aa : Int).toNat * 8 + 3, none⟩ = false := cfh 3; have hxh_4 : wh.cell? ⟨go, (Aa : Int).toNat * 8 + 4, none⟩ = some (.int .i64 (wrap64 ((wrap64 ((wrap64 ((wrap64 (Ab + 1)) + 1)) + 1)) + 1))) := cch 4 _ rfl; have hfh_4 : wh.frozen? ⟨go, (Aa : Int).toNat * 8 + 4, none⟩ = false := cfh 4; have hxh_5 : wh.cell? ⟨go, (Aa : Int).toNat * 8 + 5, none⟩ = some (vh) := cch 5 _ rfl; have hfh_5 : wh.frozen? ⟨go, (Aa : Int).toNat * 8 + 5, none⟩ = false := cfh 5; have hxh_6 : wh.cell? ⟨go, (Aa : Int).toNat * 8 + 6, none⟩ = some (.int .i64 (t)) := cch 6 _ rfl; have hfh_6 : wh.frozen? ⟨go, (Aa : Int).toNat * 8 + 6, none⟩ = false := cfh 6; have hxh_7 : wh.cell? ⟨go, (Aa : Int).toNat * 8 + 7, none⟩ = some (.bool (e.f7)) := cch 7 _ rfl; have hfh_7 : wh.frozen? ⟨go, (Aa : Int).toNat * 8 + 7, none⟩ = false := cfh 7; clear clh cmh cch cfh) | ((with_reducible refine gate_store (t := 4) (p := 67) rfl ?_); refine store_event (t := 4) (p := 67) (v := ?vo_wi) (w1 := (wh.setCell ⟨go, (Aa : Int).toNat * 8 + 7, none⟩ (.bool ((Int.tmod (wrap64 (t + 1)) 3) == 0)))) ?hg ?ho ?hn ?hr ?_; (case ho => rfl); (case hg => rfl); (case hn => rfl); (case hr => first | (go_simp; done) | (go_simp; rfl)); intro wi hw; have HP0 := laws_markRecordS.put_ (x' := (⟨Ab, wrap64 (Ab + 1), wrap64 ((wrap64 (Ab + 1)) + 1), wrap64 ((wrap64 ((wrap64 (Ab + 1)) + 1)) + 1), wrap64 ((wrap64 ((wrap64 ((wrap64 (Ab + 1)) + 1)) + 1)) + 1), y, t, (Int.tmod (wrap64 (t + 1)) 3) == 0⟩ : S61)) (u := .bool ((Int.tmod (wrap64 (t + 1)) 3) == 0)) (j := 7) chh p q (show 7 + 1 ≤ 8 by decide) (k61_mkM _ _ _ (⟨Ab, wrap64 (Ab + 1), wrap64 ((wrap64 (Ab + 1)) + 1), wrap64 ((wrap64 ((wrap64 (Ab + 1)) + 1)) + 1), wrap64 ((wrap64 ((wrap64 ((wrap64 (Ab + 1)) + 1)) + 1)) + 1), y, t, (Int.tmod (wrap64 (t + 1)) 3) == 0⟩ : S61) geh) (fun _ h_ => h_); have hg : wh.grownBy wi (some go) := (by rw [hw]; exact HP0.2); have HP : Kd.S k61 61 wi w0.heap.size P0_ (.slice (some ⟨go, 0, none⟩) Ac.length co7) (Ac.set (Aa : Int).toNat (⟨Ab, wrap64 (Ab + 1), wrap64 ((wrap64 (Ab + 1)) + 1), wrap64 ((wrap64 ((wrap64 (Ab + 1)) + 1)) + 1), wrap64 ((wrap64 ((wrap64 ((wrap64 (Ab + 1)) + 1)) + 1)) + 1), y, t, (Int.tmod (wrap64 (t + 1)) 3) == 0⟩ : S61)) := (by rw [hw]; exact HP0.1); have n1_ := ak ((by rw [hw]; exact below_set (HB.out) GB.out : Below w0.heap.size w0 wi)); have n2_ := ak (Kept.of_grown (S := P0_) hg (hk_q HK) (fun k_ e_ => .inl (by injection e_ with e_; rw [← e_]; exact GP.out))); clear HB HK hg hw HP0; have HB := n1_; have HK := n2_; clear n1_ n2_; clear hxh_0 hxh_1 hxh_2 hxh_3 hxh_4 hxh_5 hxh_6 hxh_7 hfh_0 hfh_1 hfh_2 hfh_3 hfh_4 hfh_5 hfh_6 hfh_7 geh coh chh; have HSi := HP; clear HP))
          go_roundg k1
          case measure => have := Ad.out; omega
          case rel => exact ⟨_, (wrap64 ((wrap64 (t + 1)) + 1)), (wrap64 (Aa + 1)), rs_q, rs_q, H', ⟨by have := Ad.out; omega⟩, ⟨by (with_reducible repeat (first | apply Kd.S_alloc | apply Kd.S_drewN | apply Kd.S_drew)); exact HSi⟩, ⟨hk_q HK⟩, ⟨(bw_q HB)⟩⟩
        · rw [if_neg c4] at H
          exact absurd H (by simp)
      · rw [if_neg c3] at H
        have Ae : decide (Aa < (Ac.length : Int)) = false := decide_eq_false c3
        clear c3
        simp only [Option.some.injEq, Prod.mk.injEq] at H
        obtain ⟨rfl, rfl⟩ := H; obtain ⟨Ao12, co12, eo12⟩ := Kd.S_slice HO.out; subst eo12
        go_wp2
        go_ret
        exact ⟨by first | rfl | (simp [errW_none, errW_some] <;> rfl) | (simp [*, errW_none, errW_some] <;> rfl), kS_q HO, (bw_q HB), hk_q HK⟩

/-! ### laws_markRecord: function 39 -/
def laws_markRecord.f (k : Nat) (c : Int) (d : Int) (e : Int) (g : Int) (h : Int) (b : List (S127)) (i : Int) (j : Bool) (a1 : Int) : Option (Int × (List (S127))) := (laws_markNearS.f k b a1).bind fun a => (some (a.1, a.2))
theorem laws_markRecord.mono : ∀ a0 a1 a2 a3 a4 a5 a6 a7 a8 k, LeO (laws_markRecord.f k a0 a1 a2 a3 a4 a5 a6 a7 a8) (laws_markRecord.f (k + 1) a0 a1 a2 a3 a4 a5 a6 a7 a8) := by
 intro a0 a1 a2 a3 a4 a5 a6 a7 a8 k
 unfold laws_markRecord.f
 with_reducible repeat' (first | apply laws_markNearS.mono | exact LeO.refl _ | exact LeO.none _ | refine LeO.ite ?_ ?_ | refine LeO.bind ?_ (fun _ => ?_))
set_option maxHeartbeats 8000000 in
set_option maxRecDepth 100000 in
theorem laws_markRecord.calls (k : Nat) (Ac : Int) (Ad : Int) (Ae : Int) (Af : Int) (Ag : Int) (P0_5_ : Nat → Prop) (u9000_ : Value) (Aa : List (S127)) (Ah : Int) (Ai : Bool) (a1 : Int) (r1 : Int) (r2 : List (S127)) (w0 w : World) (hB : Below w0.heap.size w0 w) (ho0_5 : Kd.R k127 127 w w0.heap.size P0_5_ u9000_ Aa) (h : laws_markRecord.f k Ac Ad Ae Af Ag Aa Ah Ai a1 = some (r1, r2)) :
  Calls Try.prog 39 #[.agg #[.int .i64 Ac, .int .i64 Ad, .int .i64 Ae, .int .i64 Af, .int .i64 Ag, u9000_, .int .i64 Ah, .bool Ai], .int .i64 a1] w fun e w' => e = .returned (.int .i64 r1) ∧ Kd.R k127 127 w' w0.heap.size (fun k_ => (P0_5_ k_ ∨ w.heap.size ≤ k_)) u9000_ r2 ∧ Below w0.heap.size w0 w' ∧ Kept w w' (fun k_ => P0_5_ k_) := by
 have hu61 := Try.underlying61
 have HO0_5 := ak (show Kd.R k127 127 w w0.heap.size (fun k_ => (P0_5_ k_ ∨ w.heap.size ≤ k_)) u9000_ Aa from Kd.R_mono ho0_5 (fun k_ hk => (.inl hk)))
 have HK := ak (Kept.refl w (fun k_ => P0_5_ k_))
 have HW0 := ak hB.size; have HB := ak hB; clear hB; have H := h
 clear h; unfold laws_markRecord.f at H; replace H := bsi H; obtain ⟨⟨Am, An⟩, A30, H⟩ := H
 (try dsimp only at H)
 have A3 := ak A30; clear A30
 simp only [Option.some.injEq, Prod.mk.injEq] at H
 obtain ⟨rfl, rfl⟩ := H; obtain ⟨Ao4, co4, eo4⟩ := Kd.R_slice HO0_5.out; subst eo4
 go_enter Try.func39, Try.ntmps39
 go_wp2_with (first | ((with_reducible refine gate_dst (N := 2) rfl ?_); refine box_q 2 #[.int .i64 Ac, .int .i64 Ad, .int .i64 Ae, .int .i64 Af, .int .i64 Ag, .slice Ao4 Aa.length co4, .int .i64 Ah, .bool Ai] 61 ?_; intro Ak hg w5 hbox hb; replace HO0_5 := ak (Kd.R_below (kR_q HO0_5) hb); have Ab := ak (hbox); have Aj := ak ((by rw [hg]; exact (by first | exact HK.out.1 | exact (show Kept w _ (fun k_ => P0_5_ k_) from hk_q HK).1) : w.heap.size ≤ Ak)); replace HK := ak (Kept.below (S := (fun k_ => P0_5_ k_)) (hk_q HK) hb); have Be := gsz w0 (below_size (bw_q HB)) hg; replace HB := ak (below_step (bw_q HB) hb); clear hb hbox hg; obtain ⟨Ao, Ap, Aq, Ar, As, At, Au, Av, Aw, Ax, Ay, Az, Ba, Bb, Bc, Bd⟩ := cf8_ Ab) | ((with_reducible refine gate_callee (f := 100) rfl ?_); refine goesL_ (some 8) rfl rfl Try.func100 (by kernel_rfl) rfl #[.slice Ao4 Aa.length co4, .int .i64 a1] rfl mp_q ?_; (with_reducible refine (laws_markNearS.calls k (fun k_ => some k_ = (.slice Ao4 Aa.length co4 : Value).ownBlock) (.slice Ao4 Aa.length co4) Aa a1 Am An w0 _ ?side1 ?side2 A3.out).mono ?_); (case side1 => exact bw_q HB); (case side2 => exact Kd.R_tight rfl HO0_5.out); rintro e w7 ⟨rfl, Al, hb, hkp⟩; refine ⟨_, rfl, ?_⟩; replace Ab := ak (blk_kept (bk_q Ab) hkp (fun hs_ => (fun e_ => (Kd.R_ne HO0_5.out Ab.out (by decide)) e_) hs_)); replace HK := ak (Kept.then_ (S := (fun k_ => P0_5_ k_)) (by repeat (first | (with_reducible first | exact HK.out | apply Kept.alloc | apply Kept.drewN | apply Kept.drew | refine Kept.setCell ?_ (.inr Aj.out) _) | exact HK.out)) hkp (fun k_ hs_ => (fun e_ => (HO0_5.out.1 k_ e_.symm)) hs_)); replace HO0_5 := ak (Kd.R_reok rfl Al (fun k_ e_ => HO0_5.out.1 k_ e_)); replace HB := ak (hb); (try clear hb); (try clear hkp); (try clear Al)))
 go_ret
 exact ⟨er_q, kR_q HO0_5, bw_q HB, by repeat (first | (with_reducible first | exact HK.out | apply Kept.alloc | apply Kept.drewN | apply Kept.drew | refine Kept.setCell ?_ (.inr Aj.out) _) | exact HK.out)⟩

/-! ### laws_heldNearS: function 103 -/
def laws_heldNearS.l0 : Nat → List (S127) → Int → Int → Option (Int)
 | 0, _, _, _ => none
 | k + 1, b, c, a => if a < (b.length : Int) then (if 0 ≤ a then (if ((rd_T127 b a).f0) = c then (if ((rd_T127 b a).f1) = (wrap64 (c + 1)) then (laws_heldNearS.l0 k b (wrap64 ((wrap64 (c + 1)) + 1)) (wrap64 (a + 1))) else (some (-1))) else (some (-1))) else (none)) else (some c)
def laws_heldNearS.f (k : Nat) (l0 : List (S127)) (a1 : Int) : Option (Int) := laws_heldNearS.l0 k l0 a1 0
theorem laws_heldNearS.mono_l : ∀ k, (∀ y0 y1 y2, LeO (laws_heldNearS.l0 k y0 y1 y2) (laws_heldNearS.l0 (k + 1) y0 y1 y2))
 | 0 => fun _ _ _ r h => by simp [laws_heldNearS.l0] at h
 | k + 1 => by
  have ih0 := laws_heldNearS.mono_l k
  ·intro y0 y1 y2
   unfold laws_heldNearS.l0
   with_reducible repeat' (first | apply ih0 | exact LeO.refl _ | exact LeO.none _ | refine LeO.ite ?_ ?_ | refine LeO.bind ?_ (fun _ => ?_))
theorem laws_heldNearS.mono : ∀ a0 a1 k, LeO (laws_heldNearS.f k a0 a1) (laws_heldNearS.f (k + 1) a0 a1) := by
 intro a0 a1 k
 have ih0 := laws_heldNearS.mono_l k
 unfold laws_heldNearS.f
 with_reducible repeat' (first | apply ih0 | exact LeO.refl _ | exact LeO.none _ | refine LeO.ite ?_ ?_ | refine LeO.bind ?_ (fun _ => ?_))
set_option maxHeartbeats 8000000 in
set_option maxRecDepth 100000 in
theorem laws_heldNearS.calls (k : Nat) (A0 : Option Addr) (c0 : Nat) (l0 : List (S127)) (a1 : Int) (r : Int) (w : World) (hr0 : Kd.C k127 w A0 l0.length l0) (hc0 : l0.length ≤ c0) (h : laws_heldNearS.f k l0 a1 = some r) :
  Calls Try.prog 103 #[.slice A0 l0.length c0, .int .i64 a1] w fun e w' => e = .returned (.int .i64 r) ∧ Drawn0 w w' := by
 have HR0 := ak hr0; have Ar := ak hc0; clear hr0 hc0; have H := h
 clear h; unfold laws_heldNearS.f at H; have H' := ak H; clear H
 go_enter Try.func103, Try.ntmps103
 go_wp2
 go_loopg [1, 5] k (fun kq v1 v5 w' => ∃ (Ab : Int) (Aa : Int), v1 = .int .i64 Ab ∧ v5 = .int .i64 Aa ∧ Aside0 (laws_heldNearS.l0 kq l0 Ab Aa = some r) ∧ Aside0 (kq ≤ k) ∧ Drawn0 w w')
 case atStart => exact ⟨(a1), (0), rs_q, rs_q, H', ⟨Nat.le_refl _⟩, by repeat (first | exact Drawn0.refl _ | apply Drawn0.step)⟩
 case round =>
  clear H'; (try clear c1); (try clear p2); obtain ⟨Ab, Aa, rfl, rfl, HA, Am, ⟨m1, rfl⟩⟩ := hrel
  cases gk with
  | zero => exact absurd HA.out (by simp [laws_heldNearS.l0])
  | succ k1 =>
   have H := HA.out; clear HA
   simp only [laws_heldNearS.l0] at H
   by_cases c3 : Aa < (l0.length : Int)
   ·rw [if_pos c3] at H
    have Ap : decide (Aa < (l0.length : Int)) = true := decide_eq_true c3
    clear c3
    by_cases c4 : 0 ≤ Aa
    ·rw [if_pos c4] at H
     have Aq : decide (0 ≤ Aa) = true := decide_eq_true c4
     clear c4; have An := ak H; clear H
     have p756 : 0 ≤ (Aa : Int) := of_decide_eq_true as_q
     have q756 : Aa < (l0.length : Int) := of_decide_eq_true as_q
     obtain ⟨Ak, e756, Ag, Ah⟩ := at_T127 HR0.out Aa p756 q756
     cases e756
     replace p756 := eq_true p756; replace q756 := eq_true q756
     go_upto_if 18 with (fail)
     (try clear Ag); (try clear Ah); have H := An.out; clear An
     by_cases c6 : ((rd_T127 l0 Aa).f0) = Ab
     ·rw [if_pos c6] at H
      have Ac : (((rd_T127 l0 Aa).f0) == Ab) = true := bqi c6
      have Ad : (((rd_T127 l0 Aa).f0) != Ab) = false := bnf c6
      clear c6
      (first | rw [Ac] | rw [Ad] | (simp only [i64_w, i32_w]; first | rw [Ac] | rw [Ad]) | skip)
      have Ao := ak H; clear H
      have p757 : 0 ≤ (Aa : Int) := of_decide_eq_true as_q
      have q757 : Aa < (l0.length : Int) := of_decide_eq_true as_q
      obtain ⟨Al, e757, Ai, Aj⟩ := at_T127 HR0.out Aa p757 q757
      obtain rfl : Ak = Al := (by injection e757)
      replace p757 := eq_true p757; replace q757 := eq_true q757
      go_upto_if 27 with (fail)
      (try clear Ai); (try clear Aj); have H := Ao.out; clear Ao
      by_cases c8 : ((rd_T127 l0 Aa).f1) = (wrap64 (Ab + 1))
      ·rw [if_pos c8] at H
       have Ae : (((rd_T127 l0 Aa).f1) == (wrap64 (Ab + 1))) = true := bqi c8
       have Af : (((rd_T127 l0 Aa).f1) != (wrap64 (Ab + 1))) = false := bnf c8
       clear c8
       (first | rw [Ae] | rw [Af] | (simp only [i64_w, i32_w]; first | rw [Ae] | rw [Af]) | skip)
       have H' := ak H; clear H
       go_wp2
       go_roundg k1
       case measure => have := Am.out; omega
       case rel => exact ⟨(wrap64 ((wrap64 (Ab + 1)) + 1)), (wrap64 (Aa + 1)), rs_q, rs_q, H', ⟨by have := Am.out; omega⟩, by repeat (first | exact Drawn0.refl _ | apply Drawn0.step)⟩
      ·rw [if_neg c8] at H
       have Ae : (((rd_T127 l0 Aa).f1) == (wrap64 (Ab + 1))) = false := bqf c8
       have Af : (((rd_T127 l0 Aa).f1) != (wrap64 (Ab + 1))) = true := bni c8
       (first | rw [Ae] | rw [Af] | (simp only [i64_w, i32_w]; first | rw [Ae] | rw [Af]) | skip)
       obtain rfl := Option.some.inj H
       go_wp2
       go_ret
       exact ⟨rs_q, dr_q⟩
     ·rw [if_neg c6] at H
      have Ac : (((rd_T127 l0 Aa).f0) == Ab) = false := bqf c6
      have Ad : (((rd_T127 l0 Aa).f0) != Ab) = true := bni c6
      (first | rw [Ac] | rw [Ad] | (simp only [i64_w, i32_w]; first | rw [Ac] | rw [Ad]) | skip)
      obtain rfl := Option.some.inj H
      go_wp2
      go_ret
      exact ⟨rs_q, dr_q⟩
    ·rw [if_neg c4] at H
     exact absurd H (by simp)
   ·rw [if_neg c3] at H
    have Ap : decide (Aa < (l0.length : Int)) = false := decide_eq_false c3
    clear c3; obtain rfl := Option.some.inj H
    go_wp2
    go_ret
    exact ⟨rs_q, dr_q⟩

/-! ### laws_heldRecord: function 40 -/
def laws_heldRecord.f (k : Nat) (c : Int) (d : Int) (e : Int) (g : Int) (h : Int) (b : List (S127)) (i : Int) (j : Bool) (a1 : Int) : Option (Int) := (laws_heldNearS.f k b a1).bind fun a => (if a < 0 then (some (-1)) else (some a))
theorem laws_heldRecord.mono : ∀ a0 a1 a2 a3 a4 a5 a6 a7 a8 k, LeO (laws_heldRecord.f k a0 a1 a2 a3 a4 a5 a6 a7 a8) (laws_heldRecord.f (k + 1) a0 a1 a2 a3 a4 a5 a6 a7 a8) := by
 intro a0 a1 a2 a3 a4 a5 a6 a7 a8 k
 unfold laws_heldRecord.f
 with_reducible repeat' (first | apply laws_heldNearS.mono | exact LeO.refl _ | exact LeO.none _ | refine LeO.ite ?_ ?_ | refine LeO.bind ?_ (fun _ => ?_))
set_option maxHeartbeats 8000000 in
set_option maxRecDepth 100000 in
theorem laws_heldRecord.calls (k : Nat) (Af : Int) (Ag : Int) (Ah : Int) (Ai : Int) (Aj : Int) (Ac : Option Addr) (Ad : Nat) (Aa : List (S127)) (Ak : Int) (Al : Bool) (a1 : Int) (r : Int) (w : World) (hr0_5 : Kd.C k127 w Ac Aa.length Aa) (hc0_5 : Aa.length ≤ Ad) (h : laws_heldRecord.f k Af Ag Ah Ai Aj Aa Ak Al a1 = some r) :
  Calls Try.prog 40 #[.agg #[.int .i64 Af, .int .i64 Ag, .int .i64 Ah, .int .i64 Ai, .int .i64 Aj, .slice Ac Aa.length Ad, .int .i64 Ak, .bool Al], .int .i64 a1] w fun e w' => e = .returned (.int .i64 r) ∧ Below w.heap.size w w' := by
 have hu61 := Try.underlying61; have An := ak hr0_5; have Ao := ak hc0_5; clear hr0_5 hc0_5; have HB := ak (Below.refl w.heap.size w); have H := h
 clear h; unfold laws_heldRecord.f at H; replace H := bsi H; obtain ⟨Ae, A30, H⟩ := H
 (try dsimp only at H)
 have A3 := ak A30; clear A30; have Aq := ak H; clear H
 go_enter Try.func40, Try.ntmps40
 go_upto_if 10 with (first | ((with_reducible refine gate_dst (N := 2) rfl ?_); refine box_q 2 #[.int .i64 Af, .int .i64 Ag, .int .i64 Ah, .int .i64 Ai, .int .i64 Aj, .slice Ac Aa.length Ad, .int .i64 Ak, .bool Al] 61 ?_; intro Bh hg w5 hbox hb; have Ap := ak (hbox); have Bi := gsz w (below_size (bw_q HB)) hg; have Bj := gsz w (below_size (bw_q HB)) hg; replace HB := ak (below_step (bw_q HB) hb); clear hb hbox hg; obtain ⟨Ar, As, At, Au, Av, Aw, Ax, Ay, Az, Ba, Bb, Bc, Bd, Be, Bf, Bg⟩ := cf8_ Ap) | ((with_reducible refine gate_callee (f := 103) rfl ?_); refine goesL_ (some 8) rfl rfl Try.func103 (by kernel_rfl) rfl #[.slice Ac Aa.length Ad, .int .i64 a1] rfl mp_q ?_; (with_reducible refine (laws_heldNearS.calls k _ _ Aa a1 Ae _ ?side1 ?side2 A3.out).mono ?_); (case side1 => exact cs_q (Kd.C_below An.out HB.out)); (case side2 => exact Ao.out); rintro e w' ⟨rfl, ⟨nd, rfl⟩⟩; refine ⟨_, rfl, ?_⟩))
 have H := Aq.out; clear Aq
 by_cases c7 : Ae < 0
 ·rw [if_pos c7] at H
  have Ab : decide (Ae < 0) = true := decide_eq_true c7
  clear c7
  (first | rw [Ab] | rw [Am] | (simp only [i64_w, i32_w]; first | rw [Ab] | rw [Am]) | skip)
  obtain rfl := Option.some.inj H
  go_wp2
  go_ret
  exact ⟨er_q, bw_q HB⟩
 ·rw [if_neg c7] at H
  have Ab : decide (Ae < 0) = false := decide_eq_false c7
  clear c7
  (first | rw [Ab] | rw [Am] | (simp only [i64_w, i32_w]; first | rw [Ab] | rw [Am]) | skip)
  obtain rfl := Option.some.inj H
  go_wp2
  go_ret
  exact ⟨er_q, bw_q HB⟩

end Go.Proofs.Ythjmdiggglkeaaa.Q
