import Derived.Test.YtnecbkognpponaaXReadPacketQx45
import Derived.Test.YtnecbkognpponaaXReadPacketQspecl09Head
/- The contract of a Go function. -/

namespace Go.Proofs.Ytnecbkognpponaa.Q
open Go.RowKit Go.Proofs.YtnecbkognpponaaW.PrintWords Go.Proofs.YtnecbkognpponaaW.PrintLast Go.Proofs.YtnecbkognpponaaW.PrintMore
attribute [local go_sem] max2_int min2_int max_two min_two max_three min_three max_four min_four   -- for this text's walks alone
set_option linter.unusedVariables false
set_option linter.unusedSimpArgs false
abbrev zsumsok0 : Array Value := #[.int .i64 0, .int .i64 0, .int .i64 0, .int .i64 0, .int .i64 0, .slice none 0 0, .int .i64 0, .bool false]

/-! ### impl_header: function 95 -/
def impl_header.f (b : Int) (a : Int) (c : Int) (d : Int) (e : Int) (g : List (S63)) (h : Int) (i : Bool) : Option (Int × Int × Int × Int × Int × (List (S63)) × Int × Bool) := if a = 3 then (some (b, a, c, d, e, ([] : List (S63)), 1, false)) else (some (b, a, c, d, e, ([] : List (S63)), 0, false))
set_option maxHeartbeats 8000000 in
set_option maxRecDepth 100000 in
theorem impl_header.calls (Ac : Int) (Ab : Int) (Ad : Int) (Af : Int) (Ah : Int) (An : Option Addr) (Ao : Nat) (Am : List (S63)) (Ap : Int) (Aq : Bool) (r1 : Int) (r2 : Int) (r3 : Int) (r4 : Int) (r5 : Int) (r6 : List (S63)) (r7 : Int) (r8 : Bool) (w : World) (hr0_5 : Kd.C k63 w An Am.length Am) (hc0_5 : Am.length ≤ Ao) (h : impl_header.f Ac Ab Ad Af Ah Am Ap Aq = some (r1, r2, r3, r4, r5, r6, r7, r8)) :
  Calls Try.prog 95 #[.agg #[.int .i64 Ac, .int .i64 Ab, .int .i64 Ad, .int .i64 Af, .int .i64 Ah, .slice An Am.length Ao, .int .i64 Ap, .bool Aq]] w fun e w' => ∃ v5_ : Value, e = .returned (.agg #[.int .i64 r1, .int .i64 r2, .int .i64 r3, .int .i64 r4, .int .i64 r5, v5_, .int .i64 r7, .bool r8]) ∧ Kd.R k63 63 w' w.heap.size (fun _ => True) v5_ r6 ∧ Below w.heap.size w w' := by
 have hu24 := Try.underlying24; have Fh := ak hr0_5; have Fi := ak hc0_5; clear hr0_5 hc0_5; have HB := ak (Below.refl w.heap.size w); have H := h
 clear h; unfold impl_header.f at H; have Ay := ak H; clear H
 go_enter Try.func95, Try.ntmps95
 go_upto_if 17 with (first | ((with_reducible refine gate_dst (N := 1) rfl ?_); refine box_q 1 #[.int .i64 Ac, .int .i64 Ab, .int .i64 Ad, .int .i64 Af, .int .i64 Ah, .slice An Am.length Ao, .int .i64 Ap, .bool Aq] 24 ?_; intro Aj hg w3 hbox hb; have Ai := ak (hbox); have Fj := gsz w (below_size (bw_q HB)) hg; have Fk := gsz w (below_size (bw_q HB)) hg; replace HB := ak (below_step (bw_q HB) hb); clear hb hbox hg) | ((with_reducible refine gate_dst (N := 2) rfl ?_); refine box_q 2 #[.int .i64 0, .int .i64 0, .int .i64 0, .int .i64 0, .int .i64 0, .slice none 0 0, .int .i64 0, .bool false] 24 ?_; intro Al hg w4 hbox hb; have Ak := ak (hbox); have Fl := gsz w (below_size (bw_q HB)) hg; have Fm := gsz w (below_size (bw_q HB)) hg; replace HB := ak (below_step (bw_q HB) hb); have Ar := ak ((by rw [hg]; exact Nat.ne_of_lt (blk_lt (g := Aj) (o := .cells #[.int .i64 Ac, .int .i64 Ab, .int .i64 Ad, .int .i64 Af, .int .i64 Ah, .slice An Am.length Ao, .int .i64 Ap, .bool Aq] 24 (0, 0)) (bk_q Ai)) : Aj ≠ Al)); have As := ak ((by rw [hg]; exact Nat.ne_of_gt (blk_lt (g := Aj) (o := .cells #[.int .i64 Ac, .int .i64 Ab, .int .i64 Ad, .int .i64 Af, .int .i64 Ah, .slice An Am.length Ao, .int .i64 Ap, .bool Aq] 24 (0, 0)) (bk_q Ai)) : Al ≠ Aj)); replace Ai := ak (blk_below (g := Aj) (bk_q Ai) hb); clear hb hbox hg; have Gb := Ar.out; have Gc := As.out; obtain ⟨Er, Es, Et, Eu, Ev, Ew, Ex, Ey, Ez, Fa, Fb, Fc, Fd, Fe, Ff, Fg⟩ := cf8_ Ai) | ((with_reducible refine gate_dst (N := 3) rfl ?_); refine box_q 3 #[.int .i64 0, .int .i64 0, .int .i64 0, .int .i64 0, .int .i64 0, .slice none 0 0, .int .i64 0, .bool false] 24 ?_; intro Aa hg w7 hbox hb; have Av := ak (hbox); have Fn := gsz w (below_size (bw_q HB)) hg; have Fo := gsz w (below_size (bw_q HB)) hg; replace HB := ak (below_step (bw_q HB) hb); have Ag := ak ((by rw [hg]; exact Nat.ne_of_lt (blk_lt (g := Aj) (o := .cells #[.int .i64 Ac, .int .i64 Ab, .int .i64 Ad, .int .i64 Af, .int .i64 Ah, .slice An Am.length Ao, .int .i64 Ap, .bool Aq] 24 (0, 0)) (bk_q Ai)) : Aj ≠ Aa)); have At := ak ((by rw [hg]; exact Nat.ne_of_gt (blk_lt (g := Aj) (o := .cells #[.int .i64 Ac, .int .i64 Ab, .int .i64 Ad, .int .i64 Af, .int .i64 Ah, .slice An Am.length Ao, .int .i64 Ap, .bool Aq] 24 (0, 0)) (bk_q Ai)) : Aa ≠ Aj)); replace Ai := ak (blk_below (g := Aj) (bk_q Ai) hb); have Ae := ak ((by rw [hg]; exact Nat.ne_of_lt (blk_lt (g := Al) (o := .cells zsumsok0 24 (0, 0)) (bk_q Ak)) : Al ≠ Aa)); have Au := ak ((by rw [hg]; exact Nat.ne_of_gt (blk_lt (g := Al) (o := .cells zsumsok0 24 (0, 0)) (bk_q Ak)) : Aa ≠ Al)); replace Ak := ak (blk_below (g := Al) (bk_q Ak) hb); clear hb hbox hg; have Gd := At.out; have Ge := Ag.out; have Gf := Au.out; have Gg := Ae.out; obtain ⟨Az, Ba, Bb, Bc, Bd, Be, Bf, Bg, Bh, Bi, Bj, Bk, Bl, Bm, Bn, Bo⟩ := cf8_ Av; obtain ⟨Bp, Bq, Br, Bs, Bt, Bu, Bv, Bw, Bx, By, Bz, Ca, Cb, Cc, Cd, Ce⟩ := cf8_ Ai))
 have n0_ : Aside0 (((((((((w7.setCell ⟨Aa, 0, none⟩ (.int .i64 Ac)).setCell ⟨Aa, 1, none⟩ (.int .i64 Ab)).setCell ⟨Aa, 2, none⟩ (.int .i64 Ad)).setCell ⟨Aa, 3, none⟩ (.int .i64 Af)).setCell ⟨Aa, 4, none⟩ (.int .i64 Ah)).setCell ⟨Aa, 5, none⟩ (.slice none 0 0)).setCell ⟨Aa, 6, none⟩ (.int .i64 0)).setCell ⟨Aa, 7, none⟩ (.bool false)).heap[Aj]? = some (.cells #[.int .i64 Ac, .int .i64 Ab, .int .i64 Ad, .int .i64 Af, .int .i64 Ah, .slice An Am.length Ao, .int .i64 Ap, .bool Aq] 24 (0, 0))) := ⟨by refine bz_ ?_; refine blk_far ?_ Ag.out _; refine bz_ ?_; refine blk_far ?_ Ag.out _; refine bz_ ?_; refine blk_far ?_ Ag.out _; refine bz_ ?_; refine blk_far ?_ Ag.out _; refine bz_ ?_; refine blk_far ?_ Ag.out _; refine bz_ ?_; refine blk_far ?_ Ag.out _; refine bz_ ?_; refine blk_far ?_ Ag.out _; refine bz_ ?_; refine blk_far ?_ Ag.out _; refine bz_ ?_; exact Ai.out⟩
 have n1_ : Aside0 (((((((((w7.setCell ⟨Aa, 0, none⟩ (.int .i64 Ac)).setCell ⟨Aa, 1, none⟩ (.int .i64 Ab)).setCell ⟨Aa, 2, none⟩ (.int .i64 Ad)).setCell ⟨Aa, 3, none⟩ (.int .i64 Af)).setCell ⟨Aa, 4, none⟩ (.int .i64 Ah)).setCell ⟨Aa, 5, none⟩ (.slice none 0 0)).setCell ⟨Aa, 6, none⟩ (.int .i64 0)).setCell ⟨Aa, 7, none⟩ (.bool false)).heap[Al]? = some (.cells #[.int .i64 0, .int .i64 0, .int .i64 0, .int .i64 0, .int .i64 0, .slice none 0 0, .int .i64 0, .bool false] 24 (0, 0))) := ⟨by refine bz_ ?_; refine blk_far ?_ Ae.out _; refine bz_ ?_; refine blk_far ?_ Ae.out _; refine bz_ ?_; refine blk_far ?_ Ae.out _; refine bz_ ?_; refine blk_far ?_ Ae.out _; refine bz_ ?_; refine blk_far ?_ Ae.out _; refine bz_ ?_; refine blk_far ?_ Ae.out _; refine bz_ ?_; refine blk_far ?_ Ae.out _; refine bz_ ?_; refine blk_far ?_ Ae.out _; refine bz_ ?_; exact Ak.out⟩
 have n2_ : Aside0 (((((((((w7.setCell ⟨Aa, 0, none⟩ (.int .i64 Ac)).setCell ⟨Aa, 1, none⟩ (.int .i64 Ab)).setCell ⟨Aa, 2, none⟩ (.int .i64 Ad)).setCell ⟨Aa, 3, none⟩ (.int .i64 Af)).setCell ⟨Aa, 4, none⟩ (.int .i64 Ah)).setCell ⟨Aa, 5, none⟩ (.slice none 0 0)).setCell ⟨Aa, 6, none⟩ (.int .i64 0)).setCell ⟨Aa, 7, none⟩ (.bool false)).heap[Aa]? = some (.cells #[.int .i64 Ac, .int .i64 Ab, .int .i64 Ad, .int .i64 Af, .int .i64 Ah, .slice none 0 0, .int .i64 0, .bool false] 24 (0, 0))) := ⟨by refine bz_ ?_; refine blk_put (cs := #[.int .i64 Ac, .int .i64 Ab, .int .i64 Ad, .int .i64 Af, .int .i64 Ah, .slice none 0 0, .int .i64 0, .bool false]) ?_ 7 _ rfl; refine bz_ ?_; refine blk_put (cs := #[.int .i64 Ac, .int .i64 Ab, .int .i64 Ad, .int .i64 Af, .int .i64 Ah, .slice none 0 0, .int .i64 0, .bool false]) ?_ 6 _ rfl; refine bz_ ?_; refine blk_put (cs := #[.int .i64 Ac, .int .i64 Ab, .int .i64 Ad, .int .i64 Af, .int .i64 Ah, .slice none 0 0, .int .i64 0, .bool false]) ?_ 5 _ rfl; refine bz_ ?_; refine blk_put (cs := #[.int .i64 Ac, .int .i64 Ab, .int .i64 Ad, .int .i64 Af, .int .i64 0, .slice none 0 0, .int .i64 0, .bool false]) ?_ 4 _ rfl; refine bz_ ?_; refine blk_put (cs := #[.int .i64 Ac, .int .i64 Ab, .int .i64 Ad, .int .i64 0, .int .i64 0, .slice none 0 0, .int .i64 0, .bool false]) ?_ 3 _ rfl; refine bz_ ?_; refine blk_put (cs := #[.int .i64 Ac, .int .i64 Ab, .int .i64 0, .int .i64 0, .int .i64 0, .slice none 0 0, .int .i64 0, .bool false]) ?_ 2 _ rfl; refine bz_ ?_; refine blk_put (cs := #[.int .i64 Ac, .int .i64 0, .int .i64 0, .int .i64 0, .int .i64 0, .slice none 0 0, .int .i64 0, .bool false]) ?_ 1 _ rfl; refine bz_ ?_; refine blk_put (cs := zsumsok0) ?_ 0 _ rfl; refine bz_ ?_; exact Av.out⟩
 have n3_ : Aside0 (Below w.heap.size w ((((((((w7.setCell ⟨Aa, 0, none⟩ (.int .i64 Ac)).setCell ⟨Aa, 1, none⟩ (.int .i64 Ab)).setCell ⟨Aa, 2, none⟩ (.int .i64 Ad)).setCell ⟨Aa, 3, none⟩ (.int .i64 Af)).setCell ⟨Aa, 4, none⟩ (.int .i64 Ah)).setCell ⟨Aa, 5, none⟩ (.slice none 0 0)).setCell ⟨Aa, 6, none⟩ (.int .i64 0)).setCell ⟨Aa, 7, none⟩ (.bool false))) := ⟨bw_q HB⟩
 (try clear Ai); (try clear Ak); (try clear Av); (try clear HB)
 generalize ((((((((w7.setCell ⟨Aa, 0, none⟩ (.int .i64 Ac)).setCell ⟨Aa, 1, none⟩ (.int .i64 Ab)).setCell ⟨Aa, 2, none⟩ (.int .i64 Ad)).setCell ⟨Aa, 3, none⟩ (.int .i64 Af)).setCell ⟨Aa, 4, none⟩ (.int .i64 Ah)).setCell ⟨Aa, 5, none⟩ (.slice none 0 0)).setCell ⟨Aa, 6, none⟩ (.int .i64 0)).setCell ⟨Aa, 7, none⟩ (.bool false)) = w12 at n0_ n1_ n2_ n3_ ⊢
 have Ai := n0_; have Ak := n1_; have Av := n2_; have HB := n3_; clear n0_ n1_ n2_ n3_; have H := Ay.out; clear Ay
 by_cases c13 : Ab = 3
 ·rw [if_pos c13] at H
  have Aw : (Ab == 3) = true := bqi c13
  have Ax : (Ab != 3) = false := bnf c13
  clear c13
  (first | rw [Aw] | rw [Ax] | (simp only [i64_w, i32_w]; first | rw [Aw] | rw [Ax]) | skip)
  simp only [Option.some.injEq, Prod.mk.injEq] at H
  obtain ⟨rfl, rfl, rfl, rfl, rfl, rfl, rfl, rfl⟩ := H; have Fp := At.out; have Fq := Ag.out; have Fr := Au.out; have Fs := Ae.out; obtain ⟨Cf, Cg, Ch, Ci, Cj, Ck, Cl, Cm, Cn, Co, Cp, Cq, Cr, Cs, Ct, Cu⟩ := cf8_ Av; have Ft := As.out; have Fu := Ar.out; obtain ⟨Cv, Cw, Cx, Cy, Cz, Da, Db, Dc, Dd, De, Df, Dg, Dh, Di, Dj, Dk⟩ := cf8_ Ak
  go_wp2
  refine bodyPost_ret (results_cell_row rfl _ _ Al 24 #[.int .i64 Ac, .int .i64 Ab, .int .i64 Ad, .int .i64 Af, .int .i64 Ah, .slice none 0 0, .int .i64 1, .bool false] (0, 0) _ rfl (by refine bz_ ?_; refine blk_put (cs := #[.int .i64 Ac, .int .i64 Ab, .int .i64 Ad, .int .i64 Af, .int .i64 Ah, .slice none 0 0, .int .i64 1, .bool false]) ?_ 7 _ rfl; refine bz_ ?_; refine blk_put (cs := #[.int .i64 Ac, .int .i64 Ab, .int .i64 Ad, .int .i64 Af, .int .i64 Ah, .slice none 0 0, .int .i64 0, .bool false]) ?_ 6 _ rfl; refine bz_ ?_; refine blk_put (cs := #[.int .i64 Ac, .int .i64 Ab, .int .i64 Ad, .int .i64 Af, .int .i64 Ah, .slice none 0 0, .int .i64 0, .bool false]) ?_ 5 _ rfl; refine bz_ ?_; refine blk_put (cs := #[.int .i64 Ac, .int .i64 Ab, .int .i64 Ad, .int .i64 Af, .int .i64 0, .slice none 0 0, .int .i64 0, .bool false]) ?_ 4 _ rfl; refine bz_ ?_; refine blk_put (cs := #[.int .i64 Ac, .int .i64 Ab, .int .i64 Ad, .int .i64 0, .int .i64 0, .slice none 0 0, .int .i64 0, .bool false]) ?_ 3 _ rfl; refine bz_ ?_; refine blk_put (cs := #[.int .i64 Ac, .int .i64 Ab, .int .i64 0, .int .i64 0, .int .i64 0, .slice none 0 0, .int .i64 0, .bool false]) ?_ 2 _ rfl; refine bz_ ?_; refine blk_put (cs := #[.int .i64 Ac, .int .i64 0, .int .i64 0, .int .i64 0, .int .i64 0, .slice none 0 0, .int .i64 0, .bool false]) ?_ 1 _ rfl; refine bz_ ?_; refine blk_put (cs := zsumsok0) ?_ 0 _ rfl; refine bz_ ?_; refine blk_far ?_ Ae.out _; refine bz_ ?_; exact Ak.out) Try.underlying24 rfl (by kernel_rfl)) rfl ?_
  exact ⟨_, er_q, by first | exact Kd.R_nil _ _ _ _ _ | exact Kd.N_nil _ _ _ _ _ | exact Kd.V_nil _ _ _ _ _ | exact Kd.Q_nil _ _ _ _ _ | exact Kd.S_nil _ _ _ _ _, bw_q HB⟩
 ·rw [if_neg c13] at H
  have Aw : (Ab == 3) = false := bqf c13
  have Ax : (Ab != 3) = true := bni c13
  (first | rw [Aw] | rw [Ax] | (simp only [i64_w, i32_w]; first | rw [Aw] | rw [Ax]) | skip)
  simp only [Option.some.injEq, Prod.mk.injEq] at H
  obtain ⟨rfl, rfl, rfl, rfl, rfl, rfl, rfl, rfl⟩ := H; have Fv := At.out; have Fw := Ag.out; have Fx := Au.out; have Fy := Ae.out; obtain ⟨Dl, Dm, Dn, Do, Dp, Dq, Dr, Ds, Dt, Du, Dv, Dw, Dx, Dy, Dz, Ea⟩ := cf8_ Av; have Fz := As.out; have Ga := Ar.out; obtain ⟨Eb, Ec, Ed, Ee, Ef, Eg, Eh, Ei, Ej, Ek, El, Em, En, Eo, Ep, Eq⟩ := cf8_ Ak
  go_wp2
  refine bodyPost_ret (results_cell_row rfl _ _ Al 24 #[.int .i64 Ac, .int .i64 Ab, .int .i64 Ad, .int .i64 Af, .int .i64 Ah, .slice none 0 0, .int .i64 0, .bool false] (0, 0) _ rfl (by refine bz_ ?_; refine blk_put (cs := #[.int .i64 Ac, .int .i64 Ab, .int .i64 Ad, .int .i64 Af, .int .i64 Ah, .slice none 0 0, .int .i64 0, .bool false]) ?_ 7 _ rfl; refine bz_ ?_; refine blk_put (cs := #[.int .i64 Ac, .int .i64 Ab, .int .i64 Ad, .int .i64 Af, .int .i64 Ah, .slice none 0 0, .int .i64 0, .bool false]) ?_ 6 _ rfl; refine bz_ ?_; refine blk_put (cs := #[.int .i64 Ac, .int .i64 Ab, .int .i64 Ad, .int .i64 Af, .int .i64 Ah, .slice none 0 0, .int .i64 0, .bool false]) ?_ 5 _ rfl; refine bz_ ?_; refine blk_put (cs := #[.int .i64 Ac, .int .i64 Ab, .int .i64 Ad, .int .i64 Af, .int .i64 0, .slice none 0 0, .int .i64 0, .bool false]) ?_ 4 _ rfl; refine bz_ ?_; refine blk_put (cs := #[.int .i64 Ac, .int .i64 Ab, .int .i64 Ad, .int .i64 0, .int .i64 0, .slice none 0 0, .int .i64 0, .bool false]) ?_ 3 _ rfl; refine bz_ ?_; refine blk_put (cs := #[.int .i64 Ac, .int .i64 Ab, .int .i64 0, .int .i64 0, .int .i64 0, .slice none 0 0, .int .i64 0, .bool false]) ?_ 2 _ rfl; refine bz_ ?_; refine blk_put (cs := #[.int .i64 Ac, .int .i64 0, .int .i64 0, .int .i64 0, .int .i64 0, .slice none 0 0, .int .i64 0, .bool false]) ?_ 1 _ rfl; refine bz_ ?_; refine blk_put (cs := zsumsok0) ?_ 0 _ rfl; refine bz_ ?_; exact Ak.out) Try.underlying24 rfl (by kernel_rfl)) rfl ?_
  exact ⟨_, er_q, by first | exact Kd.R_nil _ _ _ _ _ | exact Kd.N_nil _ _ _ _ _ | exact Kd.V_nil _ _ _ _ _ | exact Kd.Q_nil _ _ _ _ _ | exact Kd.S_nil _ _ _ _ _, bw_q HB⟩

/-! ### impl_SameKey: function 101 -/
def impl_SameKey.f (a : Int) (b : Int) (c : Int) (d : Int) (j : Int) (l : List (S63)) (m : Int) (n : Bool) (e : Int) (g : Int) (h : Int) (i : Int) (o : Int) (p : List (S63)) (q : Int) (s : Bool) : Option (Bool) := if a = e then (if b = g then (if c = h then (some (d == i)) else (some false)) else (some false)) else (some false)
set_option maxHeartbeats 8000000 in
set_option maxRecDepth 100000 in
theorem impl_SameKey.calls (Ac : Int) (Ad : Int) (Ae : Int) (Ai : Int) (Aj : Int) (Ak : Option Addr) (Al : Nat) (Af : List (S63)) (Am : Int) (An : Bool) (Ap : Int) (Aq : Int) (Ar : Int) (Au : Int) (Av : Int) (Aw : Option Addr) (Ax : Nat) (As : List (S63)) (Ay : Int) (Az : Bool) (r : Bool) (w : World) (hr0_5 : Kd.C k63 w Ak Af.length Af) (hc0_5 : Af.length ≤ Al) (hr1_5 : Kd.C k63 w Aw As.length As) (hc1_5 : As.length ≤ Ax) (h : impl_SameKey.f Ac Ad Ae Ai Aj Af Am An Ap Aq Ar Au Av As Ay Az = some r) :
  Calls Try.prog 101 #[.agg #[.int .i64 Ac, .int .i64 Ad, .int .i64 Ae, .int .i64 Ai, .int .i64 Aj, .slice Ak Af.length Al, .int .i64 Am, .bool An], .agg #[.int .i64 Ap, .int .i64 Aq, .int .i64 Ar, .int .i64 Au, .int .i64 Av, .slice Aw As.length Ax, .int .i64 Ay, .bool Az]] w fun e w' => e = .returned (.bool r) ∧ Below w.heap.size w w' := by
 have hu24 := Try.underlying24; have Gi := ak hr0_5; have Gj := ak hc0_5; clear hr0_5 hc0_5; have Gk := ak hr1_5; have Gl := ak hc1_5; clear hr1_5 hc1_5; have HB := ak (Below.refl w.heap.size w); have H := h
 clear h; unfold impl_SameKey.f at H
 by_cases c3 : Ac = Ap
 ·rw [if_pos c3] at H
  have Be : (Ac == Ap) = true := bqi c3
  have Bf : (Ac != Ap) = false := bnf c3
  clear c3
  by_cases c4 : Ad = Aq
  ·rw [if_pos c4] at H
   have Bg : (Ad == Aq) = true := bqi c4
   have Bh : (Ad != Aq) = false := bnf c4
   clear c4
   by_cases c5 : Ae = Ar
   ·rw [if_pos c5] at H
    have Bi : (Ae == Ar) = true := bqi c5
    have Bj : (Ae != Ar) = false := bnf c5
    clear c5; obtain rfl := Option.some.inj H
    go_enter Try.func101, Try.ntmps101
    go_wp2_with (first | ((with_reducible refine gate_dst (N := 2) rfl ?_); refine box_q 2 #[.int .i64 Ac, .int .i64 Ad, .int .i64 Ae, .int .i64 Ai, .int .i64 Aj, .slice Ak Af.length Al, .int .i64 Am, .bool An] 24 ?_; intro Aa hg w6 hbox hb; have Ab := ak (hbox); have Ba := gsz w (below_size (bw_q HB)) hg; have Bb := gsz w (below_size (bw_q HB)) hg; replace HB := ak (below_step (bw_q HB) hb); clear hb hbox hg) | ((with_reducible refine gate_dst (N := 3) rfl ?_); refine box_q 3 #[.int .i64 Ap, .int .i64 Aq, .int .i64 Ar, .int .i64 Au, .int .i64 Av, .slice Aw As.length Ax, .int .i64 Ay, .bool Az] 24 ?_; intro Ao hg w7 hbox hb; have At := ak (hbox); have Bc := gsz w (below_size (bw_q HB)) hg; have Bd := gsz w (below_size (bw_q HB)) hg; replace HB := ak (below_step (bw_q HB) hb); have Ag := ak ((by rw [hg]; exact Nat.ne_of_lt (blk_lt (g := Aa) (o := .cells #[.int .i64 Ac, .int .i64 Ad, .int .i64 Ae, .int .i64 Ai, .int .i64 Aj, .slice Ak Af.length Al, .int .i64 Am, .bool An] 24 (0, 0)) (bk_q Ab)) : Aa ≠ Ao)); have Ah := ak ((by rw [hg]; exact Nat.ne_of_gt (blk_lt (g := Aa) (o := .cells #[.int .i64 Ac, .int .i64 Ad, .int .i64 Ae, .int .i64 Ai, .int .i64 Aj, .slice Ak Af.length Al, .int .i64 Am, .bool An] 24 (0, 0)) (bk_q Ab)) : Ao ≠ Aa)); replace Ab := ak (blk_below (g := Aa) (bk_q Ab) hb); clear hb hbox hg; have Gs := Ag.out; have Gt := Ah.out; obtain ⟨Fs, Ft, Fu, Fv, Fw, Fx, Fy, Fz, Ga, Gb, Gc, Gd, Ge, Gf, Gg, Gh⟩ := cf8_ Ab; obtain ⟨Bk, Bl, Bm, Bn, Bo, Bp, Bq, Br, Bs, Bt, Bu, Bv, Bw, Bx, By, Bz⟩ := cf8_ At))
    go_ret
    exact ⟨er_q, bw_q HB⟩
   ·rw [if_neg c5] at H
    have Bi : (Ae == Ar) = false := bqf c5
    have Bj : (Ae != Ar) = true := bni c5
    obtain rfl := Option.some.inj H
    go_enter Try.func101, Try.ntmps101
    go_wp2_with (first | ((with_reducible refine gate_dst (N := 2) rfl ?_); refine box_q 2 #[.int .i64 Ac, .int .i64 Ad, .int .i64 Ae, .int .i64 Ai, .int .i64 Aj, .slice Ak Af.length Al, .int .i64 Am, .bool An] 24 ?_; intro Aa hg w11 hbox hb; have Ab := ak (hbox); have Ba := gsz w (below_size (bw_q HB)) hg; have Bb := gsz w (below_size (bw_q HB)) hg; replace HB := ak (below_step (bw_q HB) hb); clear hb hbox hg) | ((with_reducible refine gate_dst (N := 3) rfl ?_); refine box_q 3 #[.int .i64 Ap, .int .i64 Aq, .int .i64 Ar, .int .i64 Au, .int .i64 Av, .slice Aw As.length Ax, .int .i64 Ay, .bool Az] 24 ?_; intro Ao hg w12 hbox hb; have At := ak (hbox); have Bc := gsz w (below_size (bw_q HB)) hg; have Bd := gsz w (below_size (bw_q HB)) hg; replace HB := ak (below_step (bw_q HB) hb); have Ag := ak ((by rw [hg]; exact Nat.ne_of_lt (blk_lt (g := Aa) (o := .cells #[.int .i64 Ac, .int .i64 Ad, .int .i64 Ae, .int .i64 Ai, .int .i64 Aj, .slice Ak Af.length Al, .int .i64 Am, .bool An] 24 (0, 0)) (bk_q Ab)) : Aa ≠ Ao)); have Ah := ak ((by rw [hg]; exact Nat.ne_of_gt (blk_lt (g := Aa) (o := .cells #[.int .i64 Ac, .int .i64 Ad, .int .i64 Ae, .int .i64 Ai, .int .i64 Aj, .slice Ak Af.length Al, .int .i64 Am, .bool An] 24 (0, 0)) (bk_q Ab)) : Ao ≠ Aa)); replace Ab := ak (blk_below (g := Aa) (bk_q Ab) hb); clear hb hbox hg; have Gm := Ag.out; have Gn := Ah.out; obtain ⟨Ca, Cb, Cc, Cd, Ce, Cf, Cg, Ch, Ci, Cj, Ck, Cl, Cm, Cn, Co, Cp⟩ := cf8_ Ab; obtain ⟨Cq, Cr, Cs, Ct, Cu, Cv, Cw, Cx, Cy, Cz, Da, Db, Dc, Dd, De, Df⟩ := cf8_ At))
    go_ret
    exact ⟨er_q, bw_q HB⟩
  ·rw [if_neg c4] at H
   have Bg : (Ad == Aq) = false := bqf c4
   have Bh : (Ad != Aq) = true := bni c4
   obtain rfl := Option.some.inj H
   go_enter Try.func101, Try.ntmps101
   go_wp2_with (first | ((with_reducible refine gate_dst (N := 2) rfl ?_); refine box_q 2 #[.int .i64 Ac, .int .i64 Ad, .int .i64 Ae, .int .i64 Ai, .int .i64 Aj, .slice Ak Af.length Al, .int .i64 Am, .bool An] 24 ?_; intro Aa hg w16 hbox hb; have Ab := ak (hbox); have Ba := gsz w (below_size (bw_q HB)) hg; have Bb := gsz w (below_size (bw_q HB)) hg; replace HB := ak (below_step (bw_q HB) hb); clear hb hbox hg) | ((with_reducible refine gate_dst (N := 3) rfl ?_); refine box_q 3 #[.int .i64 Ap, .int .i64 Aq, .int .i64 Ar, .int .i64 Au, .int .i64 Av, .slice Aw As.length Ax, .int .i64 Ay, .bool Az] 24 ?_; intro Ao hg w17 hbox hb; have At := ak (hbox); have Bc := gsz w (below_size (bw_q HB)) hg; have Bd := gsz w (below_size (bw_q HB)) hg; replace HB := ak (below_step (bw_q HB) hb); have Ag := ak ((by rw [hg]; exact Nat.ne_of_lt (blk_lt (g := Aa) (o := .cells #[.int .i64 Ac, .int .i64 Ad, .int .i64 Ae, .int .i64 Ai, .int .i64 Aj, .slice Ak Af.length Al, .int .i64 Am, .bool An] 24 (0, 0)) (bk_q Ab)) : Aa ≠ Ao)); have Ah := ak ((by rw [hg]; exact Nat.ne_of_gt (blk_lt (g := Aa) (o := .cells #[.int .i64 Ac, .int .i64 Ad, .int .i64 Ae, .int .i64 Ai, .int .i64 Aj, .slice Ak Af.length Al, .int .i64 Am, .bool An] 24 (0, 0)) (bk_q Ab)) : Ao ≠ Aa)); replace Ab := ak (blk_below (g := Aa) (bk_q Ab) hb); clear hb hbox hg; have Go := Ag.out; have Gp := Ah.out; obtain ⟨Dg, Dh, Di, Dj, Dk, Dl, Dm, Dn, Do, Dp, Dq, Dr, Ds, Dt, Du, Dv⟩ := cf8_ Ab; obtain ⟨Dw, Dx, Dy, Dz, Ea, Eb, Ec, Ed, Ee, Ef, Eg, Eh, Ei, Ej, Ek, El⟩ := cf8_ At))
   go_ret
   exact ⟨er_q, bw_q HB⟩
 ·rw [if_neg c3] at H
  have Be : (Ac == Ap) = false := bqf c3
  have Bf : (Ac != Ap) = true := bni c3
  obtain rfl := Option.some.inj H
  go_enter Try.func101, Try.ntmps101
  go_wp2_with (first | ((with_reducible refine gate_dst (N := 2) rfl ?_); refine box_q 2 #[.int .i64 Ac, .int .i64 Ad, .int .i64 Ae, .int .i64 Ai, .int .i64 Aj, .slice Ak Af.length Al, .int .i64 Am, .bool An] 24 ?_; intro Aa hg w21 hbox hb; have Ab := ak (hbox); have Ba := gsz w (below_size (bw_q HB)) hg; have Bb := gsz w (below_size (bw_q HB)) hg; replace HB := ak (below_step (bw_q HB) hb); clear hb hbox hg) | ((with_reducible refine gate_dst (N := 3) rfl ?_); refine box_q 3 #[.int .i64 Ap, .int .i64 Aq, .int .i64 Ar, .int .i64 Au, .int .i64 Av, .slice Aw As.length Ax, .int .i64 Ay, .bool Az] 24 ?_; intro Ao hg w22 hbox hb; have At := ak (hbox); have Bc := gsz w (below_size (bw_q HB)) hg; have Bd := gsz w (below_size (bw_q HB)) hg; replace HB := ak (below_step (bw_q HB) hb); have Ag := ak ((by rw [hg]; exact Nat.ne_of_lt (blk_lt (g := Aa) (o := .cells #[.int .i64 Ac, .int .i64 Ad, .int .i64 Ae, .int .i64 Ai, .int .i64 Aj, .slice Ak Af.length Al, .int .i64 Am, .bool An] 24 (0, 0)) (bk_q Ab)) : Aa ≠ Ao)); have Ah := ak ((by rw [hg]; exact Nat.ne_of_gt (blk_lt (g := Aa) (o := .cells #[.int .i64 Ac, .int .i64 Ad, .int .i64 Ae, .int .i64 Ai, .int .i64 Aj, .slice Ak Af.length Al, .int .i64 Am, .bool An] 24 (0, 0)) (bk_q Ab)) : Ao ≠ Aa)); replace Ab := ak (blk_below (g := Aa) (bk_q Ab) hb); clear hb hbox hg; have Gq := Ag.out; have Gr := Ah.out; obtain ⟨Em, En, Eo, Ep, Eq, Er, Es, Et, Eu, Ev, Ew, Ex, Ey, Ez, Fa, Fb⟩ := cf8_ Ab; obtain ⟨Fc, Fd, Fe, Ff, Fg, Fh, Fi, Fj, Fk, Fl, Fm, Fn, Fo, Fp, Fq, Fr⟩ := cf8_ At))
  go_ret
  exact ⟨er_q, bw_q HB⟩

attribute [local go_sem high] eqA63
/-! ### impl_SameBody: function 96 -/
mutual
def impl_SameBody.j0 : Nat → Bool → Int → Int → Int → Int → Int → List (S63) → Int → Bool → Int → Int → Int → Int → Int → List (S63) → Int → Bool → Option (Bool)
 | 0, _, _, _, _, _, _, _, _, _, _, _, _, _, _, _, _, _ => none
 | k + 1, t, b, c, d, e, g, a, h, i, j, l, m, n, o, p, q, s => if t = true then (some false) else (impl_SameBody.l0 k (a.length : Int) 0 b c d e g a h i j l m n o p q s)
def impl_SameBody.l0 : Nat → Int → Int → Int → Int → Int → Int → Int → List (S63) → Int → Bool → Int → Int → Int → Int → Int → List (S63) → Int → Bool → Option (Bool)
 | 0, _, _, _, _, _, _, _, _, _, _, _, _, _, _, _, _, _, _ => none
 | k + 1, u, c, d, e, g, h, i, a, j, l, m, n, o, p, q, b, s, t => if c < u then (if 0 ≤ c then (if c < (a.length : Int) then (if c < (b.length : Int) then (if (!(((rd_T63 a c).f0) == ((rd_T63 b c).f0)) || (!(((rd_T63 a c).f1) == ((rd_T63 b c).f1)))) = true then (some false) else (impl_SameBody.l0 k u (wrap64 (c + 1)) d e g h i a j l m n o p q b s t)) else (none)) else (none)) else (none)) else (some true)
end
def impl_SameBody.f (k : Nat) (i : Int) (j : Int) (l : Int) (m : Int) (n : Int) (b : List (S63)) (c : Int) (d : Bool) (o : Int) (p : Int) (q : Int) (s : Int) (t : Int) (e : List (S63)) (g : Int) (h : Bool) : Option (Bool) := (impl_SameKey.f i j l m n b c d o p q s t e g h).bind fun a => (if a = true then (if c = g then (if (d != h) = true then (impl_SameBody.j0 k true i j l m n b c d o p q s t e g h) else (impl_SameBody.j0 k ((b.length : Int) != (e.length : Int)) i j l m n b c d o p q s t e g h)) else (impl_SameBody.j0 k true i j l m n b c d o p q s t e g h)) else (impl_SameBody.j0 k true i j l m n b c d o p q s t e g h))
theorem impl_SameBody.mono_l : ∀ k, (∀ y0 y1 y2 y3 y4 y5 y6 y7 y8 y9 y10 y11 y12 y13 y14 y15 y16, LeO (impl_SameBody.j0 k y0 y1 y2 y3 y4 y5 y6 y7 y8 y9 y10 y11 y12 y13 y14 y15 y16) (impl_SameBody.j0 (k + 1) y0 y1 y2 y3 y4 y5 y6 y7 y8 y9 y10 y11 y12 y13 y14 y15 y16)) ∧ (∀ y0 y1 y2 y3 y4 y5 y6 y7 y8 y9 y10 y11 y12 y13 y14 y15 y16 y17, LeO (impl_SameBody.l0 k y0 y1 y2 y3 y4 y5 y6 y7 y8 y9 y10 y11 y12 y13 y14 y15 y16 y17) (impl_SameBody.l0 (k + 1) y0 y1 y2 y3 y4 y5 y6 y7 y8 y9 y10 y11 y12 y13 y14 y15 y16 y17))
 | 0 => ⟨fun _ _ _ _ _ _ _ _ _ _ _ _ _ _ _ _ _ r h => by simp [impl_SameBody.j0] at h, fun _ _ _ _ _ _ _ _ _ _ _ _ _ _ _ _ _ _ r h => by simp [impl_SameBody.l0] at h⟩
 | k + 1 => by
  obtain ⟨ih0, ih1⟩ := impl_SameBody.mono_l k
  refine ⟨?_, ?_⟩
  ·intro y0 y1 y2 y3 y4 y5 y6 y7 y8 y9 y10 y11 y12 y13 y14 y15 y16
   unfold impl_SameBody.j0
   with_reducible repeat' (first | apply ih0 | apply ih1 | exact LeO.refl _ | exact LeO.none _ | refine LeO.ite ?_ ?_ | refine LeO.bind ?_ (fun _ => ?_))
  ·intro y0 y1 y2 y3 y4 y5 y6 y7 y8 y9 y10 y11 y12 y13 y14 y15 y16 y17
   unfold impl_SameBody.l0
   with_reducible repeat' (first | apply ih0 | apply ih1 | exact LeO.refl _ | exact LeO.none _ | refine LeO.ite ?_ ?_ | refine LeO.bind ?_ (fun _ => ?_))
theorem impl_SameBody.mono : ∀ a0 a1 a2 a3 a4 a5 a6 a7 a8 a9 a10 a11 a12 a13 a14 a15 k, LeO (impl_SameBody.f k a0 a1 a2 a3 a4 a5 a6 a7 a8 a9 a10 a11 a12 a13 a14 a15) (impl_SameBody.f (k + 1) a0 a1 a2 a3 a4 a5 a6 a7 a8 a9 a10 a11 a12 a13 a14 a15) := by
 intro a0 a1 a2 a3 a4 a5 a6 a7 a8 a9 a10 a11 a12 a13 a14 a15 k
 obtain ⟨ih0, ih1⟩ := impl_SameBody.mono_l k
 unfold impl_SameBody.f
 with_reducible repeat' (first | apply ih0 | apply ih1 | exact LeO.refl _ | exact LeO.none _ | refine LeO.ite ?_ ?_ | refine LeO.bind ?_ (fun _ => ?_))
set_option maxHeartbeats 8000000 in
set_option maxRecDepth 100000 in
theorem impl_SameBody.calls (k : Nat) (Ak : Int) (Al : Int) (Am : Int) (An : Int) (Ao : Int) (Bb : Option Addr) (Bc : Nat) (Ad : List (S63)) (Ah : Int) (Af : Bool) (As : Int) (At : Int) (Au : Int) (Av : Int) (Aw : Int) (Ez : Option Addr) (Fa : Nat) (Ag : List (S63)) (Ap : Int) (Ai : Bool) (r : Bool) (w : World) (hr0_5 : Kd.C k63 w Bb Ad.length Ad) (hc0_5 : Ad.length ≤ Bc) (hr1_5 : Kd.C k63 w Ez Ag.length Ag) (hc1_5 : Ag.length ≤ Fa) (h : impl_SameBody.f k Ak Al Am An Ao Ad Ah Af As At Au Av Aw Ag Ap Ai = some r) :
  Calls Try.prog 96 #[.agg #[.int .i64 Ak, .int .i64 Al, .int .i64 Am, .int .i64 An, .int .i64 Ao, .slice Bb Ad.length Bc, .int .i64 Ah, .bool Af], .agg #[.int .i64 As, .int .i64 At, .int .i64 Au, .int .i64 Av, .int .i64 Aw, .slice Ez Ag.length Fa, .int .i64 Ap, .bool Ai]] w fun e w' => e = .returned (.bool r) ∧ Below w.heap.size w w' := by
 have hu24 := Try.underlying24; have hu63 := Try.underlying63; have Ax := ak hr0_5; have Az := ak hc0_5; clear hr0_5 hc0_5; have Ay := ak hr1_5; have Ba := ak hc1_5; clear hr1_5 hc1_5; have HB := ak (Below.refl w.heap.size w); have H := h
 clear h; unfold impl_SameBody.f at H; have La := ak H; clear H
 go_enter Try.func96, Try.ntmps96
 go_upto_region 1 with (first | ((with_reducible refine gate_dst (N := 2) rfl ?_); (try (refine gate_guard (by rfl) ?_; dsimp only)); refine box_q 2 #[.int .i64 Ak, .int .i64 Al, .int .i64 Am, .int .i64 An, .int .i64 Ao, .slice Bb Ad.length Bc, .int .i64 Ah, .bool Af] 24 ?_; intro Ae hg w4 hbox hb; have Aa := ak (hbox); have Kg := gsz w (below_size (bw_q HB)) hg; have Kh := gsz w (below_size (bw_q HB)) hg; replace HB := ak (below_step (bw_q HB) hb); clear hb hbox hg) | ((with_reducible refine gate_dst (N := 3) rfl ?_); (try (refine gate_guard (by rfl) ?_; dsimp only)); refine box_q 3 #[.int .i64 As, .int .i64 At, .int .i64 Au, .int .i64 Av, .int .i64 Aw, .slice Ez Ag.length Fa, .int .i64 Ap, .bool Ai] 24 ?_; intro Aj hg w5 hbox hb; have Ab := ak (hbox); have Ki := gsz w (below_size (bw_q HB)) hg; have Kj := gsz w (below_size (bw_q HB)) hg; replace HB := ak (below_step (bw_q HB) hb); have Aq := ak ((by rw [hg]; exact Nat.ne_of_lt (blk_lt (g := Ae) (o := .cells #[.int .i64 Ak, .int .i64 Al, .int .i64 Am, .int .i64 An, .int .i64 Ao, .slice Bb Ad.length Bc, .int .i64 Ah, .bool Af] 24 (0, 0)) (bk_q Aa)) : Ae ≠ Aj)); have Ar := ak ((by rw [hg]; exact Nat.ne_of_gt (blk_lt (g := Ae) (o := .cells #[.int .i64 Ak, .int .i64 Al, .int .i64 Am, .int .i64 An, .int .i64 Ao, .slice Bb Ad.length Bc, .int .i64 Ah, .bool Af] 24 (0, 0)) (bk_q Aa)) : Aj ≠ Ae)); replace Aa := ak (blk_below (g := Ae) (bk_q Aa) hb); clear hb hbox hg))
 repeat (go_quiet (first | ((with_reducible refine gate_dst (N := 2) rfl ?_); (try (refine gate_guard (by rfl) ?_; dsimp only)); refine box_q 2 #[.int .i64 Ak, .int .i64 Al, .int .i64 Am, .int .i64 An, .int .i64 Ao, .slice Bb Ad.length Bc, .int .i64 Ah, .bool Af] 24 ?_; intro Ae hg w4 hbox hb; have Aa := ak (hbox); have Kg := gsz w (below_size (bw_q HB)) hg; have Kh := gsz w (below_size (bw_q HB)) hg; replace HB := ak (below_step (bw_q HB) hb); clear hb hbox hg) | ((with_reducible refine gate_dst (N := 3) rfl ?_); (try (refine gate_guard (by rfl) ?_; dsimp only)); refine box_q 3 #[.int .i64 As, .int .i64 At, .int .i64 Au, .int .i64 Av, .int .i64 Aw, .slice Ez Ag.length Fa, .int .i64 Ap, .bool Ai] 24 ?_; intro Aj hg w5 hbox hb; have Ab := ak (hbox); have Ki := gsz w (below_size (bw_q HB)) hg; have Kj := gsz w (below_size (bw_q HB)) hg; replace HB := ak (below_step (bw_q HB) hb); have Aq := ak ((by rw [hg]; exact Nat.ne_of_lt (blk_lt (g := Ae) (o := .cells #[.int .i64 Ak, .int .i64 Al, .int .i64 Am, .int .i64 An, .int .i64 Ao, .slice Bb Ad.length Bc, .int .i64 Ah, .bool Af] 24 (0, 0)) (bk_q Aa)) : Ae ≠ Aj)); have Ar := ak ((by rw [hg]; exact Nat.ne_of_gt (blk_lt (g := Ae) (o := .cells #[.int .i64 Ak, .int .i64 Al, .int .i64 Am, .int .i64 An, .int .i64 Ao, .slice Bb Ad.length Bc, .int .i64 Ah, .bool Af] 24 (0, 0)) (bk_q Aa)) : Aj ≠ Ae)); replace Aa := ak (blk_below (g := Ae) (bk_q Aa) hb); clear hb hbox hg)); go_upto_region 1 with (first | ((with_reducible refine gate_dst (N := 2) rfl ?_); (try (refine gate_guard (by rfl) ?_; dsimp only)); refine box_q 2 #[.int .i64 Ak, .int .i64 Al, .int .i64 Am, .int .i64 An, .int .i64 Ao, .slice Bb Ad.length Bc, .int .i64 Ah, .bool Af] 24 ?_; intro Ae hg w4 hbox hb; have Aa := ak (hbox); have Kg := gsz w (below_size (bw_q HB)) hg; have Kh := gsz w (below_size (bw_q HB)) hg; replace HB := ak (below_step (bw_q HB) hb); clear hb hbox hg) | ((with_reducible refine gate_dst (N := 3) rfl ?_); (try (refine gate_guard (by rfl) ?_; dsimp only)); refine box_q 3 #[.int .i64 As, .int .i64 At, .int .i64 Au, .int .i64 Av, .int .i64 Aw, .slice Ez Ag.length Fa, .int .i64 Ap, .bool Ai] 24 ?_; intro Aj hg w5 hbox hb; have Ab := ak (hbox); have Ki := gsz w (below_size (bw_q HB)) hg; have Kj := gsz w (below_size (bw_q HB)) hg; replace HB := ak (below_step (bw_q HB) hb); have Aq := ak ((by rw [hg]; exact Nat.ne_of_lt (blk_lt (g := Ae) (o := .cells #[.int .i64 Ak, .int .i64 Al, .int .i64 Am, .int .i64 An, .int .i64 Ao, .slice Bb Ad.length Bc, .int .i64 Ah, .bool Af] 24 (0, 0)) (bk_q Aa)) : Ae ≠ Aj)); have Ar := ak ((by rw [hg]; exact Nat.ne_of_gt (blk_lt (g := Ae) (o := .cells #[.int .i64 Ak, .int .i64 Al, .int .i64 Am, .int .i64 An, .int .i64 Ao, .slice Bb Ad.length Bc, .int .i64 Ah, .bool Af] 24 (0, 0)) (bk_q Aa)) : Aj ≠ Ae)); replace Aa := ak (blk_below (g := Ae) (bk_q Aa) hb); clear hb hbox hg)))
 (try simp only [Act.put, List.setIfInBounds_toArray, List.set_cons_zero, List.set_cons_succ])
 go_cut [32] (fun v32 wc => ∃ (kq : Nat) (Fd : Bool), v32 = .bool Fd ∧ Aside0 (impl_SameBody.j0 kq Fd Ak Al Am An Ao Ad Ah Af As At Au Av Aw Ag Ap Ai = some r) ∧ Aside0 (kq ≤ k) ∧ Aside0 (wc.heap[Ae]? = some (.cells #[.int .i64 Ak, .int .i64 Al, .int .i64 Am, .int .i64 An, .int .i64 Ao, (.slice Bb Ad.length Bc), .int .i64 Ah, .bool Af] 24 (0, 0))) ∧ Aside0 (wc.heap[Aj]? = some (.cells #[.int .i64 As, .int .i64 At, .int .i64 Au, .int .i64 Av, .int .i64 Aw, (.slice Ez Ag.length Fa), .int .i64 Ap, .bool Ai] 24 (0, 0))) ∧ Aside0 (Below w.heap.size w wc))
 case first =>
  have H := La.out; clear La; replace H := bsi H; obtain ⟨Lg, A60, H⟩ := H
  (try dsimp only at H)
  have A6 := ak A60; clear A60
  by_cases c7 : Lg = true
  ·subst c7; rw [if_pos rfl] at H
   by_cases c8 : Ah = Ap
   ·rw [if_pos c8] at H
    have Fb : (Ah == Ap) = true := bqi c8
    have Fc : (Ah != Ap) = false := bnf c8
    clear c8
    (first | rw [Fb] | rw [Fc] | (simp only [i64_w, i32_w]; first | rw [Fb] | rw [Fc]) | skip)
    by_cases c9 : (Af != Ai) = true
    ·rw [if_pos c9] at H
     have Kc : (Af != Ai) = true := c9
     (try (have Ke : decide (Af = Ai) = false := by simpa using c9))
     (try (have Kf : (Af == Ai) = false := by simpa using c9))
     (try (have Ok : ¬ (Af = Ai) := by simpa using c9))
     clear c9; have H' := ak H; clear H; have Nt := Aq.out; have Nu := Ar.out; obtain ⟨Fe, Ff, Fg, Fh, Fi, Fj, Fk, Fl, Fm, Fn, Fo, Fp, Fq, Fr, Fs, Ft⟩ := cf8_ Aa; obtain ⟨Fu, Fv, Fw, Fx, Fy, Fz, Ga, Gb, Gc, Gd, Ge, Gf, Gg, Gh, Gi, Gj⟩ := cf8_ Ab
     go_wp2_with (first | (go_at_call 101; (with_reducible refine (impl_SameKey.calls Ak Al Am An Ao _ _ Ad Ah Af As At Au Av Aw _ _ Ag Ap Ai true _ ?side1 ?side2 ?side3 ?side4 A6.out).mono ?_); (case side1 => exact cs_q (Kd.C_below Ax.out HB.out)); (case side2 => exact Az.out); (case side3 => exact cs_q (Kd.C_below Ay.out HB.out)); (case side4 => exact Ba.out); rintro e w13 ⟨rfl, hb⟩; replace Aa := ak (blk_below (g := Ae) (bk_q Aa) hb); replace Ab := ak (blk_below (g := Aj) (bk_q Ab) hb); replace HB := ak (below_step (bw_q HB) hb); obtain ⟨Bh, Bi, Bj, Bk, Bl, Bm, Bn, Bo, Bp, Bq, Br, Bs, Bt, Bu, Bv, Bw⟩ := cf8_ Aa; obtain ⟨Bx, By, Bz, Ca, Cb, Cc, Cd, Ce, Cf, Cg, Ch, Ci, Cj, Ck, Cl, Cm⟩ := cf8_ Ab))
     repeat (go_quiet (first | (go_at_call 101; (with_reducible refine (impl_SameKey.calls Ak Al Am An Ao _ _ Ad Ah Af As At Au Av Aw _ _ Ag Ap Ai true _ ?side1 ?side2 ?side3 ?side4 A6.out).mono ?_); (case side1 => exact cs_q (Kd.C_below Ax.out HB.out)); (case side2 => exact Az.out); (case side3 => exact cs_q (Kd.C_below Ay.out HB.out)); (case side4 => exact Ba.out); rintro e w13 ⟨rfl, hb⟩; replace Aa := ak (blk_below (g := Ae) (bk_q Aa) hb); replace Ab := ak (blk_below (g := Aj) (bk_q Ab) hb); replace HB := ak (below_step (bw_q HB) hb); obtain ⟨Bh, Bi, Bj, Bk, Bl, Bm, Bn, Bo, Bp, Bq, Br, Bs, Bt, Bu, Bv, Bw⟩ := cf8_ Aa; obtain ⟨Bx, By, Bz, Ca, Cb, Cc, Cd, Ce, Cf, Cg, Ch, Ci, Cj, Ck, Cl, Cm⟩ := cf8_ Ab)); try go_wp2_with (first | (go_at_call 101; (with_reducible refine (impl_SameKey.calls Ak Al Am An Ao _ _ Ad Ah Af As At Au Av Aw _ _ Ag Ap Ai true _ ?side1 ?side2 ?side3 ?side4 A6.out).mono ?_); (case side1 => exact cs_q (Kd.C_below Ax.out HB.out)); (case side2 => exact Az.out); (case side3 => exact cs_q (Kd.C_below Ay.out HB.out)); (case side4 => exact Ba.out); rintro e w13 ⟨rfl, hb⟩; replace Aa := ak (blk_below (g := Ae) (bk_q Aa) hb); replace Ab := ak (blk_below (g := Aj) (bk_q Ab) hb); replace HB := ak (below_step (bw_q HB) hb); obtain ⟨Bh, Bi, Bj, Bk, Bl, Bm, Bn, Bo, Bp, Bq, Br, Bs, Bt, Bu, Bv, Bw⟩ := cf8_ Aa; obtain ⟨Bx, By, Bz, Ca, Cb, Cc, Cd, Ce, Cf, Cg, Ch, Ci, Cj, Ck, Cl, Cm⟩ := cf8_ Ab)))
     go_meet
     case rel => exact ⟨_, (true), rs_q, H', ⟨by first | omega | exact Nat.le_refl _⟩, ⟨bk_q Aa⟩, ⟨bk_q Ab⟩, ⟨bw_q HB⟩⟩
    ·rw [if_neg c9] at H
     have Kc : (Af != Ai) = false := by simpa using c9
     (try (have Ke : decide (Af = Ai) = true := by simpa using c9))
     (try (have Kf : (Af == Ai) = true := by simpa using c9))
     clear c9; have H' := ak H; clear H; have Nv := Aq.out; have Nw := Ar.out; obtain ⟨Gk, Gl, Gm, Gn, Go, Gp, Gq, Gr, Gs, Gt, Gu, Gv, Gw, Gx, Gy, Gz⟩ := cf8_ Aa; obtain ⟨Ha, Hb, Hc, Hd, He, Hf, Hg, Hh, Hi, Hj, Hk, Hl, Hm, Hn, Ho, Hp⟩ := cf8_ Ab
     go_wp2_with (first | (go_at_call 101; (with_reducible refine (impl_SameKey.calls Ak Al Am An Ao _ _ Ad Ah Af As At Au Av Aw _ _ Ag Ap Ai true _ ?side1 ?side2 ?side3 ?side4 A6.out).mono ?_); (case side1 => exact cs_q (Kd.C_below Ax.out HB.out)); (case side2 => exact Az.out); (case side3 => exact cs_q (Kd.C_below Ay.out HB.out)); (case side4 => exact Ba.out); rintro e w19 ⟨rfl, hb⟩; replace Aa := ak (blk_below (g := Ae) (bk_q Aa) hb); replace Ab := ak (blk_below (g := Aj) (bk_q Ab) hb); replace HB := ak (below_step (bw_q HB) hb); obtain ⟨Cn, Co, Cp, Cq, Cr, Cs, Ct, Cu, Cv, Cw, Cx, Cy, Cz, Da, Db, Dc⟩ := cf8_ Aa; obtain ⟨Dd, De, Df, Dg, Dh, Di, Dj, Dk, Dl, Dm, Dn, Do, Dp, Dq, Dr, Ds⟩ := cf8_ Ab))
     repeat (go_quiet (first | (go_at_call 101; (with_reducible refine (impl_SameKey.calls Ak Al Am An Ao _ _ Ad Ah Af As At Au Av Aw _ _ Ag Ap Ai true _ ?side1 ?side2 ?side3 ?side4 A6.out).mono ?_); (case side1 => exact cs_q (Kd.C_below Ax.out HB.out)); (case side2 => exact Az.out); (case side3 => exact cs_q (Kd.C_below Ay.out HB.out)); (case side4 => exact Ba.out); rintro e w19 ⟨rfl, hb⟩; replace Aa := ak (blk_below (g := Ae) (bk_q Aa) hb); replace Ab := ak (blk_below (g := Aj) (bk_q Ab) hb); replace HB := ak (below_step (bw_q HB) hb); obtain ⟨Cn, Co, Cp, Cq, Cr, Cs, Ct, Cu, Cv, Cw, Cx, Cy, Cz, Da, Db, Dc⟩ := cf8_ Aa; obtain ⟨Dd, De, Df, Dg, Dh, Di, Dj, Dk, Dl, Dm, Dn, Do, Dp, Dq, Dr, Ds⟩ := cf8_ Ab)); try go_wp2_with (first | (go_at_call 101; (with_reducible refine (impl_SameKey.calls Ak Al Am An Ao _ _ Ad Ah Af As At Au Av Aw _ _ Ag Ap Ai true _ ?side1 ?side2 ?side3 ?side4 A6.out).mono ?_); (case side1 => exact cs_q (Kd.C_below Ax.out HB.out)); (case side2 => exact Az.out); (case side3 => exact cs_q (Kd.C_below Ay.out HB.out)); (case side4 => exact Ba.out); rintro e w19 ⟨rfl, hb⟩; replace Aa := ak (blk_below (g := Ae) (bk_q Aa) hb); replace Ab := ak (blk_below (g := Aj) (bk_q Ab) hb); replace HB := ak (below_step (bw_q HB) hb); obtain ⟨Cn, Co, Cp, Cq, Cr, Cs, Ct, Cu, Cv, Cw, Cx, Cy, Cz, Da, Db, Dc⟩ := cf8_ Aa; obtain ⟨Dd, De, Df, Dg, Dh, Di, Dj, Dk, Dl, Dm, Dn, Do, Dp, Dq, Dr, Ds⟩ := cf8_ Ab)))
     go_meet
     case rel => exact ⟨_, (((Ad.length : Int) != (Ag.length : Int))), rs_q, H', ⟨by first | omega | exact Nat.le_refl _⟩, ⟨bk_q Aa⟩, ⟨bk_q Ab⟩, ⟨bw_q HB⟩⟩
   ·rw [if_neg c8] at H
    have Fb : (Ah == Ap) = false := bqf c8
    have Fc : (Ah != Ap) = true := bni c8
    (first | rw [Fb] | rw [Fc] | (simp only [i64_w, i32_w]; first | rw [Fb] | rw [Fc]) | skip)
    have H' := ak H; clear H; have Nx := Aq.out; have Ny := Ar.out; obtain ⟨Hq, Hr, Hs, Ht, Hu, Hv, Hw, Hx, Hy, Hz, Ia, Ib, Ic, Id, Ie, If⟩ := cf8_ Aa; obtain ⟨Ig, Ih, Ii, Ij, Ik, Il, Im, In, Io, Ip, Iq, Ir, Is, It, Iu, Iv⟩ := cf8_ Ab
    go_wp2_with (first | (go_at_call 101; (with_reducible refine (impl_SameKey.calls Ak Al Am An Ao _ _ Ad Ah Af As At Au Av Aw _ _ Ag Ap Ai true _ ?side1 ?side2 ?side3 ?side4 A6.out).mono ?_); (case side1 => exact cs_q (Kd.C_below Ax.out HB.out)); (case side2 => exact Az.out); (case side3 => exact cs_q (Kd.C_below Ay.out HB.out)); (case side4 => exact Ba.out); rintro e w25 ⟨rfl, hb⟩; replace Aa := ak (blk_below (g := Ae) (bk_q Aa) hb); replace Ab := ak (blk_below (g := Aj) (bk_q Ab) hb); replace HB := ak (below_step (bw_q HB) hb); obtain ⟨Dt, Du, Dv, Dw, Dx, Dy, Dz, Ea, Eb, Ec, Ed, Ee, Ef, Eg, Eh, Ei⟩ := cf8_ Aa; obtain ⟨Ej, Ek, El, Em, En, Eo, Ep, Eq, Er, Es, Et, Eu, Ev, Ew, Ex, Ey⟩ := cf8_ Ab))
    repeat (go_quiet (first | (go_at_call 101; (with_reducible refine (impl_SameKey.calls Ak Al Am An Ao _ _ Ad Ah Af As At Au Av Aw _ _ Ag Ap Ai true _ ?side1 ?side2 ?side3 ?side4 A6.out).mono ?_); (case side1 => exact cs_q (Kd.C_below Ax.out HB.out)); (case side2 => exact Az.out); (case side3 => exact cs_q (Kd.C_below Ay.out HB.out)); (case side4 => exact Ba.out); rintro e w25 ⟨rfl, hb⟩; replace Aa := ak (blk_below (g := Ae) (bk_q Aa) hb); replace Ab := ak (blk_below (g := Aj) (bk_q Ab) hb); replace HB := ak (below_step (bw_q HB) hb); obtain ⟨Dt, Du, Dv, Dw, Dx, Dy, Dz, Ea, Eb, Ec, Ed, Ee, Ef, Eg, Eh, Ei⟩ := cf8_ Aa; obtain ⟨Ej, Ek, El, Em, En, Eo, Ep, Eq, Er, Es, Et, Eu, Ev, Ew, Ex, Ey⟩ := cf8_ Ab)); try go_wp2_with (first | (go_at_call 101; (with_reducible refine (impl_SameKey.calls Ak Al Am An Ao _ _ Ad Ah Af As At Au Av Aw _ _ Ag Ap Ai true _ ?side1 ?side2 ?side3 ?side4 A6.out).mono ?_); (case side1 => exact cs_q (Kd.C_below Ax.out HB.out)); (case side2 => exact Az.out); (case side3 => exact cs_q (Kd.C_below Ay.out HB.out)); (case side4 => exact Ba.out); rintro e w25 ⟨rfl, hb⟩; replace Aa := ak (blk_below (g := Ae) (bk_q Aa) hb); replace Ab := ak (blk_below (g := Aj) (bk_q Ab) hb); replace HB := ak (below_step (bw_q HB) hb); obtain ⟨Dt, Du, Dv, Dw, Dx, Dy, Dz, Ea, Eb, Ec, Ed, Ee, Ef, Eg, Eh, Ei⟩ := cf8_ Aa; obtain ⟨Ej, Ek, El, Em, En, Eo, Ep, Eq, Er, Es, Et, Eu, Ev, Ew, Ex, Ey⟩ := cf8_ Ab)))
    go_meet
    case rel => exact ⟨_, (true), rs_q, H', ⟨by first | omega | exact Nat.le_refl _⟩, ⟨bk_q Aa⟩, ⟨bk_q Ab⟩, ⟨bw_q HB⟩⟩
  ·replace c7 := Bool.eq_false_iff.mpr c7; subst c7
   rw [if_neg (show ¬ (false = true) by decide)] at H
   have H' := ak H; clear H; have Nz := Aq.out; have Oa := Ar.out; obtain ⟨Iw, Ix, Iy, Iz, Ja, Jb, Jc, Jd, Je, Jf, Jg, Jh, Ji, Jj, Jk, Jl⟩ := cf8_ Aa; obtain ⟨Jm, Jn, Jo, Jp, Jq, Jr, Js, Jt, Ju, Jv, Jw, Jx, Jy, Jz, Ka, Kb⟩ := cf8_ Ab
   go_wp2_with (first | (go_at_call 101; (with_reducible refine (impl_SameKey.calls Ak Al Am An Ao _ _ Ad Ah Af As At Au Av Aw _ _ Ag Ap Ai false _ ?side1 ?side2 ?side3 ?side4 A6.out).mono ?_); (case side1 => exact cs_q (Kd.C_below Ax.out HB.out)); (case side2 => exact Az.out); (case side3 => exact cs_q (Kd.C_below Ay.out HB.out)); (case side4 => exact Ba.out); rintro e w31 ⟨rfl, hb⟩; replace Aa := ak (blk_below (g := Ae) (bk_q Aa) hb); replace Ab := ak (blk_below (g := Aj) (bk_q Ab) hb); replace HB := ak (below_step (bw_q HB) hb)))
   repeat (go_quiet (first | (go_at_call 101; (with_reducible refine (impl_SameKey.calls Ak Al Am An Ao _ _ Ad Ah Af As At Au Av Aw _ _ Ag Ap Ai false _ ?side1 ?side2 ?side3 ?side4 A6.out).mono ?_); (case side1 => exact cs_q (Kd.C_below Ax.out HB.out)); (case side2 => exact Az.out); (case side3 => exact cs_q (Kd.C_below Ay.out HB.out)); (case side4 => exact Ba.out); rintro e w31 ⟨rfl, hb⟩; replace Aa := ak (blk_below (g := Ae) (bk_q Aa) hb); replace Ab := ak (blk_below (g := Aj) (bk_q Ab) hb); replace HB := ak (below_step (bw_q HB) hb))); try go_wp2_with (first | (go_at_call 101; (with_reducible refine (impl_SameKey.calls Ak Al Am An Ao _ _ Ad Ah Af As At Au Av Aw _ _ Ag Ap Ai false _ ?side1 ?side2 ?side3 ?side4 A6.out).mono ?_); (case side1 => exact cs_q (Kd.C_below Ax.out HB.out)); (case side2 => exact Az.out); (case side3 => exact cs_q (Kd.C_below Ay.out HB.out)); (case side4 => exact Ba.out); rintro e w31 ⟨rfl, hb⟩; replace Aa := ak (blk_below (g := Ae) (bk_q Aa) hb); replace Ab := ak (blk_below (g := Aj) (bk_q Ab) hb); replace HB := ak (below_step (bw_q HB) hb))))
   go_meet
   case rel => exact ⟨_, (true), rs_q, H', ⟨by first | omega | exact Nat.le_refl _⟩, ⟨bk_q Aa⟩, ⟨bk_q Ab⟩, ⟨bw_q HB⟩⟩
 case rest =>
  clear La; (try clear c1); (try clear c2); (try clear p2); (try clear c7); (try clear c8); (try clear Fb); (try clear Fc); (try clear c9); (try clear Kc); (try clear Ke); (try clear Kf); (try clear c10); (try clear c16); (try clear c22); (try clear c28)
  try clear Fe Ff Fg Fh Fi Fj Fk Fl
  try clear Fu Fv Fw Fx Fy Fz Ga Gb
  try clear Bh Bi Bj Bk Bl Bm Bn Bo
  try clear Bx By Bz Ca Cb Cc Cd Ce
  try clear Gk Gl Gm Gn Go Gp Gq Gr
  try clear Ha Hb Hc Hd He Hf Hg Hh
  try clear Cn Co Cp Cq Cr Cs Ct Cu
  try clear Dd De Df Dg Dh Di Dj Dk
  try clear Hq Hr Hs Ht Hu Hv Hw Hx
  try clear Ig Ih Ii Ij Ik Il Im In
  try clear Dt Du Dv Dw Dx Dy Dz Ea
  try clear Ej Ek El Em En Eo Ep Eq
  try clear Iw Ix Iy Iz Ja Jb Jc Jd
  try clear Jm Jn Jo Jp Jq Jr Js Jt
  try clear Fm Fn Fo Fp Fq Fr Fs Ft
  try clear Gc Gd Ge Gf Gg Gh Gi Gj
  try clear Bp Bq Br Bs Bt Bu Bv Bw
  try clear Cf Cg Ch Ci Cj Ck Cl Cm
  try clear Gs Gt Gu Gv Gw Gx Gy Gz
  try clear Hi Hj Hk Hl Hm Hn Ho Hp
  try clear Cv Cw Cx Cy Cz Da Db Dc
  try clear Dl Dm Dn Do Dp Dq Dr Ds
  try clear Hy Hz Ia Ib Ic Id Ie If
  try clear Io Ip Iq Ir Is It Iu Iv
  try clear Eb Ec Ed Ee Ef Eg Eh Ei
  try clear Er Es Et Eu Ev Ew Ex Ey
  try clear Je Jf Jg Jh Ji Jj Jk Jl
  try clear Ju Jv Jw Jx Jy Jz Ka Kb
  obtain ⟨kq, Fd, rfl, HA, HJ2, Aa, Ab, HB⟩ := hcut
  cases kq with
  | zero => exact absurd HA.out (by simp [impl_SameBody.j0])
  | succ kj2 =>
   have H := HA.out; clear HA
   simp only [impl_SameBody.j0] at H
   by_cases c32 : Fd = true
   ·subst c32; rw [if_pos rfl] at H; obtain rfl := Option.some.inj H
    go_wp2
    repeat (go_quiet (fail); try go_wp2)
    go_ret
    exact ⟨er_q, bw_q HB⟩
   ·replace c32 := Bool.eq_false_iff.mpr c32; subst c32
    rw [if_neg (show ¬ (false = true) by decide)] at H
    have H' := ak H; clear H; have Ob := Aq.out; have Oc := Ar.out; obtain ⟨Kk, Kl, Km, Kn, Ko, Kp, Kq, Kr, Ks, Kt, Ku, Kv, Kw, Kx, Ky, Kz⟩ := cf8_ Aa
    go_wp2
    repeat (go_quiet (fail); try go_wp2)
    go_loopg [36] kj2 (fun kq v36 w' => ∃ (Ac : Int), v36 = .int .i64 Ac ∧ Aside0 (impl_SameBody.l0 kq (Ad.length : Int) Ac Ak Al Am An Ao Ad Ah Af As At Au Av Aw Ag Ap Ai = some r) ∧ Aside0 (kq ≤ kj2) ∧ Aside0 (w'.heap[Ae]? = some (.cells #[.int .i64 Ak, .int .i64 Al, .int .i64 Am, .int .i64 An, .int .i64 Ao, (.slice Bb Ad.length Bc), .int .i64 Ah, .bool Af] 24 (0, 0))) ∧ Aside0 (w'.heap[Aj]? = some (.cells #[.int .i64 As, .int .i64 At, .int .i64 Au, .int .i64 Av, .int .i64 Aw, (.slice Ez Ag.length Fa), .int .i64 Ap, .bool Ai] 24 (0, 0))) ∧ Aside0 (Below w.heap.size w w'))
    case atStart => exact ⟨(0), rs_q, H', ⟨Nat.le_refl _⟩, ⟨bk_q Aa⟩, ⟨bk_q Ab⟩, ⟨bw_q HB⟩⟩
    case round =>
     clear H'; (try clear c1); (try clear c2); (try clear p2); (try clear c3); (try clear c7); (try clear c8); (try clear Fb); (try clear Fc); (try clear c9); (try clear Kc); (try clear Ke); (try clear Kf); (try clear c10); (try clear c16); (try clear c22); (try clear c28); (try clear c32); (try clear c33)
     try clear Fe Ff Fg Fh Fi Fj Fk Fl
     try clear Fu Fv Fw Fx Fy Fz Ga Gb
     try clear Bh Bi Bj Bk Bl Bm Bn Bo
     try clear Bx By Bz Ca Cb Cc Cd Ce
     try clear Gk Gl Gm Gn Go Gp Gq Gr
     try clear Ha Hb Hc Hd He Hf Hg Hh
     try clear Cn Co Cp Cq Cr Cs Ct Cu
     try clear Dd De Df Dg Dh Di Dj Dk
     try clear Hq Hr Hs Ht Hu Hv Hw Hx
     try clear Ig Ih Ii Ij Ik Il Im In
     try clear Dt Du Dv Dw Dx Dy Dz Ea
     try clear Ej Ek El Em En Eo Ep Eq
     try clear Iw Ix Iy Iz Ja Jb Jc Jd
     try clear Jm Jn Jo Jp Jq Jr Js Jt
     try clear Kk Kl Km Kn Ko Kp Kq Kr
     try clear Fm Fn Fo Fp Fq Fr Fs Ft
     try clear Gc Gd Ge Gf Gg Gh Gi Gj
     try clear Bp Bq Br Bs Bt Bu Bv Bw
     try clear Cf Cg Ch Ci Cj Ck Cl Cm
     try clear Gs Gt Gu Gv Gw Gx Gy Gz
     try clear Hi Hj Hk Hl Hm Hn Ho Hp
     try clear Cv Cw Cx Cy Cz Da Db Dc
     try clear Dl Dm Dn Do Dp Dq Dr Ds
     try clear Hy Hz Ia Ib Ic Id Ie If
     try clear Io Ip Iq Ir Is It Iu Iv
     try clear Eb Ec Ed Ee Ef Eg Eh Ei
     try clear Er Es Et Eu Ev Ew Ex Ey
     try clear Je Jf Jg Jh Ji Jj Jk Jl
     try clear Ju Jv Jw Jx Jy Jz Ka Kb
     try clear Ks Kt Ku Kv Kw Kx Ky Kz
     (try clear p2); obtain ⟨Ac, rfl, HA, Lf, Aa, Ab, HB⟩ := hrel
     cases gk with
     | zero => exact absurd HA.out (by simp [impl_SameBody.l0])
     | succ k2 =>
      have H := HA.out; clear HA
      simp only [impl_SameBody.l0] at H
      by_cases c35 : Ac < (Ad.length : Int)
      ·rw [if_pos c35] at H
       have Lb : decide (Ac < (Ad.length : Int)) = true := decide_eq_true c35
       clear c35
       by_cases c36 : 0 ≤ Ac
       ·rw [if_pos c36] at H
        have Od : decide (0 ≤ Ac) = true := decide_eq_true c36
        clear c36
        by_cases c37 : Ac < (Ad.length : Int)
        ·rw [if_pos c37] at H
         have Oe : decide (Ac < (Ad.length : Int)) = true := decide_eq_true c37
         clear c37
         by_cases c38 : Ac < (Ag.length : Int)
         ·rw [if_pos c38] at H
          have Of : decide (Ac < (Ag.length : Int)) = true := decide_eq_true c38
          clear c38
          by_cases c39 : (!(((rd_T63 Ad Ac).f0) == ((rd_T63 Ag Ac).f0)) || (!(((rd_T63 Ad Ac).f1) == ((rd_T63 Ag Ac).f1)))) = true
          ·rw [if_pos c39] at H
           have Lc : (!(((rd_T63 Ad Ac).f0) == ((rd_T63 Ag Ac).f0)) || (!(((rd_T63 Ad Ac).f1) == ((rd_T63 Ag Ac).f1)))) = true := c39
           clear c39; obtain rfl := Option.some.inj H; have Og := Aq.out; have Oh := Ar.out; obtain ⟨Lh, Li, Lj, Lk, Ll, Lm, Ln, Lo, Lp, Lq, Lr, Ls, Lt, Lu, Lv, Lw⟩ := cf8_ Aa
           have p300 : 0 ≤ (Ac : Int) := of_decide_eq_true as_q
           have q300 : Ac < (Ad.length : Int) := of_decide_eq_true as_q
           obtain ⟨Ld, e300, Bd, Be⟩ := at_T63 Ax.out Ac p300 q300
           cases e300
           replace Bd := hbc HB Bd; replace Be := hbc HB Be; replace p300 := eq_true p300; replace q300 := eq_true q300; obtain ⟨Lx, Ly, Lz, Ma, Mb, Mc, Md, Me, Mf, Mg, Mh, Mi, Mj, Mk, Ml, Mm⟩ := cf8_ Ab
           have p301 : 0 ≤ (Ac : Int) := of_decide_eq_true as_q
           have q301 : Ac < (Ag.length : Int) := of_decide_eq_true as_q
           obtain ⟨Le, e301, Bf, Bg⟩ := at_T63 Ay.out Ac p301 q301
           cases e301
           replace Bf := hbc HB Bf; replace Bg := hbc HB Bg; replace p301 := eq_true p301; replace q301 := eq_true q301
           go_wp2
           repeat (go_quiet (fail); try go_wp2)
           go_ret
           exact ⟨er_q, bw_q HB⟩
          ·rw [if_neg c39] at H
           have Lc : (!(((rd_T63 Ad Ac).f0) == ((rd_T63 Ag Ac).f0)) || (!(((rd_T63 Ad Ac).f1) == ((rd_T63 Ag Ac).f1)))) = false := by simpa using c39
           clear c39; have H' := ak H; clear H; have Oi := Aq.out; have Oj := Ar.out; obtain ⟨Mn, Mo, Mp, Mq, Mr, Ms, Mt, Mu, Mv, Mw, Mx, My, Mz, Na, Nb, Nc⟩ := cf8_ Aa
           have p300 : 0 ≤ (Ac : Int) := of_decide_eq_true as_q
           have q300 : Ac < (Ad.length : Int) := of_decide_eq_true as_q
           obtain ⟨Ld, e300, Bd, Be⟩ := at_T63 Ax.out Ac p300 q300
           cases e300
           replace Bd := hbc HB Bd; replace Be := hbc HB Be; replace p300 := eq_true p300; replace q300 := eq_true q300; obtain ⟨Nd, Ne, Nf, Ng, Nh, Ni, Nj, Nk, Nl, Nm, Nn, No, Np, Nq, Nr, Ns⟩ := cf8_ Ab
           have p301 : 0 ≤ (Ac : Int) := of_decide_eq_true as_q
           have q301 : Ac < (Ag.length : Int) := of_decide_eq_true as_q
           obtain ⟨Le, e301, Bf, Bg⟩ := at_T63 Ay.out Ac p301 q301
           cases e301
           replace Bf := hbc HB Bf; replace Bg := hbc HB Bg; replace p301 := eq_true p301; replace q301 := eq_true q301
           go_wp2
           repeat (go_quiet (fail); try go_wp2)
           go_roundg k2
           case measure => have := HJ2.out; have := Lf.out; omega
           case rel => exact ⟨(wrap64 (Ac + 1)), rs_q, H', ⟨by have := HJ2.out; have := Lf.out; omega⟩, ⟨bk_q Aa⟩, ⟨bk_q Ab⟩, ⟨bw_q HB⟩⟩
         ·rw [if_neg c38] at H
          exact absurd H (by simp)
        ·rw [if_neg c37] at H
         exact absurd H (by simp)
       ·rw [if_neg c36] at H
        exact absurd H (by simp)
      ·rw [if_neg c35] at H
       have Lb : decide (Ac < (Ad.length : Int)) = false := decide_eq_false c35
       clear c35; obtain rfl := Option.some.inj H
       go_wp2
       repeat (go_quiet (fail); try go_wp2)
       go_ret
       exact ⟨er_q, bw_q HB⟩

/-! ### impl_sumsOk: function 78 -/
def impl_sumsOk.l0 : Nat → List (S24) → Int → Int → Option (Bool)
 | 0, _, _, _ => none
 | k + 1, c, e, b => if b < e then (if 0 ≤ b then (if b < (c.length : Int) then ((impl_header.f ((rd_T24 c b).f0) ((rd_T24 c b).f1) ((rd_T24 c b).f2) ((rd_T24 c b).f3) ((rd_T24 c b).f4) ((rd_T24 c b).f5) ((rd_T24 c b).f6) ((rd_T24 c b).f7)).bind fun a => ((impl_SameBody.f k a.1 a.2.1 a.2.2.1 a.2.2.2.1 a.2.2.2.2.1 a.2.2.2.2.2.1 a.2.2.2.2.2.2.1 a.2.2.2.2.2.2.2 ((rd_T24 c b).f0) ((rd_T24 c b).f1) ((rd_T24 c b).f2) ((rd_T24 c b).f3) ((rd_T24 c b).f4) ((rd_T24 c b).f5) ((rd_T24 c b).f6) ((rd_T24 c b).f7)).bind fun d => (if d = true then (impl_sumsOk.l0 k c e (wrap64 (b + 1))) else (some false)))) else (none)) else (none)) else (some true)
def impl_sumsOk.f (k : Nat) (l0 : List (S24)) : Option (Bool) := impl_sumsOk.l0 k l0 (l0.length : Int) 0
theorem impl_sumsOk.mono_l : ∀ k, (∀ y0 y1 y2, LeO (impl_sumsOk.l0 k y0 y1 y2) (impl_sumsOk.l0 (k + 1) y0 y1 y2))
 | 0 => fun _ _ _ r h => by simp [impl_sumsOk.l0] at h
 | k + 1 => by
  have ih0 := impl_sumsOk.mono_l k
  ·intro y0 y1 y2
   unfold impl_sumsOk.l0
   with_reducible repeat' (first | apply ih0 | apply impl_SameBody.mono | exact LeO.refl _ | exact LeO.none _ | refine LeO.ite ?_ ?_ | refine LeO.bind ?_ (fun _ => ?_))
theorem impl_sumsOk.mono : ∀ a0 k, LeO (impl_sumsOk.f k a0) (impl_sumsOk.f (k + 1) a0) := by
 intro a0 k
 have ih0 := impl_sumsOk.mono_l k
 unfold impl_sumsOk.f
 with_reducible repeat' (first | apply ih0 | apply impl_SameBody.mono | exact LeO.refl _ | exact LeO.none _ | refine LeO.ite ?_ ?_ | refine LeO.bind ?_ (fun _ => ?_))
set_option maxHeartbeats 8000000 in
set_option maxRecDepth 100000 in
theorem impl_sumsOk.calls (k : Nat) (A0 : Option Addr) (c0 : Nat) (l0 : List (S24)) (r : Bool) (w : World) (hr0 : Kd.C k24 w A0 l0.length l0) (hc0 : l0.length ≤ c0) (h : impl_sumsOk.f k l0 = some r) :
  Calls Try.prog 78 #[.slice A0 l0.length c0] w fun e w' => e = .returned (.bool r) ∧ Below w.heap.size w w' := by
 have hu24 := Try.underlying24; have HR0 := ak hr0; have Dj := ak hc0; clear hr0 hc0; have HB := ak (Below.refl w.heap.size w); have H := h
 clear h; unfold impl_sumsOk.f at H; have H' := ak H; clear H
 go_enter Try.func78, Try.ntmps78
 go_wp2
 go_loopg [8] k (fun kq v8 w' => ∃ (Aa : Int), v8 = .int .i64 Aa ∧ Aside0 (impl_sumsOk.l0 kq l0 (l0.length : Int) Aa = some r) ∧ Aside0 (kq ≤ k) ∧ Aside0 (Below w.heap.size w w'))
 case atStart => exact ⟨(0), rs_q, H', ⟨Nat.le_refl _⟩, ⟨bw_q HB⟩⟩
 case round =>
  clear H'; obtain ⟨Aa, rfl, HA, Bb, HB⟩ := hrel
  cases gk with
  | zero => exact absurd HA.out (by simp [impl_sumsOk.l0])
  | succ k1 =>
   have H := HA.out; clear HA
   simp only [impl_sumsOk.l0] at H
   by_cases c2 : Aa < (l0.length : Int)
   ·rw [if_pos c2] at H
    have Bd : decide (Aa < (l0.length : Int)) = true := decide_eq_true c2
    clear c2
    by_cases c3 : 0 ≤ Aa
    ·rw [if_pos c3] at H
     have Dh : decide (0 ≤ Aa) = true := decide_eq_true c3
     clear c3
     by_cases c4 : Aa < (l0.length : Int)
     ·rw [if_pos c4] at H
      have Di : decide (Aa < (l0.length : Int)) = true := decide_eq_true c4
      clear c4; replace H := bsi H; obtain ⟨⟨Ad, Af, Ag, Ah, Ai, Aj, Am, Ao⟩, A50, H⟩ := H
      (try dsimp only at H)
      have A5 := ak A50; clear A50; replace H := bsi H; obtain ⟨Ba, A60, H⟩ := H
      (try dsimp only at H)
      have A6 := ak A60; clear A60; have Bc := ak H; clear H
      have p302 : 0 ≤ (Aa : Int) := of_decide_eq_true as_q
      have q302 : Aa < (l0.length : Int) := of_decide_eq_true as_q
      obtain ⟨Da, A302_5, c302_5, e302, Ap, Aq, Ar, As, At, Au, Av, Aw, hl302_5, hi302_5⟩ := at_T24 HR0.out Aa p302 q302
      cases e302
      replace Ap := hbc HB Ap; replace Aq := hbc HB Aq; replace Ar := hbc HB Ar; replace As := hbc HB As; replace At := hbc HB At; replace Au := hbc HB Au; replace Av := hbc HB Av; replace Aw := hbc HB Aw; have Ax := ak hi302_5; have Ay := ak hl302_5; clear hi302_5 hl302_5; replace p302 := eq_true p302; replace q302 := eq_true q302
      go_upto_if 17 with (first | ((with_reducible refine gate_dst (N := 4) rfl ?_); refine box_q 4 #[.int .i64 0, .int .i64 0, .int .i64 0, .int .i64 0, .int .i64 0, .slice none 0 0, .int .i64 0, .bool false] 24 ?_; intro Ak hg w8 hbox hb; have Ae := ak (hbox); have Db := gsz w (below_size (bw_q HB)) hg; have Dc := gsz w (below_size (bw_q HB)) hg; replace HB := ak (below_step (bw_q HB) hb); clear hb hbox hg; obtain ⟨Ck, Cl, Cm, Cn, Co, Cp, Cq, Cr, Cs, Ct, Cu, Cv, Cw, Cx, Cy, Cz⟩ := cf8_ Ae) | ((with_reducible refine gate_callee (f := 95) rfl ?_); refine goesL_ (some 13) rfl rfl Try.func95 (by kernel_rfl) rfl #[.agg #[.int .i64 ((rd_T24 l0 Aa).f0), .int .i64 ((rd_T24 l0 Aa).f1), .int .i64 ((rd_T24 l0 Aa).f2), .int .i64 ((rd_T24 l0 Aa).f3), .int .i64 ((rd_T24 l0 Aa).f4), .slice A302_5 ((rd_T24 l0 Aa).f5).length c302_5, .int .i64 ((rd_T24 l0 Aa).f6), .bool ((rd_T24 l0 Aa).f7)]] rfl mp_q ?_; (with_reducible refine (impl_header.calls ((rd_T24 l0 Aa).f0) ((rd_T24 l0 Aa).f1) ((rd_T24 l0 Aa).f2) ((rd_T24 l0 Aa).f3) ((rd_T24 l0 Aa).f4) _ _ ((rd_T24 l0 Aa).f5) ((rd_T24 l0 Aa).f6) ((rd_T24 l0 Aa).f7) Ad Af Ag Ah Ai Aj Am Ao _ ?side1 ?side2 A5.out).mono ?_); (case side1 => exact Kd.C_below Ax.out (bw_q HB)); (case side2 => exact Ay.out); rintro e w10 ⟨v310, rfl, ho0, hb⟩; refine ⟨_, rfl, ?_⟩; have hs_v310 : (v310 : Value).oneCell' = true := (by first | (have h_ := Kd.R_slice ho0; obtain ⟨A_, c_, e_⟩ := h_; simp [e_, Value.oneCell']) | (have h_ := Kd.S_slice ho0; obtain ⟨A_, c_, e_⟩ := h_; simp [e_, Value.oneCell']) | (have h_ := Kd.N_slice ho0; obtain ⟨A_, c_, e_⟩ := h_; simp [e_, Value.oneCell']) | (have h_ := Kd.V_slice ho0; obtain ⟨A_, c_, e_⟩ := h_; simp [e_, Value.oneCell'])); have hst_v310 := fun (w_ : World) (a_ : Addr) m_ => run_store Try.prog w_ a_ v310 m_ hs_v310; have Al := ak (Kd.R_lower ho0 (below_size (bw_q HB))); replace Ae := ak (blk_below (g := Ak) (o := .cells #[.int .i64 ((rd_T24 l0 Aa).f0), .int .i64 ((rd_T24 l0 Aa).f1), .int .i64 ((rd_T24 l0 Aa).f2), .int .i64 ((rd_T24 l0 Aa).f3), .int .i64 ((rd_T24 l0 Aa).f4), .slice A302_5 ((rd_T24 l0 Aa).f5).length c302_5, .int .i64 ((rd_T24 l0 Aa).f6), .bool ((rd_T24 l0 Aa).f7)] 24 (0, 0)) (by refine bz_ ?_; refine blk_put (cs := #[.int .i64 ((rd_T24 l0 Aa).f0), .int .i64 ((rd_T24 l0 Aa).f1), .int .i64 ((rd_T24 l0 Aa).f2), .int .i64 ((rd_T24 l0 Aa).f3), .int .i64 ((rd_T24 l0 Aa).f4), .slice A302_5 ((rd_T24 l0 Aa).f5).length c302_5, .int .i64 ((rd_T24 l0 Aa).f6), .bool false]) ?_ 7 _ rfl; refine bz_ ?_; refine blk_put (cs := #[.int .i64 ((rd_T24 l0 Aa).f0), .int .i64 ((rd_T24 l0 Aa).f1), .int .i64 ((rd_T24 l0 Aa).f2), .int .i64 ((rd_T24 l0 Aa).f3), .int .i64 ((rd_T24 l0 Aa).f4), .slice A302_5 ((rd_T24 l0 Aa).f5).length c302_5, .int .i64 0, .bool false]) ?_ 6 _ rfl; refine bz_ ?_; refine blk_put (cs := #[.int .i64 ((rd_T24 l0 Aa).f0), .int .i64 ((rd_T24 l0 Aa).f1), .int .i64 ((rd_T24 l0 Aa).f2), .int .i64 ((rd_T24 l0 Aa).f3), .int .i64 ((rd_T24 l0 Aa).f4), .slice none 0 0, .int .i64 0, .bool false]) ?_ 5 _ rfl; refine bz_ ?_; refine blk_put (cs := #[.int .i64 ((rd_T24 l0 Aa).f0), .int .i64 ((rd_T24 l0 Aa).f1), .int .i64 ((rd_T24 l0 Aa).f2), .int .i64 ((rd_T24 l0 Aa).f3), .int .i64 0, .slice none 0 0, .int .i64 0, .bool false]) ?_ 4 _ rfl; refine bz_ ?_; refine blk_put (cs := #[.int .i64 ((rd_T24 l0 Aa).f0), .int .i64 ((rd_T24 l0 Aa).f1), .int .i64 ((rd_T24 l0 Aa).f2), .int .i64 0, .int .i64 0, .slice none 0 0, .int .i64 0, .bool false]) ?_ 3 _ rfl; refine bz_ ?_; refine blk_put (cs := #[.int .i64 ((rd_T24 l0 Aa).f0), .int .i64 ((rd_T24 l0 Aa).f1), .int .i64 0, .int .i64 0, .int .i64 0, .slice none 0 0, .int .i64 0, .bool false]) ?_ 2 _ rfl; refine bz_ ?_; refine blk_put (cs := #[.int .i64 ((rd_T24 l0 Aa).f0), .int .i64 0, .int .i64 0, .int .i64 0, .int .i64 0, .slice none 0 0, .int .i64 0, .bool false]) ?_ 1 _ rfl; refine bz_ ?_; refine blk_put (cs := zsumsok0) ?_ 0 _ rfl; refine bz_ ?_; exact Ae.out) hb); replace HB := ak (below_step (bw_q HB) hb); (try clear ho0)) | ((with_reducible refine gate_dst (N := 5) rfl ?_); refine box_q 5 #[.int .i64 0, .int .i64 0, .int .i64 0, .int .i64 0, .int .i64 0, .slice none 0 0, .int .i64 0, .bool false] 24 ?_; intro Ab hg w11 hbox hb; replace Al := ak (Kd.R_below (kR_q Al) hb); have An := ak (hbox); have Dd := gsz w (below_size (bw_q HB)) hg; have De := gsz w (below_size (bw_q HB)) hg; replace HB := ak (below_step (bw_q HB) hb); have Ac := ak ((by rw [hg]; exact Nat.ne_of_lt (blk_lt (g := Ak) (o := .cells #[.int .i64 ((rd_T24 l0 Aa).f0), .int .i64 ((rd_T24 l0 Aa).f1), .int .i64 ((rd_T24 l0 Aa).f2), .int .i64 ((rd_T24 l0 Aa).f3), .int .i64 ((rd_T24 l0 Aa).f4), .slice A302_5 ((rd_T24 l0 Aa).f5).length c302_5, .int .i64 ((rd_T24 l0 Aa).f6), .bool ((rd_T24 l0 Aa).f7)] 24 (0, 0)) (bk_q Ae)) : Ak ≠ Ab)); have Az := ak ((by rw [hg]; exact Nat.ne_of_gt (blk_lt (g := Ak) (o := .cells #[.int .i64 ((rd_T24 l0 Aa).f0), .int .i64 ((rd_T24 l0 Aa).f1), .int .i64 ((rd_T24 l0 Aa).f2), .int .i64 ((rd_T24 l0 Aa).f3), .int .i64 ((rd_T24 l0 Aa).f4), .slice A302_5 ((rd_T24 l0 Aa).f5).length c302_5, .int .i64 ((rd_T24 l0 Aa).f6), .bool ((rd_T24 l0 Aa).f7)] 24 (0, 0)) (bk_q Ae)) : Ab ≠ Ak)); replace Ae := ak (blk_below (g := Ak) (bk_q Ae) hb); clear hb hbox hg; have Df := Az.out; have Dg := Ac.out; obtain ⟨Be, Bf, Bg, Bh, Bi, Bj, Bk, Bl, Bm, Bn, Bo, Bp, Bq, Br, Bs, Bt⟩ := cf8_ An; obtain ⟨Ao14, co14, eo14⟩ := Kd.R_slice Al.out; subst eo14; obtain ⟨Bu, Bv, Bw, Bx, By, Bz, Ca, Cb, Cc, Cd, Ce, Cf, Cg, Ch, Ci, Cj⟩ := cf8_ Ae) | ((with_reducible refine gate_callee (f := 96) rfl ?_); refine goesL_ (some 16) rfl rfl Try.func96 (by kernel_rfl) rfl #[.agg #[.int .i64 Ad, .int .i64 Af, .int .i64 Ag, .int .i64 Ah, .int .i64 Ai, .slice Ao14 Aj.length co14, .int .i64 Am, .bool Ao], .agg #[.int .i64 ((rd_T24 l0 Aa).f0), .int .i64 ((rd_T24 l0 Aa).f1), .int .i64 ((rd_T24 l0 Aa).f2), .int .i64 ((rd_T24 l0 Aa).f3), .int .i64 ((rd_T24 l0 Aa).f4), .slice A302_5 ((rd_T24 l0 Aa).f5).length c302_5, .int .i64 ((rd_T24 l0 Aa).f6), .bool ((rd_T24 l0 Aa).f7)]] rfl mp_q ?_; (with_reducible refine (impl_SameBody.calls k1 Ad Af Ag Ah Ai _ _ Aj Am Ao ((rd_T24 l0 Aa).f0) ((rd_T24 l0 Aa).f1) ((rd_T24 l0 Aa).f2) ((rd_T24 l0 Aa).f3) ((rd_T24 l0 Aa).f4) _ _ ((rd_T24 l0 Aa).f5) ((rd_T24 l0 Aa).f6) ((rd_T24 l0 Aa).f7) Ba _ ?side1 ?side2 ?side3 ?side4 A6.out).mono ?_); (case side1 => refine (Kd.R_reads' (e := 63) (base := w.heap.size) (ok := fun k_ => True) (n := Aj.length) (c := co14) ?_).2.2; exact (by (with_reducible repeat (first | apply Kd.R_alloc | apply Kd.R_drewN | apply Kd.R_drew)); exact (Kd.R_mono (Kd.R_far (p := ⟨Ab, 7, none⟩) (Kd.R_far (p := ⟨Ab, 6, none⟩) (Kd.R_far (p := ⟨Ab, 5, none⟩) (Kd.R_far (p := ⟨Ab, 4, none⟩) (Kd.R_far (p := ⟨Ab, 3, none⟩) (Kd.R_far (p := ⟨Ab, 2, none⟩) (Kd.R_far (p := ⟨Ab, 1, none⟩) (Kd.R_far (p := ⟨Ab, 0, none⟩) (Kd.R_types Al.out An.out (by decide)) (fun _ hk => hk.2) (.int .i64 Ad)) (fun _ hk => hk.2) (.int .i64 Af)) (fun _ hk => hk.2) (.int .i64 Ag)) (fun _ hk => hk.2) (.int .i64 Ah)) (fun _ hk => hk.2) (.int .i64 Ai)) (fun _ hk => hk.2) (.slice Ao14 Aj.length co14)) (fun _ hk => hk.2) (.int .i64 Am)) (fun _ hk => hk.2) (.bool Ao)) (fun _ h_ => h_.1)))); (case side2 => exact (Kd.R_reads' Al.out).2.1); (case side3 => exact Kd.C_below Ax.out (bw_q HB)); (case side4 => exact Ay.out); rintro e w16 ⟨rfl, hb⟩; refine ⟨_, rfl, ?_⟩; replace Al := ak (Kd.R_below (by (with_reducible repeat (first | apply Kd.R_alloc | apply Kd.R_drewN | apply Kd.R_drew)); exact (Kd.R_mono (Kd.R_far (p := ⟨Ab, 7, none⟩) (Kd.R_far (p := ⟨Ab, 6, none⟩) (Kd.R_far (p := ⟨Ab, 5, none⟩) (Kd.R_far (p := ⟨Ab, 4, none⟩) (Kd.R_far (p := ⟨Ab, 3, none⟩) (Kd.R_far (p := ⟨Ab, 2, none⟩) (Kd.R_far (p := ⟨Ab, 1, none⟩) (Kd.R_far (p := ⟨Ab, 0, none⟩) (Kd.R_types Al.out An.out (by decide)) (fun _ hk => hk.2) (.int .i64 Ad)) (fun _ hk => hk.2) (.int .i64 Af)) (fun _ hk => hk.2) (.int .i64 Ag)) (fun _ hk => hk.2) (.int .i64 Ah)) (fun _ hk => hk.2) (.int .i64 Ai)) (fun _ hk => hk.2) (.slice Ao14 Aj.length co14)) (fun _ hk => hk.2) (.int .i64 Am)) (fun _ hk => hk.2) (.bool Ao)) (fun _ h_ => h_.1))) hb); replace Ae := ak (blk_below (g := Ak) (o := .cells #[.int .i64 ((rd_T24 l0 Aa).f0), .int .i64 ((rd_T24 l0 Aa).f1), .int .i64 ((rd_T24 l0 Aa).f2), .int .i64 ((rd_T24 l0 Aa).f3), .int .i64 ((rd_T24 l0 Aa).f4), .slice A302_5 ((rd_T24 l0 Aa).f5).length c302_5, .int .i64 ((rd_T24 l0 Aa).f6), .bool ((rd_T24 l0 Aa).f7)] 24 (0, 0)) (by refine bz_ ?_; refine blk_far ?_ Ac.out _; refine bz_ ?_; refine blk_far ?_ Ac.out _; refine bz_ ?_; refine blk_far ?_ Ac.out _; refine bz_ ?_; refine blk_far ?_ Ac.out _; refine bz_ ?_; refine blk_far ?_ Ac.out _; refine bz_ ?_; refine blk_far ?_ Ac.out _; refine bz_ ?_; refine blk_far ?_ Ac.out _; refine bz_ ?_; refine blk_far ?_ Ac.out _; refine bz_ ?_; exact Ae.out) hb); replace An := ak (blk_below (g := Ab) (o := .cells #[.int .i64 Ad, .int .i64 Af, .int .i64 Ag, .int .i64 Ah, .int .i64 Ai, .slice Ao14 Aj.length co14, .int .i64 Am, .bool Ao] 24 (0, 0)) (by refine bz_ ?_; refine blk_put (cs := #[.int .i64 Ad, .int .i64 Af, .int .i64 Ag, .int .i64 Ah, .int .i64 Ai, .slice Ao14 Aj.length co14, .int .i64 Am, .bool false]) ?_ 7 _ rfl; refine bz_ ?_; refine blk_put (cs := #[.int .i64 Ad, .int .i64 Af, .int .i64 Ag, .int .i64 Ah, .int .i64 Ai, .slice Ao14 Aj.length co14, .int .i64 0, .bool false]) ?_ 6 _ rfl; refine bz_ ?_; refine blk_put (cs := #[.int .i64 Ad, .int .i64 Af, .int .i64 Ag, .int .i64 Ah, .int .i64 Ai, .slice none 0 0, .int .i64 0, .bool false]) ?_ 5 _ rfl; refine bz_ ?_; refine blk_put (cs := #[.int .i64 Ad, .int .i64 Af, .int .i64 Ag, .int .i64 Ah, .int .i64 0, .slice none 0 0, .int .i64 0, .bool false]) ?_ 4 _ rfl; refine bz_ ?_; refine blk_put (cs := #[.int .i64 Ad, .int .i64 Af, .int .i64 Ag, .int .i64 0, .int .i64 0, .slice none 0 0, .int .i64 0, .bool false]) ?_ 3 _ rfl; refine bz_ ?_; refine blk_put (cs := #[.int .i64 Ad, .int .i64 Af, .int .i64 0, .int .i64 0, .int .i64 0, .slice none 0 0, .int .i64 0, .bool false]) ?_ 2 _ rfl; refine bz_ ?_; refine blk_put (cs := #[.int .i64 Ad, .int .i64 0, .int .i64 0, .int .i64 0, .int .i64 0, .slice none 0 0, .int .i64 0, .bool false]) ?_ 1 _ rfl; refine bz_ ?_; refine blk_put (cs := zsumsok0) ?_ 0 _ rfl; refine bz_ ?_; exact An.out) hb); replace HB := ak (below_step (bw_q HB) hb)))
      (try clear Ap); (try clear Aq); (try clear Ar); (try clear As); (try clear At); (try clear Au); (try clear Av); (try clear Aw); have H := Bc.out; clear Bc
      by_cases c17 : Ba = true
      ·subst c17; rw [if_pos rfl] at H; have H' := ak H; clear H
       go_wp2
       go_roundg k1
       case measure => have := Bb.out; omega
       case rel => exact ⟨(wrap64 (Aa + 1)), rs_q, H', ⟨by have := Bb.out; omega⟩, ⟨bw_q HB⟩⟩
      ·replace c17 := Bool.eq_false_iff.mpr c17; subst c17
       rw [if_neg (show ¬ (false = true) by decide)] at H
       obtain rfl := Option.some.inj H
       go_wp2
       go_ret
       exact ⟨er_q, bw_q HB⟩
     ·rw [if_neg c4] at H
      exact absurd H (by simp)
    ·rw [if_neg c3] at H
     exact absurd H (by simp)
   ·rw [if_neg c2] at H
    have Bd : decide (Aa < (l0.length : Int)) = false := decide_eq_false c2
    clear c2; obtain rfl := Option.some.inj H
    go_wp2
    go_ret
    exact ⟨er_q, bw_q HB⟩

end Go.Proofs.Ytnecbkognpponaa.Q
