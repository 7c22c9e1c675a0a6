import Derived.Test.YthjmdiggglkeaaaXLearnQlawsszRecordS
import Derived.Test.YthjmdiggglkeaaaXLearnQlawstoIntS
/- The contract of a Go function. -/




namespace Go.Proofs.Ythjmdiggglkeaaa.Q
open Go.RowKit Go.Proofs.YthjmdiggglkeaaaW.PrintWords Go.Proofs.YthjmdiggglkeaaaW.PrintLast Go.Proofs.YthjmdiggglkeaaaW.PrintMore
attribute [local go_sem] max2_int min2_int max_two min_two max_three min_three max_four min_four   -- for this text's walks alone
set_option linter.unusedVariables false
set_option linter.unusedSimpArgs false

/-! ### laws_toSelf: function 22 -/
def laws_toSelf.f (k:Nat) (b:Int) (c:Int) (d:Int) (e:List (S134)) (g:List (S136)) (h:List Int) (i:List (S57)):Option (Int×Int×Int×(List (S93))×(List (S102))×List Int×(List (S61))):=(laws_toNet.f k d e g).bind fun a=> ((laws_toIntS.f k h).bind fun j=> ((laws_toRecordS.f k i).bind fun l=> (some (b,c,a.1,a.2.1,a.2.2,j,l))))
theorem laws_toSelf.mono:∀a0 a1 a2 a3 a4 a5 a6 k,LeO (laws_toSelf.f k a0 a1 a2 a3 a4 a5 a6) (laws_toSelf.f (k+1) a0 a1 a2 a3 a4 a5 a6):=by
 intro a0 a1 a2 a3 a4 a5 a6 k
 unfold laws_toSelf.f
 with_reducible repeat' (first | apply laws_toIntS.mono | apply laws_toNet.mono | apply laws_toRecordS.mono | exact LeO.refl _ | exact LeO.none _ | refine LeO.ite ?_ ?_ | refine LeO.bind ?_ (fun _=> ?_))
set_option maxHeartbeats 8000000 in
set_option maxRecDepth 100000 in
theorem laws_toSelf.calls (k:Nat) (Aj:Int) (Ak:Int) (Am:Int) (An:Option Addr) (Ao:Nat) (Ad:List (S134)) (Ap:Option Addr) (Aq:Nat) (Ae:List (S136)) (Ar:Option Addr) (As:Nat) (Af:List Int) (At:Option Addr) (Au:Nat) (Ag:List (S57)) (r1:Int) (r2:Int) (r3:Int) (r4:List (S93)) (r5:List (S102)) (r6:List Int) (r7:List (S61)) (w:World) (hr0_3:Kd.C k134 w An Ad.length Ad) (hc0_3:Ad.length≤Ao) (hr0_4:Kd.C k136 w Ap Ae.length Ae) (hc0_4:Ae.length≤Aq) (hr0_5:Kd.C (Kd.int .i64) w Ar Af.length Af) (hc0_5:Af.length≤As) (hr0_6:Kd.C k57 w At Ag.length Ag) (hc0_6:Ag.length≤Au) (h:laws_toSelf.f k Aj Ak Am Ad Ae Af Ag=some (r1,r2,r3,r4,r5,r6,r7)):
  Calls Try.prog 22 #[.agg #[.int .i64 Aj,.int .i64 Ak,.int .i64 Am,.slice An Ad.length Ao,.slice Ap Ae.length Aq,.slice Ar Af.length As,.slice At Ag.length Au]] w fun e w'=> ∃v3_ v4_ v5_ v6_:Value,e=.returned (.agg #[.int .i64 r1,.int .i64 r2,.int .i64 r3,v3_,v4_,v5_,v6_])∧Kd.R k93 93 w' w.heap.size (fun _=> True) v3_ r4∧Kd.R k102 102 w' w.heap.size (fun _=> True) v4_ r5∧Kd.R (Kd.int .i64) 3 w' w.heap.size (fun _=> True) v5_ r6∧Kd.S k61 61 w' w.heap.size (fun _=> True) v6_ r7∧Below w.heap.size w w':=by
 have hu38:=Try.underlying38;have hu43:=Try.underlying43;have hu25:=Try.underlying25;have hu31:=Try.underlying31;have Bh:=ak hr0_3;have Bi:=ak hc0_3;clear hr0_3 hc0_3;have Bj:=ak hr0_4;have Bk:=ak hc0_4;clear hr0_4 hc0_4;have Bl:=ak hr0_5;have Bm:=ak hc0_5;clear hr0_5 hc0_5;have Bn:=ak hr0_6;have Bo:=ak hc0_6;clear hr0_6 hc0_6;have HB:=ak (Below.refl w.heap.size w);have H:=h
 clear h;unfold laws_toSelf.f at H;replace H:=bsi H;obtain ⟨⟨Av,Aw,Ax⟩,A20,H⟩:=H
 (try dsimp only at H)
 have A2:=ak A20;clear A20;replace H:=bsi H;obtain ⟨Be,A30,H⟩:=H
 (try dsimp only at H)
 have A3:=ak A30;clear A30;replace H:=bsi H;obtain ⟨Bg,A40,H⟩:=H
 (try dsimp only at H)
 have A4:=ak A40;clear A40
 simp only [Option.some.injEq,Prod.mk.injEq] at H
 obtain ⟨rfl,rfl,rfl,rfl,rfl,rfl,rfl⟩:=H
 go_enter Try.func22,Try.ntmps22
 go_wp2_with (first | ((with_reducible refine gate_dst (N:=1) rfl ?_);refine box_q 1 #[.int .i64 Aj,.int .i64 Ak,.int .i64 Am,.slice An Ad.length Ao,.slice Ap Ae.length Aq,.slice Ar Af.length As,.slice At Ag.length Au] 38 ?_;intro Fy hg w5 hbox hb;have Ab:=ak (hbox);have Fz:=gs_ HB hg;replace HB:=hB_ HB hb;clear hb hbox hg) | ((with_reducible refine gate_dst (N:=2) rfl ?_);refine box_q 2 #[.int .i64 0,.int .i64 0,.int .i64 0,.slice none 0 0,.slice none 0 0,.slice none 0 0,.slice none 0 0] 43 ?_;intro Bp hg w6 hbox hb;have Ac:=ak (hbox);have Ga:=gs_ HB hg;replace HB:=hB_ HB hb;have Ay:=nb_ Ab hg;have Az:=nB_ Ab hg;replace Ab:=bb_ Ab hb;clear hb hbox hg) | ((with_reducible refine gate_dst (N:=3) rfl ?_);refine box_q 3 #[.int .i64 0,.int .i64 0,.int .i64 0,.slice none 0 0,.slice none 0 0,.slice none 0 0,.slice none 0 0] 43 ?_;intro Gb hg w7 hbox hb;have Aa:=ak (hbox);have Gc:=gs_ HB hg;replace HB:=hB_ HB hb;have Ba:=nb_ Ab hg;have Bb:=nB_ Ab hg;replace Ab:=bb_ Ab hb;have Bc:=nb_ Ac hg;have Bd:=nB_ Ac hg;replace Ac:=bb_ Ac hb;clear hb hbox hg;have Gf:=Ay.out;have Gg:=Az.out;have Gh:=Ba.out;have Gi:=Bb.out;obtain ⟨Bq,Br,Bs,Bt,Bu,Bv,Bw,Bx,By,Bz,Ca,Cb,Cc,Cd⟩:=cf7_ Ab;have Gd:=Bd.out;have Ge:=Bc.out;obtain ⟨Ce,Cf,Cg,Ch,Ci,Cj,Ck,Cl,Cm,Cn,Co,Cp,Cq,Cr⟩:=cf7_ Aa) | ((with_reducible refine gC_ 17 ?_);refine gL_ 12 Try.func17 #[.agg #[.int .i64 Am,.slice An Ad.length Ao,.slice Ap Ae.length Aq]] ?_;(with_reducible refine (laws_toNet.calls k Am _ _ Ad _ _ Ae Av Aw Ax _ ?_ ?_ ?_ ?_ A2.out).mono ?_);exact Kd.C_below Bh.out (bw_q HB);exact Bi.out;exact Kd.C_below Bj.out (bw_q HB);exact Bk.out;rintro e w13 ⟨v312,v315,rfl,ho0,ho1,hb⟩;refine ⟨_,rfl,?_⟩;have hs_v312:(v312:Value).oneCell'=true:=(by first | (have h_:=Kd.R_slice ho0;obtain ⟨A_,c_,e_⟩:=h_;simp [e_,Value.oneCell']) | (have h_:=Kd.S_slice ho0;obtain ⟨A_,c_,e_⟩:=h_;simp [e_,Value.oneCell']) | (have h_:=Kd.N_slice ho0;obtain ⟨A_,c_,e_⟩:=h_;simp [e_,Value.oneCell']) | (have h_:=Kd.V_slice ho0;obtain ⟨A_,c_,e_⟩:=h_;simp [e_,Value.oneCell']));have hst_v312:=fun (w_:World) (a_:Addr) m_=> run_store Try.prog w_ a_ v312 m_ hs_v312;have hs_v315:(v315:Value).oneCell'=true:=(by first | (have h_:=Kd.R_slice ho1;obtain ⟨A_,c_,e_⟩:=h_;simp [e_,Value.oneCell']) | (have h_:=Kd.S_slice ho1;obtain ⟨A_,c_,e_⟩:=h_;simp [e_,Value.oneCell']) | (have h_:=Kd.N_slice ho1;obtain ⟨A_,c_,e_⟩:=h_;simp [e_,Value.oneCell']) | (have h_:=Kd.V_slice ho1;obtain ⟨A_,c_,e_⟩:=h_;simp [e_,Value.oneCell']));have hst_v315:=fun (w_:World) (a_:Addr) m_=> run_store Try.prog w_ a_ v315 m_ hs_v315;have Ah:=ak (Kd.R_lower ho0 (below_size (bw_q HB)));have Ai:=ak (Kd.R_lower ho1 (below_size (bw_q HB)));replace Ab:=bF_ Ab hb;replace Ac:=bF_ Ac hb;replace Aa:=bB_ #[.int .i64 Aj,.int .i64 Ak,.int .i64 0,.slice none 0 0,.slice none 0 0,.slice none 0 0,.slice none 0 0] Aa hb;replace HB:=hB_ HB hb;(try clear ho0);(try clear ho1);obtain ⟨Cs,Ct,Cu,Cv,Cw,Cx,Cy,Cz,Da,Db,Dc,Dd,De,Df⟩:=cf7_ Aa;obtain ⟨Ao15,co15,eo15⟩:=Kd.R_slice Ah.out;subst eo15;obtain ⟨Ao16,co16,eo16⟩:=Kd.R_slice Ai.out;subst eo16;obtain ⟨Dg,Dh,Di,Dj,Dk,Dl,Dm,Dn,Do,Dp,Dq,Dr,Ds,Dt⟩:=cf7_ Ab) | ((with_reducible refine gC_ 89 ?_);refine gL_ 16 Try.func89 #[.slice Ar Af.length As] ?_;(with_reducible refine (laws_toIntS.calls k _ _ Af Be _ ?_ ?_ A3.out).mono ?_);exact Kd.C_below Bl.out (bw_q HB);exact Bm.out;rintro e w18 ⟨v318,rfl,ho0,hb⟩;refine ⟨_,rfl,?_⟩;replace Ah:=ak (Kd.R_below (by exact (Kd.R_mono (rF_ (Kd.R_types Ah.out Aa.out (by decide))) (fun _ h_=> h_.1))) hb);replace Ai:=ak (Kd.R_below (by exact (Kd.R_mono (rF_ (Kd.R_types Ai.out Aa.out (by decide))) (fun _ h_=> h_.1))) hb);have Al:=ak (Kd.R_lower ho0 (below_size (bw_q HB)));replace Ab:=bF_ Ab hb;replace Ac:=bF_ Ac hb;replace Aa:=bB_ #[.int .i64 Aj,.int .i64 Ak,.int .i64 Av,.slice Ao15 Aw.length co15,.slice Ao16 Ax.length co16,.slice none 0 0,.slice none 0 0] Aa hb;replace HB:=hB_ HB hb;(try clear ho0);obtain ⟨Ao19,co19,eo19⟩:=Kd.R_slice Al.out;subst eo19;obtain ⟨Du,Dv,Dw,Dx,Dy,Dz,Ea,Eb,Ec,Ed,Ee,Ef,Eg,Eh⟩:=cf7_ Aa;obtain ⟨Ei,Ej,Ek,El,Em,En,Eo,Ep,Eq,Er,Es,Et,Eu,Ev⟩:=cf7_ Ab) | ((with_reducible refine gC_ 27 ?_);refine gL_ 20 Try.func27 #[.slice At Ag.length Au] ?_;(with_reducible refine (laws_toRecordS.calls k _ _ Ag Bg _ ?_ ?_ A4.out).mono ?_);exact Kd.C_below Bn.out (bw_q HB);exact Bo.out;rintro e w22 ⟨v321,rfl,ho0,hb⟩;refine ⟨_,rfl,?_⟩;replace Ah:=ak (Kd.R_below (by exact (Kd.R_mono (rF_ (Kd.R_types Ah.out Aa.out (by decide))) (fun _ h_=> h_.1))) hb);replace Ai:=ak (Kd.R_below (by exact (Kd.R_mono (rF_ (Kd.R_types Ai.out Aa.out (by decide))) (fun _ h_=> h_.1))) hb);replace Al:=ak (Kd.R_below (by exact (Kd.R_mono (rF_ (Kd.R_types Al.out Aa.out (by decide))) (fun _ h_=> h_.1))) hb);have Bf:=ak (Kd.S_lower ho0 (below_size (bw_q HB)));replace Ab:=bF_ Ab hb;replace Ac:=bF_ Ac hb;replace Aa:=bB_ #[.int .i64 Aj,.int .i64 Ak,.int .i64 Av,.slice Ao15 Aw.length co15,.slice Ao16 Ax.length co16,.slice Ao19 Be.length co19,.slice none 0 0] Aa hb;replace HB:=hB_ HB hb;(try clear ho0);obtain ⟨Ao23,co23,eo23⟩:=Kd.S_slice Bf.out;subst eo23;obtain ⟨Ew,Ex,Ey,Ez,Fa,Fb,Fc,Fd,Fe,Ff,Fg,Fh,Fi,Fj⟩:=cf7_ Aa;obtain ⟨Fk,Fl,Fm,Fn,Fo,Fp,Fq,Fr,Fs,Ft,Fu,Fv,Fw,Fx⟩:=cf7_ Ac))
 refine bodyPost_ret (results_cell_row rfl _ _ Bp 43 #[.int .i64 Aj,.int .i64 Ak,.int .i64 Av,.slice Ao15 Aw.length co15,.slice Ao16 Ax.length co16,.slice Ao19 Be.length co19,.slice Ao23 Bg.length co23] (0,0) _ rfl (bp_ Ac) Try.underlying43 rfl (by kernel_rfl)) rfl ?_
 exact ⟨_,_,_,_,er_q,by exact Kd.R_mono (rF_ (Kd.R_types (Kd.R_types Ah.out Aa.out (by decide)) Ac.out (by decide))) (fun _ hk=> trivial),by exact Kd.R_mono (rF_ (Kd.R_types (Kd.R_types Ai.out Aa.out (by decide)) Ac.out (by decide))) (fun _ hk=> trivial),by exact Kd.R_mono (rF_ (Kd.R_types (Kd.R_types Al.out Aa.out (by decide)) Ac.out (by decide))) (fun _ hk=> trivial),by exact Kd.S_mono (sF_ (Kd.S_types (Kd.S_types Bf.out Aa.out (by decide)) Ac.out (by decide))) (fun _ hk=> trivial),bw_q HB⟩

/-! ### spec_l01In: function 75 -/
def spec_l01In.f (a0:Int) (a1:Int) (a2:Int):Option (Bool):=if a0≥a1 then (some (decide (a0≤a2))) else (some false)
set_option maxHeartbeats 8000000 in
set_option maxRecDepth 100000 in
theorem spec_l01In.calls (a0:Int) (a1:Int) (a2:Int) (r:Bool) (w:World) (h:spec_l01In.f a0 a1 a2=some r):
  Calls Try.prog 75 #[.int .i64 a0,.int .i64 a1,.int .i64 a2] w fun e w'=> e=.returned (.bool r)∧Drawn0 w w':=by
 have H:=h
 clear h;unfold spec_l01In.f at H
 by_cases c4:a0≥a1
 ·rw [if_pos c4] at H;have Aa:=decide_eq_true c4
  clear c4;obtain rfl:=Option.some.inj H
  go_enter Try.func75,Try.ntmps75
  go_wp2
  go_ret
  exact ⟨rs_q,dr_q⟩
 ·rw [if_neg c4] at H;have Aa:=decide_eq_false c4
  clear c4;obtain rfl:=Option.some.inj H
  go_enter Try.func75,Try.ntmps75
  go_wp2
  go_ret
  exact ⟨rs_q,dr_q⟩

/-! ### spec_LinkOk: function 76 -/
def spec_LinkOk.f (a0:Int) (a:Int) (b:Int) (c:Int) (d:Int):Option (Bool):=(spec_l01In.f a0 1 6).bind fun e=> (if e=true then ((spec_l01In.f a 1 a0).bind fun g=> (if g=true then ((spec_l01In.f b 1 a0).bind fun h=> (if h=true then (if a<b then ((spec_l01In.f c 1 1000).bind fun i=> (if i=true then ((spec_l01In.f d 0 2).bind fun j=> (some j)) else (some false))) else (some false)) else (some false))) else (some false))) else (some false))
set_option maxHeartbeats 8000000 in
set_option maxRecDepth 100000 in
theorem spec_LinkOk.calls (a0:Int) (Aa:Int) (Ab:Int) (Ad:Int) (Ae:Int) (r:Bool) (w:World) (h:spec_LinkOk.f a0 Aa Ab Ad Ae=some r):
  Calls Try.prog 76 #[.int .i64 a0,.agg #[.int .i64 Aa,.int .i64 Ab,.int .i64 Ad,.int .i64 Ae]] w fun e w'=> e=.returned (.bool r)∧Below w.heap.size w w':=by
 have hu93:=Try.underlying93;have HB:=ak (Below.refl w.heap.size w);have H:=h
 clear h;unfold spec_LinkOk.f at H;replace H:=bsi H;obtain ⟨Ah,A30,H⟩:=H
 (try dsimp only at H)
 have A3:=ak A30;clear A30
 by_cases c4:Ah=true
 ·subst c4;rw [if_pos rfl] at H;replace H:=bsi H;obtain ⟨Ai,A50,H⟩:=H
  (try dsimp only at H)
  have A5:=ak A50;clear A50
  by_cases c6:Ai=true
  ·subst c6;rw [if_pos rfl] at H;replace H:=bsi H;obtain ⟨Aj,A70,H⟩:=H
   (try dsimp only at H)
   have A7:=ak A70;clear A70
   by_cases c8:Aj=true
   ·subst c8;rw [if_pos rfl] at H
    by_cases c9:Aa<Ab
    ·rw [if_pos c9] at H;have Ak:=decide_eq_true c9
     clear c9;replace H:=bsi H;obtain ⟨Al,A100,H⟩:=H
     (try dsimp only at H)
     have A10:=ak A100;clear A100
     by_cases c11:Al=true
     ·subst c11;rw [if_pos rfl] at H;replace H:=bsi H;obtain ⟨Am,A120,H⟩:=H
      (try dsimp only at H)
      have A12:=ak A120;clear A120;obtain rfl:=Option.some.inj H
      go_enter Try.func76,Try.ntmps76
      go_wp2_with (first | ((with_reducible refine gate_dst (N:=3) rfl ?_);refine box_q 3 #[.int .i64 Aa,.int .i64 Ab,.int .i64 Ad,.int .i64 Ae] 93 ?_;intro Af hg w13 hbox hb;have Ac:=ak (hbox);have Ag:=gs_ HB hg;replace HB:=hB_ HB hb;clear hb hbox hg) | ((with_reducible refine gC_ 75 ?_);refine gL_ 6 Try.func75 #[.int .i64 a0,.int .i64 1,.int .i64 6] ?_;(with_reducible refine (spec_l01In.calls a0 1 6 true _ A3.out).mono ?_);rintro e w' ⟨rfl,⟨nd,rfl⟩⟩;refine ⟨_,rfl,?_⟩;obtain ⟨An,Ao,Ap,Aq,Ar,As,At,Au⟩:=cf4_ Ac) | (go_at_call 75;(with_reducible refine (spec_l01In.calls Aa 1 a0 true _ A5.out).mono ?_);rintro e w' ⟨rfl,⟨nd,rfl⟩⟩) | (go_at_call 75;(with_reducible refine (spec_l01In.calls Ab 1 a0 true _ A7.out).mono ?_);rintro e w' ⟨rfl,⟨nd,rfl⟩⟩) | (go_at_call 75;(with_reducible refine (spec_l01In.calls Ad 1 1000 true _ A10.out).mono ?_);rintro e w' ⟨rfl,⟨nd,rfl⟩⟩) | (go_at_call 75;(with_reducible refine (spec_l01In.calls Ae 0 2 Am _ A12.out).mono ?_);rintro e w' ⟨rfl,⟨nd,rfl⟩⟩))
      go_ret
      exact ⟨er_q,bw_q HB⟩
     ·replace c11:=Bool.eq_false_iff.mpr c11;subst c11
      rw [if_neg (show ¬(false=true) by decide)] at H
      obtain rfl:=Option.some.inj H
      go_enter Try.func76,Try.ntmps76
      go_wp2_with (first | ((with_reducible refine gate_dst (N:=3) rfl ?_);refine box_q 3 #[.int .i64 Aa,.int .i64 Ab,.int .i64 Ad,.int .i64 Ae] 93 ?_;intro Af hg w15 hbox hb;have Ac:=ak (hbox);have Ag:=gs_ HB hg;replace HB:=hB_ HB hb;clear hb hbox hg) | ((with_reducible refine gC_ 75 ?_);refine gL_ 6 Try.func75 #[.int .i64 a0,.int .i64 1,.int .i64 6] ?_;(with_reducible refine (spec_l01In.calls a0 1 6 true _ A3.out).mono ?_);rintro e w' ⟨rfl,⟨nd,rfl⟩⟩;refine ⟨_,rfl,?_⟩;obtain ⟨Av,Aw,Ax,Ay,Az,Ba,Bb,Bc⟩:=cf4_ Ac) | (go_at_call 75;(with_reducible refine (spec_l01In.calls Aa 1 a0 true _ A5.out).mono ?_);rintro e w' ⟨rfl,⟨nd,rfl⟩⟩) | (go_at_call 75;(with_reducible refine (spec_l01In.calls Ab 1 a0 true _ A7.out).mono ?_);rintro e w' ⟨rfl,⟨nd,rfl⟩⟩) | (go_at_call 75;(with_reducible refine (spec_l01In.calls Ad 1 1000 false _ A10.out).mono ?_);rintro e w' ⟨rfl,⟨nd,rfl⟩⟩))
      go_ret
      exact ⟨er_q,bw_q HB⟩
    ·rw [if_neg c9] at H;have Ak:=decide_eq_false c9
     clear c9;obtain rfl:=Option.some.inj H
     go_enter Try.func76,Try.ntmps76
     go_wp2_with (first | ((with_reducible refine gate_dst (N:=3) rfl ?_);refine box_q 3 #[.int .i64 Aa,.int .i64 Ab,.int .i64 Ad,.int .i64 Ae] 93 ?_;intro Af hg w17 hbox hb;have Ac:=ak (hbox);have Ag:=gs_ HB hg;replace HB:=hB_ HB hb;clear hb hbox hg) | ((with_reducible refine gC_ 75 ?_);refine gL_ 6 Try.func75 #[.int .i64 a0,.int .i64 1,.int .i64 6] ?_;(with_reducible refine (spec_l01In.calls a0 1 6 true _ A3.out).mono ?_);rintro e w' ⟨rfl,⟨nd,rfl⟩⟩;refine ⟨_,rfl,?_⟩;obtain ⟨Bd,Be,Bf,Bg,Bh,Bi,Bj,Bk⟩:=cf4_ Ac) | (go_at_call 75;(with_reducible refine (spec_l01In.calls Aa 1 a0 true _ A5.out).mono ?_);rintro e w' ⟨rfl,⟨nd,rfl⟩⟩) | (go_at_call 75;(with_reducible refine (spec_l01In.calls Ab 1 a0 true _ A7.out).mono ?_);rintro e w' ⟨rfl,⟨nd,rfl⟩⟩))
     go_ret
     exact ⟨er_q,bw_q HB⟩
   ·replace c8:=Bool.eq_false_iff.mpr c8;subst c8
    rw [if_neg (show ¬(false=true) by decide)] at H
    obtain rfl:=Option.some.inj H
    go_enter Try.func76,Try.ntmps76
    go_wp2_with (first | ((with_reducible refine gate_dst (N:=3) rfl ?_);refine box_q 3 #[.int .i64 Aa,.int .i64 Ab,.int .i64 Ad,.int .i64 Ae] 93 ?_;intro Af hg w19 hbox hb;have Ac:=ak (hbox);have Ag:=gs_ HB hg;replace HB:=hB_ HB hb;clear hb hbox hg) | ((with_reducible refine gC_ 75 ?_);refine gL_ 6 Try.func75 #[.int .i64 a0,.int .i64 1,.int .i64 6] ?_;(with_reducible refine (spec_l01In.calls a0 1 6 true _ A3.out).mono ?_);rintro e w' ⟨rfl,⟨nd,rfl⟩⟩;refine ⟨_,rfl,?_⟩;obtain ⟨Bl,Bm,Bn,Bo,Bp,Bq,Br,Bs⟩:=cf4_ Ac) | (go_at_call 75;(with_reducible refine (spec_l01In.calls Aa 1 a0 true _ A5.out).mono ?_);rintro e w' ⟨rfl,⟨nd,rfl⟩⟩) | (go_at_call 75;(with_reducible refine (spec_l01In.calls Ab 1 a0 false _ A7.out).mono ?_);rintro e w' ⟨rfl,⟨nd,rfl⟩⟩))
    go_ret
    exact ⟨er_q,bw_q HB⟩
  ·replace c6:=Bool.eq_false_iff.mpr c6;subst c6
   rw [if_neg (show ¬(false=true) by decide)] at H
   obtain rfl:=Option.some.inj H
   go_enter Try.func76,Try.ntmps76
   go_wp2_with (first | ((with_reducible refine gate_dst (N:=3) rfl ?_);refine box_q 3 #[.int .i64 Aa,.int .i64 Ab,.int .i64 Ad,.int .i64 Ae] 93 ?_;intro Af hg w21 hbox hb;have Ac:=ak (hbox);have Ag:=gs_ HB hg;replace HB:=hB_ HB hb;clear hb hbox hg) | ((with_reducible refine gC_ 75 ?_);refine gL_ 6 Try.func75 #[.int .i64 a0,.int .i64 1,.int .i64 6] ?_;(with_reducible refine (spec_l01In.calls a0 1 6 true _ A3.out).mono ?_);rintro e w' ⟨rfl,⟨nd,rfl⟩⟩;refine ⟨_,rfl,?_⟩;obtain ⟨Bt,Bu,Bv,Bw,Bx,By,Bz,Ca⟩:=cf4_ Ac) | (go_at_call 75;(with_reducible refine (spec_l01In.calls Aa 1 a0 false _ A5.out).mono ?_);rintro e w' ⟨rfl,⟨nd,rfl⟩⟩))
   go_ret
   exact ⟨er_q,bw_q HB⟩
 ·replace c4:=Bool.eq_false_iff.mpr c4;subst c4
  rw [if_neg (show ¬(false=true) by decide)] at H
  obtain rfl:=Option.some.inj H
  go_enter Try.func76,Try.ntmps76
  go_wp2_with (first | ((with_reducible refine gate_dst (N:=3) rfl ?_);refine box_q 3 #[.int .i64 Aa,.int .i64 Ab,.int .i64 Ad,.int .i64 Ae] 93 ?_;intro Af hg w23 hbox hb;have Ac:=ak (hbox);have Ag:=gs_ HB hg;replace HB:=hB_ HB hb;clear hb hbox hg) | ((with_reducible refine gC_ 75 ?_);refine gL_ 6 Try.func75 #[.int .i64 a0,.int .i64 1,.int .i64 6] ?_;(with_reducible refine (spec_l01In.calls a0 1 6 false _ A3.out).mono ?_);rintro e w' ⟨rfl,⟨nd,rfl⟩⟩;refine ⟨_,rfl,?_⟩))
  go_ret
  exact ⟨er_q,bw_q HB⟩

/-! ### spec_l03Ahead: function 77 -/
def spec_l03Ahead.f (a:Int) (b:Int) (h:Int) (e:Int) (c:Int) (d:Int) (i:Int) (g:Int):Option (Bool):=if a<c then (some true) else (if a=c then (if b<d then (some true) else (if b=d then (some (decide (e<g))) else (some false))) else (some false))
set_option maxHeartbeats 8000000 in
set_option maxRecDepth 100000 in
theorem spec_l03Ahead.calls (Ae:Int) (Af:Int) (Ai:Int) (Aj:Int) (Ag:Int) (Ah:Int) (Ak:Int) (Al:Int) (r:Bool) (w:World) (h:spec_l03Ahead.f Ae Af Ai Aj Ag Ah Ak Al=some r):
  Calls Try.prog 77 #[.agg #[.int .i64 Ae,.int .i64 Af,.int .i64 Ai,.int .i64 Aj],.agg #[.int .i64 Ag,.int .i64 Ah,.int .i64 Ak,.int .i64 Al]] w fun e w'=> e=.returned (.bool r)∧Below w.heap.size w w':=by
 have hu93:=Try.underlying93;have HB:=ak (Below.refl w.heap.size w);have H:=h
 clear h;unfold spec_l03Ahead.f at H
 by_cases c3:Ae<Ag
 ·rw [if_pos c3] at H;have At:=decide_eq_true c3
  clear c3;obtain rfl:=Option.some.inj H
  go_enter Try.func77,Try.ntmps77
  go_wp2_with (first | ((with_reducible refine gate_dst (N:=2) rfl ?_);refine box_q 2 #[.int .i64 Ae,.int .i64 Af,.int .i64 Ai,.int .i64 Aj] 93 ?_;intro Am hg w4 hbox hb;have Aa:=ak (hbox);have An:=gs_ HB hg;replace HB:=hB_ HB hb;clear hb hbox hg) | ((with_reducible refine gate_dst (N:=3) rfl ?_);refine box_q 3 #[.int .i64 Ag,.int .i64 Ah,.int .i64 Ak,.int .i64 Al] 93 ?_;intro Ao hg w5 hbox hb;have Ad:=ak (hbox);have Ap:=gs_ HB hg;replace HB:=hB_ HB hb;have Ab:=nb_ Aa hg;have Ac:=nB_ Aa hg;replace Aa:=bb_ Aa hb;clear hb hbox hg;have Eg:=Ab.out;have Eh:=Ac.out;obtain ⟨Di,Dj,Dk,Dl,Dm,Dn,Do,Dp⟩:=cf4_ Aa;obtain ⟨Dq,Dr,Ds,Dt,Du,Dv,Dw,Dx⟩:=cf4_ Ad))
  go_ret
  exact ⟨er_q,bw_q HB⟩
 ·rw [if_neg c3] at H;have At:=decide_eq_false c3;clear c3
  by_cases c9:Ae=Ag
  ·rw [if_pos c9] at H;have Au:=bqi c9;have Av:=bnf c9;clear c9
   by_cases c10:Af<Ah
   ·rw [if_pos c10] at H;have Aq:=decide_eq_true c10
    clear c10;obtain rfl:=Option.some.inj H
    go_enter Try.func77,Try.ntmps77
    go_wp2_with (first | ((with_reducible refine gate_dst (N:=2) rfl ?_);refine box_q 2 #[.int .i64 Ae,.int .i64 Af,.int .i64 Ai,.int .i64 Aj] 93 ?_;intro Am hg w11 hbox hb;have Aa:=ak (hbox);have An:=gs_ HB hg;replace HB:=hB_ HB hb;clear hb hbox hg) | ((with_reducible refine gate_dst (N:=3) rfl ?_);refine box_q 3 #[.int .i64 Ag,.int .i64 Ah,.int .i64 Ak,.int .i64 Al] 93 ?_;intro Ao hg w12 hbox hb;have Ad:=ak (hbox);have Ap:=gs_ HB hg;replace HB:=hB_ HB hb;have Ab:=nb_ Aa hg;have Ac:=nB_ Aa hg;replace Aa:=bb_ Aa hb;clear hb hbox hg;have Dy:=Ab.out;have Dz:=Ac.out;obtain ⟨Aw,Ax,Ay,Az,Ba,Bb,Bc,Bd⟩:=cf4_ Aa;obtain ⟨Be,Bf,Bg,Bh,Bi,Bj,Bk,Bl⟩:=cf4_ Ad))
    go_ret
    exact ⟨er_q,bw_q HB⟩
   ·rw [if_neg c10] at H;have Aq:=decide_eq_false c10;clear c10
    by_cases c16:Af=Ah
    ·rw [if_pos c16] at H;have Ar:=bqi c16;have As:=bnf c16
     clear c16;obtain rfl:=Option.some.inj H
     go_enter Try.func77,Try.ntmps77
     go_wp2_with (first | ((with_reducible refine gate_dst (N:=2) rfl ?_);refine box_q 2 #[.int .i64 Ae,.int .i64 Af,.int .i64 Ai,.int .i64 Aj] 93 ?_;intro Am hg w17 hbox hb;have Aa:=ak (hbox);have An:=gs_ HB hg;replace HB:=hB_ HB hb;clear hb hbox hg) | ((with_reducible refine gate_dst (N:=3) rfl ?_);refine box_q 3 #[.int .i64 Ag,.int .i64 Ah,.int .i64 Ak,.int .i64 Al] 93 ?_;intro Ao hg w18 hbox hb;have Ad:=ak (hbox);have Ap:=gs_ HB hg;replace HB:=hB_ HB hb;have Ab:=nb_ Aa hg;have Ac:=nB_ Aa hg;replace Aa:=bb_ Aa hb;clear hb hbox hg;have Ea:=Ab.out;have Eb:=Ac.out;obtain ⟨Bm,Bn,Bo,Bp,Bq,Br,Bs,Bt⟩:=cf4_ Aa;obtain ⟨Bu,Bv,Bw,Bx,By,Bz,Ca,Cb⟩:=cf4_ Ad))
     go_ret
     exact ⟨er_q,bw_q HB⟩
    ·rw [if_neg c16] at H;have Ar:=bqf c16;have As:=bni c16;obtain rfl:=Option.some.inj H
     go_enter Try.func77,Try.ntmps77
     go_wp2_with (first | ((with_reducible refine gate_dst (N:=2) rfl ?_);refine box_q 2 #[.int .i64 Ae,.int .i64 Af,.int .i64 Ai,.int .i64 Aj] 93 ?_;intro Am hg w22 hbox hb;have Aa:=ak (hbox);have An:=gs_ HB hg;replace HB:=hB_ HB hb;clear hb hbox hg) | ((with_reducible refine gate_dst (N:=3) rfl ?_);refine box_q 3 #[.int .i64 Ag,.int .i64 Ah,.int .i64 Ak,.int .i64 Al] 93 ?_;intro Ao hg w23 hbox hb;have Ad:=ak (hbox);have Ap:=gs_ HB hg;replace HB:=hB_ HB hb;have Ab:=nb_ Aa hg;have Ac:=nB_ Aa hg;replace Aa:=bb_ Aa hb;clear hb hbox hg;have Ec:=Ab.out;have Ed:=Ac.out;obtain ⟨Cc,Cd,Ce,Cf,Cg,Ch,Ci,Cj⟩:=cf4_ Aa;obtain ⟨Ck,Cl,Cm,Cn,Co,Cp,Cq,Cr⟩:=cf4_ Ad))
     go_ret
     exact ⟨er_q,bw_q HB⟩
  ·rw [if_neg c9] at H;have Au:=bqf c9;have Av:=bni c9;obtain rfl:=Option.some.inj H
   go_enter Try.func77,Try.ntmps77
   go_wp2_with (first | ((with_reducible refine gate_dst (N:=2) rfl ?_);refine box_q 2 #[.int .i64 Ae,.int .i64 Af,.int .i64 Ai,.int .i64 Aj] 93 ?_;intro Am hg w27 hbox hb;have Aa:=ak (hbox);have An:=gs_ HB hg;replace HB:=hB_ HB hb;clear hb hbox hg) | ((with_reducible refine gate_dst (N:=3) rfl ?_);refine box_q 3 #[.int .i64 Ag,.int .i64 Ah,.int .i64 Ak,.int .i64 Al] 93 ?_;intro Ao hg w28 hbox hb;have Ad:=ak (hbox);have Ap:=gs_ HB hg;replace HB:=hB_ HB hb;have Ab:=nb_ Aa hg;have Ac:=nB_ Aa hg;replace Aa:=bb_ Aa hb;clear hb hbox hg;have Ee:=Ab.out;have Ef:=Ac.out;obtain ⟨Cs,Ct,Cu,Cv,Cw,Cx,Cy,Cz⟩:=cf4_ Aa;obtain ⟨Da,Db,Dc,Dd,De,Df,Dg,Dh⟩:=cf4_ Ad))
   go_ret
   exact ⟨er_q,bw_q HB⟩

/-! ### spec_l03Thing: function 78 -/
def spec_l03Thing.f (c:Int) (a:Int) (e:Int) (g:Bool) (d:Int) (b:Int) (h:Int) (i:Bool):Option (Bool):=if a<b then (some true) else (if a=b then (some (decide (c<d))) else (some false))
set_option maxHeartbeats 8000000 in
set_option maxRecDepth 100000 in
theorem spec_l03Thing.calls (Ag:Int) (Ad:Int) (Ah:Int) (Ai:Bool) (Aj:Int) (Ae:Int) (Ak:Int) (Al:Bool) (r:Bool) (w:World) (h:spec_l03Thing.f Ag Ad Ah Ai Aj Ae Ak Al=some r):
  Calls Try.prog 78 #[.agg #[.int .i64 Ag,.int .i64 Ad,.int .i64 Ah,.bool Ai],.agg #[.int .i64 Aj,.int .i64 Ae,.int .i64 Ak,.bool Al]] w fun e w'=> e=.returned (.bool r)∧Below w.heap.size w w':=by
 have hu102:=Try.underlying102;have HB:=ak (Below.refl w.heap.size w);have H:=h
 clear h;unfold spec_l03Thing.f at H
 by_cases c3:Ad<Ae
 ·rw [if_pos c3] at H;have Aq:=decide_eq_true c3
  clear c3;obtain rfl:=Option.some.inj H
  go_enter Try.func78,Try.ntmps78
  go_wp2_with (first | ((with_reducible refine gate_dst (N:=2) rfl ?_);refine box_q 2 #[.int .i64 Ag,.int .i64 Ad,.int .i64 Ah,.bool Ai] 102 ?_;intro Am hg w4 hbox hb;have Aa:=ak (hbox);have An:=gs_ HB hg;replace HB:=hB_ HB hb;clear hb hbox hg) | ((with_reducible refine gate_dst (N:=3) rfl ?_);refine box_q 3 #[.int .i64 Aj,.int .i64 Ae,.int .i64 Ak,.bool Al] 102 ?_;intro Ao hg w5 hbox hb;have Af:=ak (hbox);have Ap:=gs_ HB hg;replace HB:=hB_ HB hb;have Ab:=nb_ Aa hg;have Ac:=nB_ Aa hg;replace Aa:=bb_ Aa hb;clear hb hbox hg;have Ct:=Ab.out;have Cu:=Ac.out;obtain ⟨Bz,Ca,Cb,Cc,Cd,Ce,Cf,Cg⟩:=cf4_ Aa;obtain ⟨Ch,Ci,Cj,Ck,Cl,Cm,Cn,Co⟩:=cf4_ Af))
  go_ret
  exact ⟨er_q,bw_q HB⟩
 ·rw [if_neg c3] at H;have Aq:=decide_eq_false c3;clear c3
  by_cases c9:Ad=Ae
  ·rw [if_pos c9] at H;have Ar:=bqi c9;have As:=bnf c9
   clear c9;obtain rfl:=Option.some.inj H
   go_enter Try.func78,Try.ntmps78
   go_wp2_with (first | ((with_reducible refine gate_dst (N:=2) rfl ?_);refine box_q 2 #[.int .i64 Ag,.int .i64 Ad,.int .i64 Ah,.bool Ai] 102 ?_;intro Am hg w10 hbox hb;have Aa:=ak (hbox);have An:=gs_ HB hg;replace HB:=hB_ HB hb;clear hb hbox hg) | ((with_reducible refine gate_dst (N:=3) rfl ?_);refine box_q 3 #[.int .i64 Aj,.int .i64 Ae,.int .i64 Ak,.bool Al] 102 ?_;intro Ao hg w11 hbox hb;have Af:=ak (hbox);have Ap:=gs_ HB hg;replace HB:=hB_ HB hb;have Ab:=nb_ Aa hg;have Ac:=nB_ Aa hg;replace Aa:=bb_ Aa hb;clear hb hbox hg;have Cp:=Ab.out;have Cq:=Ac.out;obtain ⟨At,Au,Av,Aw,Ax,Ay,Az,Ba⟩:=cf4_ Aa;obtain ⟨Bb,Bc,Bd,Be,Bf,Bg,Bh,Bi⟩:=cf4_ Af))
   go_ret
   exact ⟨er_q,bw_q HB⟩
  ·rw [if_neg c9] at H;have Ar:=bqf c9;have As:=bni c9;obtain rfl:=Option.some.inj H
   go_enter Try.func78,Try.ntmps78
   go_wp2_with (first | ((with_reducible refine gate_dst (N:=2) rfl ?_);refine box_q 2 #[.int .i64 Ag,.int .i64 Ad,.int .i64 Ah,.bool Ai] 102 ?_;intro Am hg w15 hbox hb;have Aa:=ak (hbox);have An:=gs_ HB hg;replace HB:=hB_ HB hb;clear hb hbox hg) | ((with_reducible refine gate_dst (N:=3) rfl ?_);refine box_q 3 #[.int .i64 Aj,.int .i64 Ae,.int .i64 Ak,.bool Al] 102 ?_;intro Ao hg w16 hbox hb;have Af:=ak (hbox);have Ap:=gs_ HB hg;replace HB:=hB_ HB hb;have Ab:=nb_ Aa hg;have Ac:=nB_ Aa hg;replace Aa:=bb_ Aa hb;clear hb hbox hg;have Cr:=Ab.out;have Cs:=Ac.out;obtain ⟨Bj,Bk,Bl,Bm,Bn,Bo,Bp,Bq⟩:=cf4_ Aa;obtain ⟨Br,Bs,Bt,Bu,Bv,Bw,Bx,By⟩:=cf4_ Af))
   go_ret
   exact ⟨er_q,bw_q HB⟩

/-! ### spec_NetOk: function 16 -/
mutual
def spec_NetOk.j0:Nat→Bool→Int→List (S93)→List (S102)→Option (Bool)
 | 0,_,_,_,_=> none
 | k+1,d,a,b,c=> if d=true then (some false) else (spec_NetOk.l0 k 0 a b c)
def spec_NetOk.l0:Nat→Int→Int→List (S93)→List (S102)→Option (Bool)
 | 0,_,_,_,_=> none
 | k+1,b,c,a,d=> if b<(a.length:Int) then (if 0≤b then ((spec_LinkOk.f c ((rd_T93 a b).f0) ((rd_T93 a b).f1) ((rd_T93 a b).f2) ((rd_T93 a b).f3)).bind fun e=> (if e=true then (if b > 0 then (if 0≤(wrap64 (b-1)) then (if (wrap64 (b-1))<(a.length:Int) then ((spec_l03Ahead.f ((rd_T93 a (wrap64 (b-1))).f0) ((rd_T93 a (wrap64 (b-1))).f1) ((rd_T93 a (wrap64 (b-1))).f2) ((rd_T93 a (wrap64 (b-1))).f3) ((rd_T93 a b).f0) ((rd_T93 a b).f1) ((rd_T93 a b).f2) ((rd_T93 a b).f3)).bind fun g=> (if g=true then (spec_NetOk.l0 k (wrap64 (b+1)) c a d) else (some false))) else (none)) else (none)) else (spec_NetOk.l0 k (wrap64 (b+1)) c a d)) else (some false))) else (none)) else (spec_NetOk.l1 k 0 c a d)
def spec_NetOk.l1:Nat→Int→Int→List (S93)→List (S102)→Option (Bool)
 | 0,_,_,_,_=> none
 | k+1,b,c,d,a=> if b<(a.length:Int) then (if 0≤b then ((spec_l01In.f ((rd_T102 a b).f0) 1 c).bind fun e=> (if e=true then ((spec_l01In.f ((rd_T102 a b).f1) 1 9).bind fun g=> (if g=true then ((spec_l01In.f ((rd_T102 a b).f2) 1 1000).bind fun h=> (if h=true then (if b > 0 then (if 0≤(wrap64 (b-1)) then (if (wrap64 (b-1))<(a.length:Int) then ((spec_l03Thing.f ((rd_T102 a (wrap64 (b-1))).f0) ((rd_T102 a (wrap64 (b-1))).f1) ((rd_T102 a (wrap64 (b-1))).f2) ((rd_T102 a (wrap64 (b-1))).f3) ((rd_T102 a b).f0) ((rd_T102 a b).f1) ((rd_T102 a b).f2) ((rd_T102 a b).f3)).bind fun i=> (if i=true then (spec_NetOk.l1 k (wrap64 (b+1)) c d a) else (some false))) else (none)) else (none)) else (spec_NetOk.l1 k (wrap64 (b+1)) c d a)) else (some false))) else (some false))) else (some false))) else (none)) else (some true)
end
def spec_NetOk.f (k:Nat) (a:Int) (b:List (S93)) (c:List (S102)):Option (Bool):=(spec_l01In.f a 1 6).bind fun d=> (if d=true then (if (b.length:Int) > 12 then (spec_NetOk.j0 k true a b c) else (spec_NetOk.j0 k (decide ((c.length:Int) > 4)) a b c)) else (spec_NetOk.j0 k true a b c))
theorem spec_NetOk.mono_l:∀k,(∀y0 y1 y2 y3,LeO (spec_NetOk.j0 k y0 y1 y2 y3) (spec_NetOk.j0 (k+1) y0 y1 y2 y3))∧(∀y0 y1 y2 y3,LeO (spec_NetOk.l0 k y0 y1 y2 y3) (spec_NetOk.l0 (k+1) y0 y1 y2 y3))∧(∀y0 y1 y2 y3,LeO (spec_NetOk.l1 k y0 y1 y2 y3) (spec_NetOk.l1 (k+1) y0 y1 y2 y3))
 | 0=> ⟨fun _ _ _ _ r h=> by simp [spec_NetOk.j0] at h,fun _ _ _ _ r h=> by simp [spec_NetOk.l0] at h,fun _ _ _ _ r h=> by simp [spec_NetOk.l1] at h⟩
 | k+1=> by
  obtain ⟨ih0,ih1,ih2⟩:=spec_NetOk.mono_l k
  refine ⟨?_,?_,?_⟩
  ·intro y0 y1 y2 y3
   unfold spec_NetOk.j0
   with_reducible repeat' (first | apply ih0 | apply ih1 | apply ih2 | exact LeO.refl _ | exact LeO.none _ | refine LeO.ite ?_ ?_ | refine LeO.bind ?_ (fun _=> ?_))
  ·intro y0 y1 y2 y3
   unfold spec_NetOk.l0
   with_reducible repeat' (first | apply ih0 | apply ih1 | apply ih2 | exact LeO.refl _ | exact LeO.none _ | refine LeO.ite ?_ ?_ | refine LeO.bind ?_ (fun _=> ?_))
  ·intro y0 y1 y2 y3
   unfold spec_NetOk.l1
   with_reducible repeat' (first | apply ih0 | apply ih1 | apply ih2 | exact LeO.refl _ | exact LeO.none _ | refine LeO.ite ?_ ?_ | refine LeO.bind ?_ (fun _=> ?_))
theorem spec_NetOk.mono:∀a0 a1 a2 k,LeO (spec_NetOk.f k a0 a1 a2) (spec_NetOk.f (k+1) a0 a1 a2):=by
 intro a0 a1 a2 k
 obtain ⟨ih0,ih1,ih2⟩:=spec_NetOk.mono_l k
 unfold spec_NetOk.f
 with_reducible repeat' (first | apply ih0 | apply ih1 | apply ih2 | exact LeO.refl _ | exact LeO.none _ | refine LeO.ite ?_ ?_ | refine LeO.bind ?_ (fun _=> ?_))
def spec_NetOk.T6:Bool×List (List Nat×List Nat):=(true,[([],[]),([0],[0]),([],[]),([2],[2]),([],[]),([3,4],[3,4]),([5],[5]),([1,6],[1,6]),([7],[7]),([8,7],[8]),([9],[9]),([10,9],[9,10]),([11,9,9],[9,11]),([12],[12]),([13,12],[12,13]),([12],[12]),([15,12],[12,15]),([14,16,12],[12,14,16]),([17,12],[12,17]),([12],[12]),([19,12],[12,19]),([12],[12]),([20,21,12],[12,20,21]),([22,12],[12,22]),([18,23,12,12],[12,18,23]),([24,12],[12,24]),([12,25,9],[9,12,25]),([9,26],[9,26])])
def spec_NetOk.B6:List Nat:=[0,1,0,4,0,28,60,127,255,511,1023,2047,4095,8191,16383,8191,40959,131071,262143,8191,532479,8191,3678207,7872511,16777215,33554431,67108863,134217727]
theorem spec_NetOk.tab6:rtab .any (opsOf Try.f16 6)=spec_NetOk.T6:=by kernel_rfl
theorem spec_NetOk.bits6:waitsOk spec_NetOk.T6.2 spec_NetOk.B6=true:=by kernel_rfl
def spec_NetOk.T12:Bool×List (List Nat×List Nat):=(true,[([],[]),([0],[0]),([],[]),([2],[2]),([1,3],[1,3]),([4],[4]),([5,4],[5]),([6],[6]),([7,6],[6,7]),([8,6,6],[6,8]),([9,6],[6,9]),([6,10],[6,10]),([11,9],[11]),([12],[12]),([13,12],[12,13]),([14,12,12],[12,14]),([15,12],[12,15]),([12,16],[12,16]),([17,15],[17]),([18],[18]),([19,18],[18,19]),([20,18,18],[18,20]),([21],[21]),([22,21],[21,22]),([21],[21]),([24,21],[21,24]),([23,25,21],[21,23,25]),([26,21],[21,26]),([21],[21]),([27,28,21,21],[21,27,28]),([29,21],[21,29]),([21,30,18],[18,21,30]),([18,31],[18,31])])
def spec_NetOk.B12:List Nat:=[0,1,0,4,15,31,63,127,255,511,1023,2047,4095,8191,16383,32767,65535,131071,262143,524287,1048575,2097151,4194303,8388607,4194303,20971519,67108863,134217727,4194303,536870911,1073741823,2147483647,4294967295]
theorem spec_NetOk.tab12:rtab .any (opsOf Try.f16 12)=spec_NetOk.T12:=by kernel_rfl
theorem spec_NetOk.bits12:waitsOk spec_NetOk.T12.2 spec_NetOk.B12=true:=by kernel_rfl
set_option maxHeartbeats 8000000 in
set_option maxRecDepth 100000 in
theorem spec_NetOk.calls (k:Nat) (Af:Int) (Ao:Option Addr) (Am:Nat) (Ab:List (S93)) (Ar:Option Addr) (An:Nat) (Aa:List (S102)) (r:Bool) (w:World) (hr0_1:Kd.C k93 w Ao Ab.length Ab) (hc0_1:Ab.length≤Am) (hr0_2:Kd.C k102 w Ar Aa.length Aa) (hc0_2:Aa.length≤An) (h:spec_NetOk.f k Af Ab Aa=some r):
  Calls Try.prog 16 #[.agg #[.int .i64 Af,.slice Ao Ab.length Am,.slice Ar Aa.length An]] w fun e w'=> e=.returned (.bool r)∧Below w.heap.size w w':=by
 have hu31:=Try.underlying31;have hu93:=Try.underlying93;have hu102:=Try.underlying102;have Ch:=ak hr0_1;have Em:=ak hc0_1;clear hr0_1 hc0_1;have Ci:=ak hr0_2;have En:=ak hc0_2;clear hr0_2 hc0_2;have HB:=ak (Below.refl w.heap.size w);have H:=h
 clear h;unfold spec_NetOk.f at H;have Cr:=ak H;clear H
 go_enter Try.func16,Try.ntmps16
 go_upto_region 1 with (first | ((with_reducible refine gate_dst (N:=1) rfl ?_);(try (refine gate_guard (by rfl) ?_;dsimp only));refine box_q 1 #[.int .i64 Af,.slice Ao Ab.length Am,.slice Ar Aa.length An] 31 ?_;intro Ap hg w3 hbox hb;have Ac:=ak (hbox);have Eo:=gs_ HB hg;replace HB:=hB_ HB hb;clear hb hbox hg))
 (try simp only [Act.put,List.setIfInBounds_toArray,List.set_cons_zero,List.set_cons_succ])
 go_cut [21] (fun v21 wc=> ∃(kq:Nat) (Be:Bool),v21=.bool Be∧Aside0 (spec_NetOk.j0 kq Be Af Ab Aa=some r)∧Aside0 (kq≤k)∧Aside0 (wc.heap[Ap]? =some (.cells #[.int .i64 Af,(.slice Ao Ab.length Am),(.slice Ar Aa.length An)] 31 (0,0)))∧Aside0 (Below w.heap.size w wc))
 case first=>
  have H:=Cr.out;clear Cr;replace H:=bsi H;obtain ⟨Cz,A40,H⟩:=H
  (try dsimp only at H)
  have A4:=ak A40;clear A40
  by_cases c5:Cz=true
  ·subst c5;rw [if_pos rfl] at H
   by_cases c6:(Ab.length:Int) > 12
   ·rw [if_pos c6] at H;have As:=decide_eq_true c6
    have At:decide (12<Ab.length)=true:=decide_eq_true (by omega)
    clear c6
    (first | rw [As] | rw [At] | (simp only [i64_w,i32_w];first | rw [As] | rw [At]) | skip)
    have H':=ak H;clear H;obtain ⟨Bn,Bo,Bp,Bq,Br,Bs⟩:=cf3_ Ac
    go_wp2_with (first | ((with_reducible refine gC_ 75 ?_);refine gL_ 8 Try.func75 #[.int .i64 Af,.int .i64 1,.int .i64 6] ?_;(with_reducible refine (spec_l01In.calls Af 1 6 true _ A4.out).mono ?_);rintro e w' ⟨rfl,⟨nd,rfl⟩⟩;refine ⟨_,rfl,?_⟩))
    go_meet
    case rel=> exact ⟨_,(true),rs_q,H',⟨by first | omega | exact Nat.le_refl _⟩,⟨bk_q Ac⟩,⟨bw_q HB⟩⟩
   ·rw [if_neg c6] at H;have As:=decide_eq_false c6
    have At:decide (12<Ab.length)=false:=decide_eq_false (by omega)
    clear c6
    (first | rw [As] | rw [At] | (simp only [i64_w,i32_w];first | rw [As] | rw [At]) | skip)
    have H':=ak H;clear H;obtain ⟨Bt,Bu,Bv,Bw,Bx,By⟩:=cf3_ Ac
    go_wp2_with (first | ((with_reducible refine gC_ 75 ?_);refine gL_ 8 Try.func75 #[.int .i64 Af,.int .i64 1,.int .i64 6] ?_;(with_reducible refine (spec_l01In.calls Af 1 6 true _ A4.out).mono ?_);rintro e w' ⟨rfl,⟨nd,rfl⟩⟩;refine ⟨_,rfl,?_⟩))
    go_meet
    case rel=> exact ⟨_,(decide ((Aa.length:Int) > 4)),rs_q,H',⟨by first | omega | exact Nat.le_refl _⟩,⟨bk_q Ac⟩,⟨bw_q HB⟩⟩
  ·replace c5:=Bool.eq_false_iff.mpr c5;subst c5
   rw [if_neg (show ¬(false=true) by decide)] at H
   have H':=ak H;clear H;obtain ⟨Bz,Ca,Cb,Cc,Cd,Ce⟩:=cf3_ Ac
   go_wp2_with (first | ((with_reducible refine gC_ 75 ?_);refine gL_ 8 Try.func75 #[.int .i64 Af,.int .i64 1,.int .i64 6] ?_;(with_reducible refine (spec_l01In.calls Af 1 6 false _ A4.out).mono ?_);rintro e w' ⟨rfl,⟨nd,rfl⟩⟩;refine ⟨_,rfl,?_⟩))
   go_meet
   case rel=> exact ⟨_,(true),rs_q,H',⟨by first | omega | exact Nat.le_refl _⟩,⟨bk_q Ac⟩,⟨bw_q HB⟩⟩
 case rest=>
  clear Cr;(try clear c1);(try clear p2);(try clear c5);(try clear c6);(try clear As);(try clear At);(try clear c7)
  try clear Bn Bo Bp
  try clear Bt Bu Bv
  try clear Bz Ca Cb
  try clear Bq Br Bs
  try clear Bw Bx By
  try clear Cc Cd Ce
  obtain ⟨kq,Be,rfl,HA,HJ1,Ac,HB⟩:=hcut
  cases kq with
  | zero=> exact absurd HA.out (by simp [spec_NetOk.j0])
  | succ kj1=>
   have H:=HA.out;clear HA
   simp only [spec_NetOk.j0] at H
   by_cases c10:Be=true
   ·subst c10;rw [if_pos rfl] at H;obtain rfl:=Option.some.inj H
    go_wp2
    go_ret
    exact ⟨er_q,bw_q HB⟩
   ·replace c10:=Bool.eq_false_iff.mpr c10;subst c10
    rw [if_neg (show ¬(false=true) by decide)] at H
    have H':=ak H;clear H
    go_wp2
    go_loopg [3] kj1 (fun kq v3 w'=> ∃(Ae:Int),v3=.int .i64 Ae∧Aside0 (spec_NetOk.l0 kq Ae Af Ab Aa=some r)∧Aside0 (kq≤kj1)∧Aside0 (w'.heap[Ap]? =some (.cells #[.int .i64 Af,(.slice Ao Ab.length Am),(.slice Ar Aa.length An)] 31 (0,0)))∧Aside0 (Below w.heap.size w w'))
    case atStart=> exact ⟨(0),rs_q,H',⟨Nat.le_refl _⟩,⟨bk_q Ac⟩,⟨bw_q HB⟩⟩
    case round=>
     clear H';(try clear c1);(try clear p2);(try clear c5);(try clear c6);(try clear As);(try clear At);(try clear c7);(try clear c10)
     try clear Bn Bo Bp
     try clear Bt Bu Bv
     try clear Bz Ca Cb
     try clear Bq Br Bs
     try clear Bw Bx By
     try clear Cc Cd Ce
     (try clear p2);obtain ⟨Ae,rfl,HA,Bd,Ac,HB⟩:=hrel
     cases gk with
     | zero=> exact absurd HA.out (by simp [spec_NetOk.l0])
     | succ k2=>
      have H:=HA.out;clear HA
      simp only [spec_NetOk.l0] at H
      by_cases c11:Ae<(Ab.length:Int)
      ·rw [if_pos c11] at H;have Cj:=decide_eq_true c11;clear c11
       by_cases c12:0≤Ae
       ·rw [if_pos c12] at H;have Ep:=decide_eq_true c12
        clear c12;replace H:=bsi H;obtain ⟨Cs,A130,H⟩:=H
        (try dsimp only at H)
        have A13:=ak A130;clear A130;have HZ27:=ak H;clear H;obtain ⟨Da,Db,Dc,Dd,De,Df⟩:=cf3_ Ac
        try go_wp2
        replace Ac:=ak (blk_drew Ac.out);replace HB:=ak (below_drew1 HB.out)
        have p116:0≤(Ae:Int):=of_decide_eq_true as_q
        have q116:Ae<(Ab.length:Int):=of_decide_eq_true as_q
        obtain ⟨Bf,e116,Ai,Aj,Ak,Al⟩:=at_T93 Ch.out Ae p116 q116;have hw116_3:=Al;have hw116_2:=Ak;have hw116_1:=Aj;have hw116_0:=Ai
        cases e116
        obtain ⟨Ai,Aj,Ak,Al⟩:=hb4_ HB Ai Aj Ak Al;replace p116:=eq_true p116;replace q116:=eq_true q116
        refine start_ (n:=28) (S:=fun w'=> cl3 w' Ap (.int .i64 Af) (.slice (some Bf) Ab.length Am) (.slice Ar Aa.length An)∧el4 w' (Bf.add ((Ae).toNat*4)) (.int .i64 ((rd_T93 Ab Ae).f0)) (.int .i64 ((rd_T93 Ab Ae).f1)) (.int .i64 ((rd_T93 Ab Ae).f2)) (.int .i64 ((rd_T93 Ab Ae).f3))) (ds:=[]) (bL 28 0) (by kernel_rfl) rfl rfl ⟨cz3_ Ac,hb4_ HB hw116_0 hw116_1 hw116_2 hw116_3⟩ (fun hHeld=> ?_);refine with_tabW spec_NetOk.tab6 spec_NetOk.bits6 (fun HT_ HW_=> ?_)
        generalize wr.drew=w22 at Ac HB Ai Aj Ak Al hHeld ⊢
        refine pQ_ 0 HT_ ?_
        refine pQ_ 2 HT_ ?_
        refine pQ_ 4 HT_ ?_
        refine take_ (i:=1) (N:=some 30) (v:=?_) (a':=?_) (bL 28 23) rfl rfl (take_ofW HT_.out HW_.out (by kernel_rfl)) (fun _ _ _ h=> h) (Or.inl ⟨by rfl,?_⟩) hHeld ?_ ?_;rotate_left;(rintro w' ⟨s0,s1⟩;go_simp;with_reducible rfl);rotate_left;(exact put_q)
        refine take_ (i:=3) (N:=some 32) (v:=?_) (a':=?_) (bL 28 31) rfl rfl (take_ofW HT_.out HW_.out (by kernel_rfl)) (fun _ _ _ h=> h) (Or.inl ⟨by rfl,?_⟩) hHeld ?_ ?_;rotate_left;(rintro w' ⟨s0,s1⟩;go_simp;with_reducible rfl);rotate_left;(exact put_q)
        refine pQ_ 5 HT_ ?_
        refine take_ (i:=6) (N:=some 35) (v:=?_) (a':=?_) (bL 28 127) rfl rfl (take_ofW HT_.out HW_.out (by kernel_rfl)) (fun _ _ _ h=> h) (Or.inl ⟨by rfl,?_⟩) hHeld ?_ ?_;rotate_left;(rintro w' ⟨s0,s1⟩;go_simp;with_reducible rfl);rotate_left;(exact put_q)
        refine one_ (i:=7) (N:=some 36) (bL 28 255) rfl rfl (one_of HT_.out (by kernel_rfl)) (by decide) (fun K hK=> ?_)
        refine goes_ Try.func76 (by kernel_rfl) rfl #[.int .i64 Af,.agg #[.int .i64 ((rd_T93 Ab Ae).f0),.int .i64 ((rd_T93 Ab Ae).f1),.int .i64 ((rd_T93 Ab Ae).f2),.int .i64 ((rd_T93 Ab Ae).f3)]] (by rfl) rfl rfl mp_q ?_
        with_reducible refine (spec_LinkOk.calls Af ((rd_T93 Ab Ae).f0) ((rd_T93 Ab Ae).f1) ((rd_T93 Ab Ae).f2) ((rd_T93 Ab Ae).f3) Cs _ A13.out).mono ?_
        rintro e w23 ⟨rfl,hb⟩
        refine ⟨_,rfl,?_⟩
        replace Ac:=bb_ Ac hb;replace HB:=hB_ HB hb
        refine hK.out _ _ ⟨cz3_ Ac,hb4_ HB hw116_0 hw116_1 hw116_2 hw116_3⟩ (fun hHeld=> ?_)
        clear hK K
        refine norm_ (a':=?_) ?_ ?_;rotate_left;(show Act.put _ (some 36) _=_;simp only [Act.put,List.setIfInBounds_toArray,List.set_cons_zero,List.set_cons_succ,i64_w,i32_w];rfl)
        refine pQ_ 8 HT_ ?_
        refine pQ_ 9 HT_ ?_
        have H:=HZ27.out;clear HZ27
        by_cases c14:Cs=true
        ·subst c14;rw [if_pos rfl] at H;have HZ28:=ak H;clear H
         refine pQ_ 10 HT_ ?_
         refine pQ_ 11 HT_ ?_
         refine pQ_ 12 HT_ ?_
         have H:=HZ28.out;clear HZ28
         by_cases c15:Ae > 0
         ·rw [if_pos c15] at H;have Aq:=decide_eq_true c15
          (first | rw [Aq] | (simp only [i64_w,i32_w];first | rw [Aq]) | skip)
          clear c15;obtain ⟨ji16,hji16⟩:∃j_:Int,(wrap64 (Ae-1))=j_:=⟨_,rfl⟩
          replace H:(if 0≤(ji16) then (if (ji16)<(Ab.length:Int) then ((spec_l03Ahead.f ((rd_T93 Ab (ji16)).f0) ((rd_T93 Ab (ji16)).f1) ((rd_T93 Ab (ji16)).f2) ((rd_T93 Ab (ji16)).f3) ((rd_T93 Ab Ae).f0) ((rd_T93 Ab Ae).f1) ((rd_T93 Ab Ae).f2) ((rd_T93 Ab Ae).f3)).bind fun Bl=> (if Bl=true then (spec_NetOk.l0 k2 (wrap64 (Ae+1)) Af Ab Aa) else (some false))) else (none)) else (none))=some r:=by first | (rw [hji16] at H;exact H) | (simp only [hji16] at H ⊢;exact H)
          (try rw [hji16] at A13)
          have hji16w:(IntKind.i64.wrap (Ae-1))=ji16:=(i64_w _).trans hji16
          by_cases c17:0≤(ji16)
          ·rw [if_pos c17] at H;have Eq:=decide_eq_true c17;clear c17
           by_cases c18:(ji16)<(Ab.length:Int)
           ·rw [if_pos c18] at H;have Er:=decide_eq_true c18
            clear c18;replace H:=bsi H;obtain ⟨Bl,A190,H⟩:=H
            (try dsimp only at H)
            have A19:=ak A190;clear A190;have HZ29:=ak H;clear H
            have p118:0≤((ji16):Int):=of_decide_eq_true as_q
            have q118:(ji16)<(Ab.length:Int):=of_decide_eq_true as_q
            obtain ⟨Cw,e118,Av,Aw,Ax,Ay⟩:=at_T93 Ch.out (ji16) p118 q118;have hw118_3:=Ay;have hw118_2:=Ax;have hw118_1:=Aw;have hw118_0:=Av
            obtain rfl:Bf=Cw:=(by injection e118)
            obtain ⟨Av,Aw,Ax,Ay⟩:=hb4_ HB Av Aw Ax Ay;replace p118:=eq_true p118;replace q118:=eq_true q118
            refine lw_ (fun w'=> el4 w' (Bf.add (((ji16)).toNat*4)) (.int .i64 ((rd_T93 Ab (ji16)).f0)) (.int .i64 ((rd_T93 Ab (ji16)).f1)) (.int .i64 ((rd_T93 Ab (ji16)).f2)) (.int .i64 ((rd_T93 Ab (ji16)).f3))) (hb4_ HB hw118_0 hw118_1 hw118_2 hw118_3) hHeld (fun hHeld=> ?_)
            refine pQ_ 13 HT_ ?_
            refine pQ_ 15 HT_ ?_
            refine pQ_ 16 HT_ ?_
            refine pQ_ 19 HT_ ?_
            refine pQ_ 21 HT_ ?_
            refine take_ (i:=14) (N:=some 43) (v:=?_) (a':=?_) (bL 28 2752511) rfl rfl (take_ofW HT_.out HW_.out (by kernel_rfl)) (fun _ _ _ h=> h) (Or.inl ⟨by rfl,?_⟩) hHeld ?_ ?_;rotate_left;(rintro w' ⟨s0,s1⟩;go_simp;with_reducible rfl);rotate_left;(exact put_q)
            refine pQ_ 17 HT_ ?_
            refine take_ (i:=18) (N:=some 47) (v:=?_) (a':=?_) (bL 28 3145727) rfl rfl (take_ofW HT_.out HW_.out (by kernel_rfl)) (fun _ _ _ h=> h) (Or.inl ⟨by rfl,?_⟩) hHeld ?_ ?_;rotate_left;(rintro w' ⟨s0,s1⟩;go_simp;with_reducible rfl);rotate_left;(exact put_q)
            refine take_ (i:=20) (N:=some 49) (v:=?_) (a':=?_) (bL 28 4194303) rfl rfl (take_ofW HT_.out HW_.out (by kernel_rfl)) (fun _ _ _ h=> h) (Or.inl ⟨by rfl,?_⟩) hHeld ?_ ?_;rotate_left;(rintro w' ⟨s0,s1⟩;go_simp;with_reducible rfl);rotate_left;(exact put_q)
            refine pQ_ 22 HT_ ?_
            refine take_ (i:=23) (N:=some 52) (v:=?_) (a':=?_) (bL 28 16777215) rfl rfl (take_ofW HT_.out HW_.out (by kernel_rfl)) (fun _ _ _ h=> h) (Or.inl ⟨by rfl,?_⟩) hHeld ?_ ?_;rotate_left;(rintro w' ⟨s0,s1⟩;go_simp;with_reducible rfl);rotate_left;(exact put_q)
            refine one_ (i:=24) (N:=some 53) (bL 28 33554431) rfl rfl (one_of HT_.out (by kernel_rfl)) (by decide) (fun K hK=> ?_)
            refine goes_ Try.func77 (by kernel_rfl) rfl #[.agg #[.int .i64 ((rd_T93 Ab (ji16)).f0),.int .i64 ((rd_T93 Ab (ji16)).f1),.int .i64 ((rd_T93 Ab (ji16)).f2),.int .i64 ((rd_T93 Ab (ji16)).f3)],.agg #[.int .i64 ((rd_T93 Ab Ae).f0),.int .i64 ((rd_T93 Ab Ae).f1),.int .i64 ((rd_T93 Ab Ae).f2),.int .i64 ((rd_T93 Ab Ae).f3)]] (by rfl) rfl rfl (by (try simp only [List.map_toArray,List.map_cons,List.map_nil]);first | done | (simp only [hji16];rfl) | rfl | (simp only [List.length_drop,List.length_take];rfl)) ?_
            with_reducible refine (spec_l03Ahead.calls ((rd_T93 Ab (ji16)).f0) ((rd_T93 Ab (ji16)).f1) ((rd_T93 Ab (ji16)).f2) ((rd_T93 Ab (ji16)).f3) ((rd_T93 Ab Ae).f0) ((rd_T93 Ab Ae).f1) ((rd_T93 Ab Ae).f2) ((rd_T93 Ab Ae).f3) Bl _ A19.out).mono ?_
            rintro e w24 ⟨rfl,hb⟩
            refine ⟨_,rfl,?_⟩
            replace Ac:=bb_ Ac hb;replace HB:=hB_ HB hb
            refine hK.out _ _ ⟨hb4_ HB hw118_0 hw118_1 hw118_2 hw118_3,⟨cz3_ Ac,hb4_ HB hw116_0 hw116_1 hw116_2 hw116_3⟩⟩ (fun hHeld=> ?_)
            clear hK K
            refine norm_ (a':=?_) ?_ ?_;rotate_left;(show Act.put _ (some 53) _=_;simp only [Act.put,List.setIfInBounds_toArray,List.set_cons_zero,List.set_cons_succ,i64_w,i32_w];rfl)
            refine pQ_ 25 HT_ ?_
            refine pQ_ 26 HT_ ?_
            refine pQ_ 27 HT_ ?_
            have H:=HZ29.out;clear HZ29
            by_cases c20:Bl=true
            ·subst c20;rw [if_pos rfl] at H;have H':=ak H;clear H
             refine done_ (done_of HT_.out (by kernel_rfl)) ?_
             try go_wp2
             go_roundg k2
             case measure=> have:=HJ1.out;have:=Bd.out;omega
             case rel=> exact ⟨(wrap64 (Ae+1)),rs_q,H',⟨by have:=HJ1.out;have:=Bd.out;omega⟩,⟨bk_q Ac⟩,⟨bw_q HB⟩⟩
            ·replace c20:=Bool.eq_false_iff.mpr c20;subst c20
             rw [if_neg (show ¬(false=true) by decide)] at H
             obtain rfl:=Option.some.inj H
             refine done_ (done_of HT_.out (by kernel_rfl)) ?_
             try go_wp2
             go_ret
             exact ⟨by first | rfl | (simp [errW_none,errW_some] <;> rfl) | (simp only [←hji16];first | rfl | (simp [errW_none,errW_some] <;> rfl)) | (simp [*,errW_none,errW_some] <;> rfl),bw_q HB⟩
           ·rw [if_neg c18] at H
            exact absurd H (by simp)
          ·rw [if_neg c17] at H
           exact absurd H (by simp)
         ·rw [if_neg c15] at H;have Aq:=decide_eq_false c15
          (first | rw [Aq] | (simp only [i64_w,i32_w];first | rw [Aq]) | skip)
          clear c15;have H':=ak H;clear H
          refine pU_ 13 HT_ ?_
          refine pU_ 14 HT_ ?_
          refine pU_ 15 HT_ ?_
          refine pU_ 16 HT_ ?_
          refine pU_ 17 HT_ ?_
          refine pU_ 18 HT_ ?_
          refine pU_ 19 HT_ ?_
          refine pU_ 20 HT_ ?_
          refine pU_ 21 HT_ ?_
          refine pU_ 22 HT_ ?_
          refine pU_ 23 HT_ ?_
          refine pU_ 24 HT_ ?_
          refine pU_ 25 HT_ ?_
          refine pQ_ 26 HT_ ?_
          refine pQ_ 27 HT_ ?_
          refine done_ (done_of HT_.out (by kernel_rfl)) ?_
          try go_wp2
          go_roundg k2
          case measure=> have:=HJ1.out;have:=Bd.out;omega
          case rel=> exact ⟨(wrap64 (Ae+1)),rs_q,H',⟨by have:=HJ1.out;have:=Bd.out;omega⟩,⟨bk_q Ac⟩,⟨bw_q HB⟩⟩
        ·replace c14:=Bool.eq_false_iff.mpr c14;subst c14
         rw [if_neg (show ¬(false=true) by decide)] at H
         obtain rfl:=Option.some.inj H
         refine pU_ 10 HT_ ?_
         refine pU_ 11 HT_ ?_
         refine pU_ 12 HT_ ?_
         refine pU_ 13 HT_ ?_
         refine pU_ 14 HT_ ?_
         refine pU_ 15 HT_ ?_
         refine pU_ 16 HT_ ?_
         refine pU_ 17 HT_ ?_
         refine pU_ 18 HT_ ?_
         refine pU_ 19 HT_ ?_
         refine pU_ 20 HT_ ?_
         refine pU_ 21 HT_ ?_
         refine pU_ 22 HT_ ?_
         refine pU_ 23 HT_ ?_
         refine pU_ 24 HT_ ?_
         refine pU_ 25 HT_ ?_
         refine pU_ 26 HT_ ?_
         refine pQ_ 27 HT_ ?_
         refine done_ (done_of HT_.out (by kernel_rfl)) ?_
         try go_wp2
         go_ret
         exact ⟨er_q,bw_q HB⟩
       ·rw [if_neg c12] at H
        exact absurd H (by simp)
      ·rw [if_neg c11] at H;have Cj:=decide_eq_false c11
       clear c11;have H':=ak H;clear H;obtain ⟨Cl,Cm,Cn,Co,Cp,Cq⟩:=cf3_ Ac
       go_wp2
       go_loopg [4] k2 (fun kq v4 w'=> ∃(Ad:Int),v4=.int .i64 Ad∧Aside0 (spec_NetOk.l1 kq Ad Af Ab Aa=some r)∧Aside0 (kq≤k2)∧Aside0 (w'.heap[Ap]? =some (.cells #[.int .i64 Af,(.slice Ao Ab.length Am),(.slice Ar Aa.length An)] 31 (0,0)))∧Aside0 (Below w.heap.size w w'))
       case atStart=> exact ⟨(0),rs_q,H',⟨Nat.le_refl _⟩,⟨bk_q Ac⟩,⟨bw_q HB⟩⟩
       case round=>
        clear H';(try clear c1);(try clear p1);(try clear q1);(try clear hx1);(try clear p2);(try clear p6);(try clear c7);(try clear c11);(try clear Cj);(try clear p11);(try clear q11);(try clear hx11);(try clear c12);(try clear c14);(try clear c15);(try clear Aq);(try clear c17);(try clear c18)
        try clear Dg Dh Di
        try clear Dj Dk Dl
        try clear Cl Cm Cn
        try clear Dm Dn Do
        try clear Dp Dq Dr
        try clear Co Cp Cq
        (try clear Ai);(try clear Aj);(try clear Ak);(try clear Al);(try clear p116);(try clear q116);obtain ⟨Ad,rfl,HA,Ck,Ac,HB⟩:=hrel
        cases gk with
        | zero=> exact absurd HA.out (by simp [spec_NetOk.l1])
        | succ k3=>
         have H:=HA.out;clear HA
         simp only [spec_NetOk.l1] at H
         by_cases c36:Ad<(Aa.length:Int)
         ·rw [if_pos c36] at H;have Cx:=decide_eq_true c36;clear c36
          by_cases c37:0≤Ad
          ·rw [if_pos c37] at H;have Es:=decide_eq_true c37
           clear c37;replace H:=bsi H;obtain ⟨Ct,A380,H⟩:=H
           (try dsimp only at H)
           have A38:=ak A380;clear A380;have HZ30:=ak H;clear H;obtain ⟨Ds,Dt,Du,Dv,Dw,Dx⟩:=cf3_ Ac
           have p120:0≤(Ad:Int):=of_decide_eq_true as_q
           have q120:Ad<(Aa.length:Int):=of_decide_eq_true as_q
           obtain ⟨Bg,e120,Bh,Bi,Bj,Bk⟩:=at_T102 Ci.out Ad p120 q120
           cases e120
           obtain ⟨Bh,Bi,Bj,Bk⟩:=hb4_ HB Bh Bi Bj Bk;replace p120:=eq_true p120;replace q120:=eq_true q120
           try go_wp2_with (first | ((with_reducible refine gate_dst (N:=5) rfl ?_);(try (refine gate_guard (by rfl) ?_;dsimp only));refine box_q 5 #[.int .i64 0,.int .i64 0,.int .i64 0,.bool false] 102 ?_;intro Ag hg w51 hbox hb;have Ah:=ak (hbox);have Et:=gs_ HB hg;replace HB:=hB_ HB hb;have Cf:=nb_ Ac hg;have Cg:=nB_ Ac hg;replace Ac:=bb_ Ac hb;clear hb hbox hg;have Eu:=Cg.out;have Ev:=Cf.out;obtain ⟨Dy,Dz,Ea,Eb,Ec,Ed,Ee,Ef⟩:=cf4_ Ah))
           have n0_:Aside0 (((((w51.setCell ⟨Ag,0,none⟩ (.int .i64 ((rd_T102 Aa Ad).f0))).setCell ⟨Ag,1,none⟩ (.int .i64 ((rd_T102 Aa Ad).f1))).setCell ⟨Ag,2,none⟩ (.int .i64 ((rd_T102 Aa Ad).f2))).setCell ⟨Ag,3,none⟩ (.bool ((rd_T102 Aa Ad).f3))).heap[Ap]? =some (.cells #[.int .i64 Af,.slice Ao Ab.length Am,.slice (some Bg) Aa.length An] 31 (0,0))):=⟨bp_ Ac⟩
           have n1_:Aside0 (((((w51.setCell ⟨Ag,0,none⟩ (.int .i64 ((rd_T102 Aa Ad).f0))).setCell ⟨Ag,1,none⟩ (.int .i64 ((rd_T102 Aa Ad).f1))).setCell ⟨Ag,2,none⟩ (.int .i64 ((rd_T102 Aa Ad).f2))).setCell ⟨Ag,3,none⟩ (.bool ((rd_T102 Aa Ad).f3))).heap[Ag]? =some (.cells #[.int .i64 ((rd_T102 Aa Ad).f0),.int .i64 ((rd_T102 Aa Ad).f1),.int .i64 ((rd_T102 Aa Ad).f2),.bool ((rd_T102 Aa Ad).f3)] 102 (0,0))):=⟨bp_ Ah⟩
           have n2_:Aside0 (Below w.heap.size w ((((w51.setCell ⟨Ag,0,none⟩ (.int .i64 ((rd_T102 Aa Ad).f0))).setCell ⟨Ag,1,none⟩ (.int .i64 ((rd_T102 Aa Ad).f1))).setCell ⟨Ag,2,none⟩ (.int .i64 ((rd_T102 Aa Ad).f2))).setCell ⟨Ag,3,none⟩ (.bool ((rd_T102 Aa Ad).f3)))):=⟨bw_q HB⟩
           (try clear Ac);(try clear Ah);(try clear HB)
           generalize ((((w51.setCell ⟨Ag,0,none⟩ (.int .i64 ((rd_T102 Aa Ad).f0))).setCell ⟨Ag,1,none⟩ (.int .i64 ((rd_T102 Aa Ad).f1))).setCell ⟨Ag,2,none⟩ (.int .i64 ((rd_T102 Aa Ad).f2))).setCell ⟨Ag,3,none⟩ (.bool ((rd_T102 Aa Ad).f3)))=w54 at n0_ n1_ n2_ ⊢
           have Ac:=n0_;have Ah:=n1_;have HB:=n2_;clear n0_ n1_ n2_;replace Ac:=ak (blk_drew Ac.out);replace Ah:=ak (blk_drew Ah.out);replace HB:=ak (below_drew1 HB.out)
           refine start_ (n:=33) (S:=fun w'=> cl4 w' Ag (.int .i64 ((rd_T102 Aa Ad).f0)) (.int .i64 ((rd_T102 Aa Ad).f1)) (.int .i64 ((rd_T102 Aa Ad).f2)) (.bool ((rd_T102 Aa Ad).f3))∧cl3 w' Ap (.int .i64 Af) (.slice Ao Ab.length Am) (.slice (some Bg) Aa.length An)) (ds:=[]) (bL 33 0) (by kernel_rfl) rfl rfl ⟨cz4_ Ah,cz3_ Ac⟩ (fun hHeld=> ?_);refine with_tabW spec_NetOk.tab12 spec_NetOk.bits12 (fun HT_ HW_=> ?_)
           generalize w54.drew=w55 at Ac Ah HB hHeld ⊢
           refine pQ_ 0 HT_ ?_
           refine pQ_ 2 HT_ ?_
           refine take_ (i:=1) (N:=some 70) (v:=?_) (a':=?_) (bL 33 7) rfl rfl (take_ofW HT_.out HW_.out (by kernel_rfl)) (fun _ _ _ h=> h) (Or.inl ⟨by rfl,?_⟩) hHeld ?_ ?_;rotate_left;(rintro w' ⟨s0,s1⟩;go_simp;with_reducible rfl);rotate_left;(exact put_q)
           refine take_ (i:=3) (N:=some 72) (v:=?_) (a':=?_) (bL 33 15) rfl rfl (take_ofW HT_.out HW_.out (by kernel_rfl)) (fun _ _ _ h=> h) (Or.inl ⟨by rfl,?_⟩) hHeld ?_ ?_;rotate_left;(rintro w' ⟨s0,s1⟩;go_simp;with_reducible rfl);rotate_left;(exact put_q)
           refine one_ (i:=4) (N:=some 73) (bL 33 31) rfl rfl (one_of HT_.out (by kernel_rfl)) (by decide) (fun K hK=> ?_)
           refine goes_ Try.func75 (by kernel_rfl) rfl #[.int .i64 ((rd_T102 Aa Ad).f0),.int .i64 1,.int .i64 Af] (by rfl) rfl rfl mp_q ?_
           with_reducible refine (spec_l01In.calls ((rd_T102 Aa Ad).f0) 1 Af Ct _ A38.out).mono ?_
           rintro e w' ⟨rfl,⟨nd,rfl⟩⟩
           refine ⟨_,rfl,?_⟩
           refine hK.out _ _ ⟨cz4_ Ah,cz3_ Ac⟩ (fun hHeld=> ?_)
           clear hK K
           refine norm_ (a':=?_) ?_ ?_;rotate_left;(show Act.put _ (some 73) _=_;simp only [Act.put,List.setIfInBounds_toArray,List.set_cons_zero,List.set_cons_succ,i64_w,i32_w];rfl)
           refine pQ_ 5 HT_ ?_
           refine pQ_ 6 HT_ ?_
           have H:=HZ30.out;clear HZ30
           by_cases c39:Ct=true
           ·subst c39;rw [if_pos rfl] at H;replace H:=bsi H;obtain ⟨Cu,A400,H⟩:=H
            (try dsimp only at H)
            have A40:=ak A400;clear A400;have HZ31:=ak H;clear H
            refine pQ_ 7 HT_ ?_
            refine take_ (i:=8) (N:=some 77) (v:=?_) (a':=?_) (bL 33 511) rfl rfl (take_ofW HT_.out HW_.out (by kernel_rfl)) (fun _ _ _ h=> h) (Or.inl ⟨by rfl,?_⟩) hHeld ?_ ?_;rotate_left;(rintro w' ⟨s0,s1⟩;go_simp;with_reducible rfl);rotate_left;(exact put_q)
            refine one_ (i:=9) (N:=some 78) (bL 33 1023) rfl rfl (one_of HT_.out (by kernel_rfl)) (by decide) (fun K hK=> ?_)
            refine goes_ Try.func75 (by kernel_rfl) rfl #[.int .i64 ((rd_T102 Aa Ad).f1),.int .i64 1,.int .i64 9] (by rfl) rfl rfl mp_q ?_
            with_reducible refine (spec_l01In.calls ((rd_T102 Aa Ad).f1) 1 9 Cu _ A40.out).mono ?_
            rintro e w' ⟨rfl,⟨nd,rfl⟩⟩
            refine ⟨_,rfl,?_⟩
            refine hK.out _ _ ⟨cz4_ Ah,cz3_ Ac⟩ (fun hHeld=> ?_)
            clear hK K
            refine norm_ (a':=?_) ?_ ?_;rotate_left;(show Act.put _ (some 78) _=_;simp only [Act.put,List.setIfInBounds_toArray,List.set_cons_zero,List.set_cons_succ,i64_w,i32_w];rfl)
            refine pQ_ 10 HT_ ?_
            refine pQ_ 11 HT_ ?_
            refine pQ_ 12 HT_ ?_
            have H:=HZ31.out;clear HZ31
            by_cases c41:Cu=true
            ·subst c41;rw [if_pos rfl] at H;replace H:=bsi H;obtain ⟨Cv,A420,H⟩:=H
             (try dsimp only at H)
             have A42:=ak A420;clear A420;have HZ32:=ak H;clear H
             refine pQ_ 13 HT_ ?_
             refine take_ (i:=14) (N:=some 83) (v:=?_) (a':=?_) (bL 33 32767) rfl rfl (take_ofW HT_.out HW_.out (by kernel_rfl)) (fun _ _ _ h=> h) (Or.inl ⟨by rfl,?_⟩) hHeld ?_ ?_;rotate_left;(rintro w' ⟨s0,s1⟩;go_simp;with_reducible rfl);rotate_left;(exact put_q)
             refine one_ (i:=15) (N:=some 84) (bL 33 65535) rfl rfl (one_of HT_.out (by kernel_rfl)) (by decide) (fun K hK=> ?_)
             refine goes_ Try.func75 (by kernel_rfl) rfl #[.int .i64 ((rd_T102 Aa Ad).f2),.int .i64 1,.int .i64 1000] (by rfl) rfl rfl mp_q ?_
             with_reducible refine (spec_l01In.calls ((rd_T102 Aa Ad).f2) 1 1000 Cv _ A42.out).mono ?_
             rintro e w' ⟨rfl,⟨nd,rfl⟩⟩
             refine ⟨_,rfl,?_⟩
             refine hK.out _ _ ⟨cz4_ Ah,cz3_ Ac⟩ (fun hHeld=> ?_)
             clear hK K
             refine norm_ (a':=?_) ?_ ?_;rotate_left;(show Act.put _ (some 84) _=_;simp only [Act.put,List.setIfInBounds_toArray,List.set_cons_zero,List.set_cons_succ,i64_w,i32_w];rfl)
             refine pQ_ 16 HT_ ?_
             refine pQ_ 17 HT_ ?_
             refine pQ_ 18 HT_ ?_
             have H:=HZ32.out;clear HZ32
             by_cases c43:Cv=true
             ·subst c43;rw [if_pos rfl] at H;have HZ33:=ak H;clear H
              refine pQ_ 19 HT_ ?_
              refine pQ_ 20 HT_ ?_
              refine pQ_ 21 HT_ ?_
              have H:=HZ33.out;clear HZ33
              by_cases c44:Ad > 0
              ·rw [if_pos c44] at H;have Au:=decide_eq_true c44
               (first | rw [Au] | (simp only [i64_w,i32_w];first | rw [Au]) | skip)
               clear c44;obtain ⟨ji45,hji45⟩:∃j_:Int,(wrap64 (Ad-1))=j_:=⟨_,rfl⟩
               replace H:(if 0≤(ji45) then (if (ji45)<(Aa.length:Int) then ((spec_l03Thing.f ((rd_T102 Aa (ji45)).f0) ((rd_T102 Aa (ji45)).f1) ((rd_T102 Aa (ji45)).f2) ((rd_T102 Aa (ji45)).f3) ((rd_T102 Aa Ad).f0) ((rd_T102 Aa Ad).f1) ((rd_T102 Aa Ad).f2) ((rd_T102 Aa Ad).f3)).bind fun Bm=> (if Bm=true then (spec_NetOk.l1 k3 (wrap64 (Ad+1)) Af Ab Aa) else (some false))) else (none)) else (none))=some r:=by first | (rw [hji45] at H;exact H) | (simp only [hji45] at H ⊢;exact H)
               (try rw [hji45] at A38)
               (try rw [hji45] at A40)
               (try rw [hji45] at A42)
               have hji45w:(IntKind.i64.wrap (Ad-1))=ji45:=(i64_w _).trans hji45
               by_cases c46:0≤(ji45)
               ·rw [if_pos c46] at H;have Ew:=decide_eq_true c46;clear c46
                by_cases c47:(ji45)<(Aa.length:Int)
                ·rw [if_pos c47] at H;have Ex:=decide_eq_true c47
                 clear c47;replace H:=bsi H;obtain ⟨Bm,A480,H⟩:=H
                 (try dsimp only at H)
                 have A48:=ak A480;clear A480;have HZ34:=ak H;clear H
                 have p125:0≤((ji45):Int):=of_decide_eq_true as_q
                 have q125:(ji45)<(Aa.length:Int):=of_decide_eq_true as_q
                 obtain ⟨Cy,e125,Az,Ba,Bb,Bc⟩:=at_T102 Ci.out (ji45) p125 q125;have hw125_3:=Bc;have hw125_2:=Bb;have hw125_1:=Ba;have hw125_0:=Az
                 obtain rfl:Bg=Cy:=(by injection e125)
                 obtain ⟨Az,Ba,Bb,Bc⟩:=hb4_ HB Az Ba Bb Bc;replace p125:=eq_true p125;replace q125:=eq_true q125
                 refine lw_ (fun w'=> el4 w' (Bg.add (((ji45)).toNat*4)) (.int .i64 ((rd_T102 Aa (ji45)).f0)) (.int .i64 ((rd_T102 Aa (ji45)).f1)) (.int .i64 ((rd_T102 Aa (ji45)).f2)) (.bool ((rd_T102 Aa (ji45)).f3))) (hb4_ HB hw125_0 hw125_1 hw125_2 hw125_3) hHeld (fun hHeld=> ?_)
                 refine pQ_ 22 HT_ ?_
                 refine pQ_ 24 HT_ ?_
                 refine pQ_ 25 HT_ ?_
                 refine take_ (i:=23) (N:=some 92) (v:=?_) (a':=?_) (bL 33 67108863) rfl rfl (take_ofW HT_.out HW_.out (by kernel_rfl)) (fun _ _ _ h=> h) (Or.inl ⟨by rfl,?_⟩) hHeld ?_ ?_;rotate_left;(rintro w' ⟨s0,s1⟩;go_simp;with_reducible rfl);rotate_left;(exact put_q)
                 refine pQ_ 26 HT_ ?_
                 refine take_ (i:=27) (N:=some 96) (v:=?_) (a':=?_) (bL 33 268435455) rfl rfl (take_ofW HT_.out HW_.out (by kernel_rfl)) (fun _ _ _ h=> h) (Or.inl ⟨by rfl,?_⟩) hHeld ?_ ?_;rotate_left;(rintro w' ⟨s0,s1⟩;go_simp;with_reducible rfl);rotate_left;(exact put_q)
                 refine take_ (i:=28) (N:=some 97) (v:=?_) (a':=?_) (bL 33 536870911) rfl rfl (take_ofW HT_.out HW_.out (by kernel_rfl)) (fun _ _ _ h=> h) (Or.inl ⟨by rfl,?_⟩) hHeld ?_ ?_;rotate_left;(rintro w' ⟨s0,s1⟩;go_simp;with_reducible rfl);rotate_left;(exact put_q)
                 refine one_ (i:=29) (N:=some 98) (bL 33 1073741823) rfl rfl (one_of HT_.out (by kernel_rfl)) (by decide) (fun K hK=> ?_)
                 refine goes_ Try.func78 (by kernel_rfl) rfl #[.agg #[.int .i64 ((rd_T102 Aa (ji45)).f0),.int .i64 ((rd_T102 Aa (ji45)).f1),.int .i64 ((rd_T102 Aa (ji45)).f2),.bool ((rd_T102 Aa (ji45)).f3)],.agg #[.int .i64 ((rd_T102 Aa Ad).f0),.int .i64 ((rd_T102 Aa Ad).f1),.int .i64 ((rd_T102 Aa Ad).f2),.bool ((rd_T102 Aa Ad).f3)]] (by rfl) rfl rfl (by (try simp only [List.map_toArray,List.map_cons,List.map_nil]);first | done | (simp only [hji45];rfl) | rfl | (simp only [List.length_drop,List.length_take];rfl)) ?_
                 with_reducible refine (spec_l03Thing.calls ((rd_T102 Aa (ji45)).f0) ((rd_T102 Aa (ji45)).f1) ((rd_T102 Aa (ji45)).f2) ((rd_T102 Aa (ji45)).f3) ((rd_T102 Aa Ad).f0) ((rd_T102 Aa Ad).f1) ((rd_T102 Aa Ad).f2) ((rd_T102 Aa Ad).f3) Bm _ A48.out).mono ?_
                 rintro e w56 ⟨rfl,hb⟩
                 refine ⟨_,rfl,?_⟩
                 replace Ac:=bb_ Ac hb;replace Ah:=bb_ Ah hb;replace HB:=hB_ HB hb
                 refine hK.out _ _ ⟨hb4_ HB hw125_0 hw125_1 hw125_2 hw125_3,⟨cz4_ Ah,cz3_ Ac⟩⟩ (fun hHeld=> ?_)
                 clear hK K
                 refine norm_ (a':=?_) ?_ ?_;rotate_left;(show Act.put _ (some 98) _=_;simp only [Act.put,List.setIfInBounds_toArray,List.set_cons_zero,List.set_cons_succ,i64_w,i32_w];rfl)
                 refine pQ_ 30 HT_ ?_
                 refine pQ_ 31 HT_ ?_
                 refine pQ_ 32 HT_ ?_
                 have H:=HZ34.out;clear HZ34
                 by_cases c49:Bm=true
                 ·subst c49;rw [if_pos rfl] at H;have H':=ak H;clear H
                  refine done_ (done_of HT_.out (by kernel_rfl)) ?_
                  try go_wp2
                  go_roundg k3
                  case measure=> have:=HJ1.out;have:=Bd.out;have:=Ck.out;omega
                  case rel=> exact ⟨(wrap64 (Ad+1)),rs_q,H',⟨by have:=HJ1.out;have:=Bd.out;have:=Ck.out;omega⟩,⟨bk_q Ac⟩,⟨bw_q HB⟩⟩
                 ·replace c49:=Bool.eq_false_iff.mpr c49;subst c49
                  rw [if_neg (show ¬(false=true) by decide)] at H
                  obtain rfl:=Option.some.inj H
                  refine done_ (done_of HT_.out (by kernel_rfl)) ?_
                  try go_wp2
                  go_ret
                  exact ⟨by first | rfl | (simp [errW_none,errW_some] <;> rfl) | (simp only [←hji45];first | rfl | (simp [errW_none,errW_some] <;> rfl)) | (simp [*,errW_none,errW_some] <;> rfl),bw_q HB⟩
                ·rw [if_neg c47] at H
                 exact absurd H (by simp)
               ·rw [if_neg c46] at H
                exact absurd H (by simp)
              ·rw [if_neg c44] at H;have Au:=decide_eq_false c44
               (first | rw [Au] | (simp only [i64_w,i32_w];first | rw [Au]) | skip)
               clear c44;have H':=ak H;clear H
               refine pU_ 22 HT_ ?_
               refine pU_ 23 HT_ ?_
               refine pU_ 24 HT_ ?_
               refine pU_ 25 HT_ ?_
               refine pU_ 26 HT_ ?_
               refine pU_ 27 HT_ ?_
               refine pU_ 28 HT_ ?_
               refine pU_ 29 HT_ ?_
               refine pU_ 30 HT_ ?_
               refine pQ_ 31 HT_ ?_
               refine pQ_ 32 HT_ ?_
               refine done_ (done_of HT_.out (by kernel_rfl)) ?_
               try go_wp2
               go_roundg k3
               case measure=> have:=HJ1.out;have:=Bd.out;have:=Ck.out;omega
               case rel=> exact ⟨(wrap64 (Ad+1)),rs_q,H',⟨by have:=HJ1.out;have:=Bd.out;have:=Ck.out;omega⟩,⟨bk_q Ac⟩,⟨bw_q HB⟩⟩
             ·replace c43:=Bool.eq_false_iff.mpr c43;subst c43
              rw [if_neg (show ¬(false=true) by decide)] at H
              obtain rfl:=Option.some.inj H
              refine pU_ 19 HT_ ?_
              refine pU_ 20 HT_ ?_
              refine pU_ 21 HT_ ?_
              refine pU_ 22 HT_ ?_
              refine pU_ 23 HT_ ?_
              refine pU_ 24 HT_ ?_
              refine pU_ 25 HT_ ?_
              refine pU_ 26 HT_ ?_
              refine pU_ 27 HT_ ?_
              refine pU_ 28 HT_ ?_
              refine pU_ 29 HT_ ?_
              refine pU_ 30 HT_ ?_
              refine pU_ 31 HT_ ?_
              refine pQ_ 32 HT_ ?_
              refine done_ (done_of HT_.out (by kernel_rfl)) ?_
              try go_wp2
              go_ret
              exact ⟨er_q,bw_q HB⟩
            ·replace c41:=Bool.eq_false_iff.mpr c41;subst c41
             rw [if_neg (show ¬(false=true) by decide)] at H
             obtain rfl:=Option.some.inj H
             refine pU_ 13 HT_ ?_
             refine pU_ 14 HT_ ?_
             refine pU_ 15 HT_ ?_
             refine pU_ 16 HT_ ?_
             refine pQ_ 17 HT_ ?_
             refine pQ_ 18 HT_ ?_
             refine pU_ 19 HT_ ?_
             refine pU_ 20 HT_ ?_
             refine pU_ 21 HT_ ?_
             refine pU_ 22 HT_ ?_
             refine pU_ 23 HT_ ?_
             refine pU_ 24 HT_ ?_
             refine pU_ 25 HT_ ?_
             refine pU_ 26 HT_ ?_
             refine pU_ 27 HT_ ?_
             refine pU_ 28 HT_ ?_
             refine pU_ 29 HT_ ?_
             refine pU_ 30 HT_ ?_
             refine pU_ 31 HT_ ?_
             refine pQ_ 32 HT_ ?_
             refine done_ (done_of HT_.out (by kernel_rfl)) ?_
             try go_wp2
             go_ret
             exact ⟨er_q,bw_q HB⟩
           ·replace c39:=Bool.eq_false_iff.mpr c39;subst c39
            rw [if_neg (show ¬(false=true) by decide)] at H
            obtain rfl:=Option.some.inj H
            refine pU_ 7 HT_ ?_
            refine pU_ 8 HT_ ?_
            refine pU_ 9 HT_ ?_
            refine pU_ 10 HT_ ?_
            refine pQ_ 11 HT_ ?_
            refine pQ_ 12 HT_ ?_
            refine pU_ 13 HT_ ?_
            refine pU_ 14 HT_ ?_
            refine pU_ 15 HT_ ?_
            refine pU_ 16 HT_ ?_
            refine pQ_ 17 HT_ ?_
            refine pQ_ 18 HT_ ?_
            refine pU_ 19 HT_ ?_
            refine pU_ 20 HT_ ?_
            refine pU_ 21 HT_ ?_
            refine pU_ 22 HT_ ?_
            refine pU_ 23 HT_ ?_
            refine pU_ 24 HT_ ?_
            refine pU_ 25 HT_ ?_
            refine pU_ 26 HT_ ?_
            refine pU_ 27 HT_ ?_
            refine pU_ 28 HT_ ?_
            refine pU_ 29 HT_ ?_
            refine pU_ 30 HT_ ?_
            refine pU_ 31 HT_ ?_
            refine pQ_ 32 HT_ ?_
            refine done_ (done_of HT_.out (by kernel_rfl)) ?_
            try go_wp2
            go_ret
            exact ⟨er_q,bw_q HB⟩
          ·rw [if_neg c37] at H
           exact absurd H (by simp)
         ·rw [if_neg c36] at H;have Cx:=decide_eq_false c36
          clear c36;obtain rfl:=Option.some.inj H;obtain ⟨Eg,Eh,Ei,Ej,Ek,El⟩:=cf3_ Ac
          go_wp2
          go_ret
          exact ⟨er_q,bw_q HB⟩

end Go.Proofs.Ythjmdiggglkeaaa.Q
