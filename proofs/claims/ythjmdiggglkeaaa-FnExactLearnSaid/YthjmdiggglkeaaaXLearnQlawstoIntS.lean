import Derived.Test.YthjmdiggglkeaaaXLearnQlawsszRecordS
/- The contract of a Go function. -/

namespace Go.Proofs.Ythjmdiggglkeaaa.Q
open Go.RowKit Go.Proofs.YthjmdiggglkeaaaW.PrintWords Go.Proofs.YthjmdiggglkeaaaW.PrintLast Go.Proofs.YthjmdiggglkeaaaW.PrintMore
attribute [local go_sem] max2_int min2_int max_two min_two max_three min_three max_four min_four   -- for this text's walks alone
set_option linter.unusedVariables false
set_option linter.unusedSimpArgs false

/-! ### laws_szIntS: function 86 -/
def laws_szIntS.f (l0:List Int) (a1:Int):Option (Int):=if (wrap64 (a1-(l0.length:Int)))<0 then (some (-1)) else (some (wrap64 (a1-(l0.length:Int))))
set_option maxHeartbeats 8000000 in
set_option maxRecDepth 100000 in
theorem laws_szIntS.calls (A0:Option Addr) (c0:Nat) (l0:List Int) (a1:Int) (r:Int) (w:World) (hr0:Kd.C (Kd.int .i64) w A0 l0.length l0) (hc0:l0.length≤c0) (h:laws_szIntS.f l0 a1=some r):
  Calls Try.prog 86 #[.slice A0 l0.length c0,.int .i64 a1] w fun e w'=> e=.returned (.int .i64 r)∧Drawn0 w w':=by
 have HR0:=ak hr0;have Ab:=ak hc0;clear hr0 hc0;have H:=h
 clear h;unfold laws_szIntS.f at H
 by_cases c3:(wrap64 (a1-(l0.length:Int)))<0
 ·rw [if_pos c3] at H;have Aa:=decide_eq_true c3
  clear c3;obtain rfl:=Option.some.inj H
  go_enter Try.func86,Try.ntmps86
  go_wp2
  go_ret
  exact ⟨rs_q,dr_q⟩
 ·rw [if_neg c3] at H;have Aa:=decide_eq_false c3
  clear c3;obtain rfl:=Option.some.inj H
  go_enter Try.func86,Try.ntmps86
  go_wp2
  go_ret
  exact ⟨rs_q,dr_q⟩

/-! ### laws_szSelf: function 20 -/
def laws_szSelf.f (k:Nat) (j:Int) (l:Int) (d:Int) (e:List (S134)) (g:List (S136)) (h:List Int) (i:List (S57)) (a1:Int):Option (Int):=(laws_szNet.f d e g a1).bind fun a=> (if a<0 then (some (-1)) else ((laws_szIntS.f h a).bind fun b=> (if b<0 then (some (-1)) else ((laws_szRecordS.f k i b).bind fun c=> (if c<0 then (some (-1)) else (some c))))))
theorem laws_szSelf.mono:∀a0 a1 a2 a3 a4 a5 a6 a7 k,LeO (laws_szSelf.f k a0 a1 a2 a3 a4 a5 a6 a7) (laws_szSelf.f (k+1) a0 a1 a2 a3 a4 a5 a6 a7):=by
 intro a0 a1 a2 a3 a4 a5 a6 a7 k
 unfold laws_szSelf.f
 with_reducible repeat' (first | apply laws_szRecordS.mono | exact LeO.refl _ | exact LeO.none _ | refine LeO.ite ?_ ?_ | refine LeO.bind ?_ (fun _=> ?_))
set_option maxHeartbeats 8000000 in
set_option maxRecDepth 100000 in
theorem laws_szSelf.calls (k:Nat) (Av:Int) (Aw:Int) (Ah:Int) (Aj:Option Addr) (Ak:Nat) (Ab:List (S134)) (Al:Option Addr) (Am:Nat) (Ac:List (S136)) (An:Option Addr) (Ao:Nat) (Ad:List Int) (Ap:Option Addr) (Aq:Nat) (Ae:List (S57)) (a1:Int) (r:Int) (w:World) (hr0_3:Kd.C k134 w Aj Ab.length Ab) (hc0_3:Ab.length≤Ak) (hr0_4:Kd.C k136 w Al Ac.length Ac) (hc0_4:Ac.length≤Am) (hr0_5:Kd.C (Kd.int .i64) w An Ad.length Ad) (hc0_5:Ad.length≤Ao) (hr0_6:Kd.C k57 w Ap Ae.length Ae) (hc0_6:Ae.length≤Aq) (h:laws_szSelf.f k Av Aw Ah Ab Ac Ad Ae a1=some r):
  Calls Try.prog 20 #[.agg #[.int .i64 Av,.int .i64 Aw,.int .i64 Ah,.slice Aj Ab.length Ak,.slice Al Ac.length Am,.slice An Ad.length Ao,.slice Ap Ae.length Aq],.int .i64 a1] w fun e w'=> e=.returned (.int .i64 r)∧Below w.heap.size w w':=by
 have hu38:=Try.underlying38;have hu25:=Try.underlying25;have Bb:=ak hr0_3;have Bc:=ak hc0_3;clear hr0_3 hc0_3;have Bd:=ak hr0_4;have Be:=ak hc0_4;clear hr0_4 hc0_4;have Bf:=ak hr0_5;have Bg:=ak hc0_5;clear hr0_5 hc0_5;have Bh:=ak hr0_6;have Bi:=ak hc0_6;clear hr0_6 hc0_6;have HB:=ak (Below.refl w.heap.size w);have H:=h
 clear h;unfold laws_szSelf.f at H;replace H:=bsi H;obtain ⟨Ar,A30,H⟩:=H
 (try dsimp only at H)
 have A3:=ak A30;clear A30;have Bj:=ak H;clear H
 go_enter Try.func20,Try.ntmps20
 go_upto_if 10 with (first | ((with_reducible refine gate_dst (N:=2) rfl ?_);refine box_q 2 #[.int .i64 Av,.int .i64 Aw,.int .i64 Ah,.slice Aj Ab.length Ak,.slice Al Ac.length Am,.slice An Ad.length Ao,.slice Ap Ae.length Aq] 38 ?_;intro Da hg w5 hbox hb;have Aa:=ak (hbox);have Db:=gs_ HB hg;replace HB:=hB_ HB hb;clear hb hbox hg;obtain ⟨Cm,Cn,Co,Cp,Cq,Cr,Cs,Ct,Cu,Cv,Cw,Cx,Cy,Cz⟩:=cf7_ Aa) | ((with_reducible refine gC_ 15 ?_);refine gL_ 8 Try.func15 #[.agg #[.int .i64 Ah,.slice Aj Ab.length Ak,.slice Al Ac.length Am],.int .i64 a1] ?_;(with_reducible refine (laws_szNet.calls Ah _ _ Ab _ _ Ac a1 Ar _ ?_ ?_ ?_ ?_ A3.out).mono ?_);exact ch_ Bb HB;exact Bc.out;exact ch_ Bd HB;exact Be.out;rintro e w7 ⟨rfl,hb⟩;refine ⟨_,rfl,?_⟩;replace Aa:=bb_ Aa hb;replace HB:=hB_ HB hb))
 have H:=Bj.out;clear Bj
 by_cases c8:Ar<0
 ·rw [if_pos c8] at H;have Ai:=decide_eq_true c8;clear c8
  (first | rw [Ai] | rw [Ax] | (simp only [i64_w,i32_w];first | rw [Ai] | rw [Ax]) | skip)
  obtain rfl:=Option.some.inj H
  go_wp2
  go_ret
  exact ⟨er_q,bw_q HB⟩
 ·rw [if_neg c8] at H;have Ai:=decide_eq_false c8;clear c8
  (first | rw [Ai] | rw [Ax] | (simp only [i64_w,i32_w];first | rw [Ai] | rw [Ax]) | skip)
  replace H:=bsi H;obtain ⟨As,A90,H⟩:=H
  (try dsimp only at H)
  have A9:=ak A90;clear A90;have Ay:=ak H;clear H;obtain ⟨Bk,Bl,Bm,Bn,Bo,Bp,Bq,Br,Bs,Bt,Bu,Bv,Bw,Bx⟩:=cf7_ Aa
  go_upto_if 16 with (first | ((with_reducible refine gC_ 86 ?_);refine gL_ 14 Try.func86 #[.slice An Ad.length Ao,.int .i64 Ar] ?_;(with_reducible refine (laws_szIntS.calls _ _ Ad Ar As _ ?_ ?_ A9.out).mono ?_);exact ch_ Bf HB;exact Bg.out;rintro e w' ⟨rfl,⟨nd,rfl⟩⟩;refine ⟨_,rfl,?_⟩))
  have H:=Ay.out;clear Ay
  by_cases c12:As<0
  ·rw [if_pos c12] at H;have Af:=decide_eq_true c12;clear c12
   (first | rw [Af] | rw [At] | (simp only [i64_w,i32_w];first | rw [Af] | rw [At]) | skip)
   obtain rfl:=Option.some.inj H
   go_wp2
   go_ret
   exact ⟨er_q,bw_q HB⟩
  ·rw [if_neg c12] at H;have Af:=decide_eq_false c12;clear c12
   (first | rw [Af] | rw [At] | (simp only [i64_w,i32_w];first | rw [Af] | rw [At]) | skip)
   replace H:=bsi H;obtain ⟨Az,A130,H⟩:=H
   (try dsimp only at H)
   have A13:=ak A130;clear A130;have Ba:=ak H;clear H;obtain ⟨By,Bz,Ca,Cb,Cc,Cd,Ce,Cf,Cg,Ch,Ci,Cj,Ck,Cl⟩:=cf7_ Aa
   go_upto_if 22 with (first | ((with_reducible refine gC_ 25 ?_);refine gL_ 20 Try.func25 #[.slice Ap Ae.length Aq,.int .i64 As] ?_;(with_reducible refine (laws_szRecordS.calls k _ _ Ae As Az _ ?_ ?_ A13.out).mono ?_);exact ch_ Bh HB;exact Bi.out;rintro e w16 ⟨rfl,hb⟩;refine ⟨_,rfl,?_⟩;replace Aa:=bb_ Aa hb;replace HB:=hB_ HB hb))
   have H:=Ba.out;clear Ba
   by_cases c17:Az<0
   ·rw [if_pos c17] at H;have Ag:=decide_eq_true c17;clear c17
    (first | rw [Ag] | rw [Au] | (simp only [i64_w,i32_w];first | rw [Ag] | rw [Au]) | skip)
    obtain rfl:=Option.some.inj H
    go_wp2
    go_ret
    exact ⟨er_q,bw_q HB⟩
   ·rw [if_neg c17] at H;have Ag:=decide_eq_false c17;clear c17
    (first | rw [Ag] | rw [Au] | (simp only [i64_w,i32_w];first | rw [Ag] | rw [Au]) | skip)
    obtain rfl:=Option.some.inj H
    go_wp2
    go_ret
    exact ⟨er_q,bw_q HB⟩

/-! ### laws_toLink: function 126 -/
def laws_toLink.f (a:Int) (b:Int) (c:Int) (d:Int):Option (Int×Int×Int×Int):=some (a,b,c,d)
set_option maxHeartbeats 8000000 in
set_option maxRecDepth 100000 in
theorem laws_toLink.calls (Ac:Int) (Ad:Int) (Ae:Int) (Af:Int) (r1:Int) (r2:Int) (r3:Int) (r4:Int) (w:World) (h:laws_toLink.f Ac Ad Ae Af=some (r1,r2,r3,r4)):
  Calls Try.prog 126 #[.agg #[.int .i64 Ac,.int .i64 Ad,.int .i64 Ae,.int .i64 Af]] w fun e w'=> e=.returned (.agg #[.int .i64 r1,.int .i64 r2,.int .i64 r3,.int .i64 r4])∧Below w.heap.size w w':=by
 have hu134:=Try.underlying134;have hu93:=Try.underlying93;have HB:=ak (Below.refl w.heap.size w);have H:=h
 clear h;unfold laws_toLink.f at H
 simp only [Option.some.injEq,Prod.mk.injEq] at H
 obtain ⟨rfl,rfl,rfl,rfl⟩:=H
 go_enter Try.func126,Try.ntmps126
 go_wp2_with (first | ((with_reducible refine gate_dst (N:=1) rfl ?_);refine box_q 1 #[.int .i64 Ac,.int .i64 Ad,.int .i64 Ae,.int .i64 Af] 134 ?_;intro Bm hg w2 hbox hb;have Aa:=ak (hbox);have Bn:=gs_ HB hg;replace HB:=hB_ HB hb;clear hb hbox hg) | ((with_reducible refine gate_dst (N:=2) rfl ?_);refine box_q 2 #[.int .i64 0,.int .i64 0,.int .i64 0,.int .i64 0] 93 ?_;intro Am hg w3 hbox hb;have Ab:=ak (hbox);have Bo:=gs_ HB hg;replace HB:=hB_ HB hb;have Ag:=nb_ Aa hg;have Ah:=nB_ Aa hg;replace Aa:=bb_ Aa hb;clear hb hbox hg) | ((with_reducible refine gate_dst (N:=3) rfl ?_);refine box_q 3 #[.int .i64 0,.int .i64 0,.int .i64 0,.int .i64 0] 93 ?_;intro Bp hg w4 hbox hb;have An:=ak (hbox);have Bq:=gs_ HB hg;replace HB:=hB_ HB hb;have Ai:=nb_ Aa hg;have Aj:=nB_ Aa hg;replace Aa:=bb_ Aa hb;have Ak:=nb_ Ab hg;have Al:=nB_ Ab hg;replace Ab:=bb_ Ab hb;clear hb hbox hg;have Br:=Ag.out;have Bs:=Ah.out;have Bt:=Ai.out;have Bu:=Aj.out;obtain ⟨Aw,Ax,Ay,Az,Ba,Bb,Bc,Bd⟩:=cf4_ Aa;have Bv:=Al.out;have Bw:=Ak.out;obtain ⟨Be,Bf,Bg,Bh,Bi,Bj,Bk,Bl⟩:=cf4_ An;obtain ⟨Ao,Ap,Aq,Ar,As,At,Au,Av⟩:=cf4_ Ab))
 refine bodyPost_ret (results_cell_row rfl _ _ Am 93 #[.int .i64 Ac,.int .i64 Ad,.int .i64 Ae,.int .i64 Af] (0,0) _ rfl (bp_ Ab) Try.underlying93 rfl (by kernel_rfl)) rfl ?_
 exact ⟨er_q,bw_q HB⟩

/-! ### laws_toLinkS: function 79 -/
def laws_toLinkS.l0:Nat→List (S134)→List (S93)→Int→Option ((List (S93)))
 | 0,_,_,_=> none
 | k+1,c,d,b=> if b<(c.length:Int) then (if 0≤b then ((laws_toLink.f ((rd_T134 c b).f0) ((rd_T134 c b).f1) ((rd_T134 c b).f2) ((rd_T134 c b).f3)).bind fun a=> (if b<(d.length:Int) then (laws_toLinkS.l0 k c (d.set (b:Int).toNat (⟨a.1,a.2.1,a.2.2.1,a.2.2.2⟩:S93)) (wrap64 (b+1))) else (none))) else (none)) else (some d)
def laws_toLinkS.f (k:Nat) (l0:List (S134)):Option ((List (S93))):=if 0≤(l0.length:Int) then (if ((l0.length:Int):Int).toNat≤8796093022208 then (laws_toLinkS.l0 k l0 (List.replicate ((l0.length:Int):Int).toNat z93) 0) else (none)) else (none)
theorem laws_toLinkS.mono_l:∀k,(∀y0 y1 y2,LeO (laws_toLinkS.l0 k y0 y1 y2) (laws_toLinkS.l0 (k+1) y0 y1 y2))
 | 0=> fun _ _ _ r h=> by simp [laws_toLinkS.l0] at h
 | k+1=> by
  have ih0:=laws_toLinkS.mono_l k
  ·intro y0 y1 y2
   unfold laws_toLinkS.l0
   with_reducible repeat' (first | apply ih0 | exact LeO.refl _ | exact LeO.none _ | refine LeO.ite ?_ ?_ | refine LeO.bind ?_ (fun _=> ?_))
theorem laws_toLinkS.mono:∀a0 k,LeO (laws_toLinkS.f k a0) (laws_toLinkS.f (k+1) a0):=by
 intro a0 k
 have ih0:=laws_toLinkS.mono_l k
 unfold laws_toLinkS.f
 with_reducible repeat' (first | apply ih0 | exact LeO.refl _ | exact LeO.none _ | refine LeO.ite ?_ ?_ | refine LeO.bind ?_ (fun _=> ?_))
set_option maxHeartbeats 8000000 in
set_option maxRecDepth 100000 in
theorem laws_toLinkS.calls (k:Nat) (A0:Option Addr) (c0:Nat) (l0:List (S134)) (r:List (S93)) (w:World) (hr0:Kd.C k134 w A0 l0.length l0) (hc0:l0.length≤c0) (h:laws_toLinkS.f k l0=some r):
  Calls Try.prog 79 #[.slice A0 l0.length c0] w fun e w'=> ∃v0_:Value,e=.returned (v0_)∧Kd.R k93 93 w' w.heap.size (fun _=> True) v0_ r∧Below w.heap.size w w':=by
 have hu134:=Try.underlying134;have hu93:=Try.underlying93;have HR0:=ak hr0;have Bk:=ak hc0;clear hr0 hc0;have HB:=ak (Below.refl w.heap.size w);have H:=h
 clear h;unfold laws_toLinkS.f at H
 by_cases c2:0≤(l0.length:Int)
 ·rw [if_pos c2] at H;have Ay:=eq_true c2
  have Az:=decide_eq_true c2;clear c2
  by_cases c3:((l0.length:Int):Int).toNat≤8796093022208
  ·rw [if_pos c3] at H;have Ba:=eq_true c3
   have Bb:=decide_eq_true c3
   clear c3;obtain ⟨Ap,Ad⟩:∃y_:List (S93),y_=(List.replicate ((l0.length:Int):Int).toNat z93):=⟨_,rfl⟩
   replace H:(laws_toLinkS.l0 k l0 Ap 0)=some r:=by first | (rw [Ad];with_reducible exact H) | (have H2_:=(Option.bind_some _ _).symm.trans H;rw [Ad];with_reducible exact H2_) | (have H2_:=(Option.bind_some _ _).symm.trans H;with_reducible exact H2_) | with_reducible exact H | (rw [Ad];exact H) | exact H
   have Ao:=ak Ad;clear Ad;have H':=ak H;clear H
   go_enter Try.func79,Try.ntmps79
   go_wp2_with (first | ((with_reducible refine gate_dst (N:=7) rfl ?_);refine Kd.R_make k93 _ 93 rfl (N:=7) rfl 28 _ _ rfl (l0.length:Int) rfl rfl Try.underlying28 (.agg #[(.int .i64 0),(.int .i64 0),(.int .i64 0),(.int .i64 0)]) 32 info93 rfl (by decide) (by omega) z93 (ok:=fun _=> True) (okp:=fun _=> True) (k93_mkM _ _ _ z93) (fun _ hk=> hk) trivial (of_decide_eq_true as_q) (Nat.le_trans (Nat.mul_le_mul_right _ (of_decide_eq_true as_q:(l0.length:Int).toNat≤8796093022208)) (by omega)) (Below.refl _ _) (Nat.le_refl _) ?_;intro v131 w4 ho5 hb hg_ hnew_;clear hg_ hnew_;(first | rw [←Ao.out] at ho5 | (simp only [Int.reduceToNat] at ho5;rw [←Ao.out] at ho5));have Av:=ak (Kd.R_lower ho5 (below_size (bw_q HB)));replace HB:=hB_ HB hb;clear hb ho5))
   go_loopg [4] k (fun kq v4 w'=> ∃(Ab:List (S93)) (Aa:Int),v4=.int .i64 Aa∧Aside0 (laws_toLinkS.l0 kq l0 Ab Aa=some r)∧Aside0 (kq≤k)∧Aside0 (Kd.R k93 93 w' w.heap.size (fun _=> True) v131 Ab)∧Aside0 (Below w.heap.size w w'))
   case atStart=> exact ⟨(Ap),(0),rs_q,H',⟨Nat.le_refl _⟩,⟨kR_q Av⟩,⟨bw_q HB⟩⟩
   case round=>
    clear H';(try clear c2);(try clear Ay);(try clear Az);(try clear p2);(try clear c3);(try clear Ba);(try clear Bb);obtain ⟨Ab,Aa,rfl,HA,Ax,Ac,HB⟩:=hrel
    cases gk with
    | zero=> exact absurd HA.out (by simp [laws_toLinkS.l0])
    | succ k1=>
     have H:=HA.out;clear HA
     simp only [laws_toLinkS.l0] at H
     by_cases c6:Aa<(l0.length:Int)
     ·rw [if_pos c6] at H;have Bc:=decide_eq_true c6;clear c6
      by_cases c7:0≤Aa
      ·rw [if_pos c7] at H;have Bi:=decide_eq_true c7
       clear c7;replace H:=bsi H;obtain ⟨⟨Af,Ag,Ah,Ai⟩,A80,H⟩:=H
       (try dsimp only at H)
       have A8:=ak A80;clear A80
       by_cases c9:Aa<(Ab.length:Int)
       ·rw [if_pos c9] at H;have Bj:=decide_eq_true c9
        clear c9;obtain ⟨An,Ae⟩:∃y_:List (S93),y_=(Ab.set (Aa:Int).toNat (⟨Af,Ag,Ah,Ai⟩:S93)):=⟨_,rfl⟩
        replace H:(laws_toLinkS.l0 k1 l0 An (wrap64 (Aa+1)))=some r:=by first | (rw [Ae];with_reducible exact H) | (have H2_:=(Option.bind_some _ _).symm.trans H;rw [Ae];with_reducible exact H2_) | (have H2_:=(Option.bind_some _ _).symm.trans H;with_reducible exact H2_) | with_reducible exact H | (rw [Ae];exact H) | exact H
        have Aw:=ak Ae;clear Ae;have H':=ak H;clear H
        have p133:0≤(Aa:Int):=of_decide_eq_true as_q
        have q133:Aa<(l0.length:Int):=of_decide_eq_true as_q
        obtain ⟨Bh,e133,Aj,Ak,Al,Am⟩:=at_T134 HR0.out Aa p133 q133
        cases e133
        obtain ⟨Aj,Ak,Al,Am⟩:=hb4_ HB Aj Ak Al Am;replace p133:=eq_true p133;replace q133:=eq_true q133
        go_wp2_with (first | ((with_reducible refine gC_ 126 ?_);refine gL_ 20 Try.func126 #[.agg #[.int .i64 ((rd_T134 l0 Aa).f0),.int .i64 ((rd_T134 l0 Aa).f1),.int .i64 ((rd_T134 l0 Aa).f2),.int .i64 ((rd_T134 l0 Aa).f3)]] ?_;(with_reducible refine (laws_toLink.calls ((rd_T134 l0 Aa).f0) ((rd_T134 l0 Aa).f1) ((rd_T134 l0 Aa).f2) ((rd_T134 l0 Aa).f3) Af Ag Ah Ai _ A8.out).mono ?_);rintro e w11 ⟨rfl,hb⟩;refine ⟨_,rfl,?_⟩;replace Ac:=rb_ Ac hb;replace HB:=hB_ HB hb;have p10:0≤(Aa:Int):=of_decide_eq_true as_q;have q10:(Aa:Int)<((Ab.length:Int):Int):=of_decide_eq_true as_q;obtain ⟨go10,co10,eo10,Aq,gl10,cl10,HG10⟩:=Kd.R_form Ac.out (by omega);(first | cases eo10 | (injection eo10 with ea_ en_ ec_;(first | subst ea_ | (injection ea_ with ea_;subst ea_));subst ec_;clear en_));have GB10:=ak Aq;have GG10:=ak HG10;clear Aq gl10 HG10;obtain ⟨ce10,hcl10,hM10,hcc10,hfr10⟩:=Kd.R_elem Ac.out z93 (Aa:Int) p10 q10;obtain rfl:=k93_openM hM10;have Bd:w11.cell? ⟨go10,(Aa:Int).toNat*4,none⟩=some (.int .i64 ((rd_T93 Ab Aa).f0)):=hcc10 0 _ rfl;have Be:w11.cell? ⟨go10,(Aa:Int).toNat*4+1,none⟩=some (.int .i64 ((rd_T93 Ab Aa).f1)):=hcc10 1 _ rfl;have Bf:w11.cell? ⟨go10,(Aa:Int).toNat*4+2,none⟩=some (.int .i64 ((rd_T93 Ab Aa).f2)):=hcc10 2 _ rfl;have Bg:w11.cell? ⟨go10,(Aa:Int).toNat*4+3,none⟩=some (.int .i64 ((rd_T93 Ab Aa).f3)):=hcc10 3 _ rfl;have hf10_0:w11.frozen? ⟨go10,(Aa:Int).toNat*4,none⟩=false:=hfr10 0;have hf10_1:w11.frozen? ⟨go10,(Aa:Int).toNat*4+1,none⟩=false:=hfr10 1;have hf10_2:w11.frozen? ⟨go10,(Aa:Int).toNat*4+2,none⟩=false:=hfr10 2;have hf10_3:w11.frozen? ⟨go10,(Aa:Int).toNat*4+3,none⟩=false:=hfr10 3;clear hcl10 hcc10 hfr10 hM10;replace p10:=eq_true p10;replace q10:=eq_true q10;have HX12:=ak (show Kd.R k93 93 w11 w.heap.size (fun _=> True) (.slice (some ⟨go10,0,none⟩) Ab.length co10) Ab from (kR_q Ac));obtain ⟨ce12,hcl12,hM12,hcc12,hfr12⟩:=Kd.R_elem HX12.out z93 (Aa:Int) (of_decide_eq_true as_q) (by have h_:(Aa:Int)<((Ab.length:Int):Int):=of_decide_eq_true as_q;first | exact h_ | (have e_:=(Kd.R_reads' Ac.out).1;omega) | simpa using h_);obtain rfl:=k93_openM hM12;have HP12:=Kd.R_seg HX12.out (Aa:Int) (of_decide_eq_true as_q) (by have h_:(Aa:Int)<((Ab.length:Int):Int):=of_decide_eq_true as_q;first | exact h_ | (have e_:=(Kd.R_reads' Ac.out).1;omega) | simpa using h_) (seg:=[.int .i64 Af,.int .i64 Ag,.int .i64 Ah,.int .i64 Ai]) (j:=0) hcl12 hcc12 (show 4≤4 from by decide) (x':=(⟨Af,Ag,Ah,Ai⟩:S93)) (k93_mkM _ _ _ (⟨Af,Ag,Ah,Ai⟩:S93)) (fun _ hk=> hk);have Ar:=hcc12 0 _ rfl;(try simp only [show (k93).sz=4 from rfl,Nat.mul_one,Nat.add_zero] at Ar);have hf12_0:=hfr12 0;(try simp only [show (k93).sz=4 from rfl,Nat.mul_one,Nat.add_zero] at hf12_0);have As:=hcc12 1 _ rfl;(try simp only [show (k93).sz=4 from rfl,Nat.mul_one,Nat.add_zero] at As);have hf12_1:=hfr12 1;(try simp only [show (k93).sz=4 from rfl,Nat.mul_one,Nat.add_zero] at hf12_1);have At:=hcc12 2 _ rfl;(try simp only [show (k93).sz=4 from rfl,Nat.mul_one,Nat.add_zero] at At);have hf12_2:=hfr12 2;(try simp only [show (k93).sz=4 from rfl,Nat.mul_one,Nat.add_zero] at hf12_2);have Au:=hcc12 3 _ rfl;(try simp only [show (k93).sz=4 from rfl,Nat.mul_one,Nat.add_zero] at Au);have hf12_3:=hfr12 3;(try simp only [show (k93).sz=4 from rfl,Nat.mul_one,Nat.add_zero] at hf12_3);clear hcl12 hcc12 hfr12 hM12) | ((with_reducible refine gate_store (t:=93) (p:=21) rfl ?_);refine store_event (t:=93) (p:=21) (v:=?vo_w13) (w1:=((((w11.setCell ⟨go10,(Aa:Int).toNat*4,none⟩ (.int .i64 Af)).setCell ⟨go10,(Aa:Int).toNat*4+1,none⟩ (.int .i64 Ag)).setCell ⟨go10,(Aa:Int).toNat*4+2,none⟩ (.int .i64 Ah)).setCell ⟨go10,(Aa:Int).toNat*4+3,none⟩ (.int .i64 Ai))) ?hg ?ho ?hn ?hr ?_;(case ho=> rfl);(case hg=> rfl);(case hn=> rfl);(case hr=> first | (go_simp;done) | (go_simp;rfl));intro w13 hw;have hg:w11.grownBy w13 (some go10):=(by rw [hw];exact HP12.2);have hp_:Kd.R k93 93 w13 w.heap.size (fun _=> True) (.slice (some ⟨go10,0,none⟩) Ab.length co10) An:=(by rw [hw,Aw.out];exact HP12.1);clear HP12;replace Ac:=ak (hp_);replace HB:=ak ((by rw [hw];exact below_set (below_set (below_set (below_set (HB.out) GB10.out) GB10.out) GB10.out) GB10.out:Below w.heap.size w w13));clear hg hw hp_))
        go_roundg k1
        case measure=> have:=Ax.out;omega
        case rel=> exact ⟨(An),(wrap64 (Aa+1)),rs_q,H',⟨by have:=Ax.out;omega⟩,⟨kR_q Ac⟩,⟨bw_q HB⟩⟩
       ·rw [if_neg c9] at H
        exact absurd H (by simp)
      ·rw [if_neg c7] at H
       exact absurd H (by simp)
     ·rw [if_neg c6] at H;have Bc:=decide_eq_false c6
      clear c6;obtain rfl:=Option.some.inj H
      go_wp2
      go_ret
      exact ⟨_,er_q,kR_q Ac,bw_q HB⟩
  ·rw [if_neg c3] at H
   exact absurd H (by simp)
 ·rw [if_neg c2] at H
  exact absurd H (by simp)

/-! ### laws_toThing: function 127 -/
def laws_toThing.f (a:Int) (b:Int) (c:Int) (d:Bool):Option (Int×Int×Int×Bool):=some (a,b,c,d)
set_option maxHeartbeats 8000000 in
set_option maxRecDepth 100000 in
theorem laws_toThing.calls (Ac:Int) (Ad:Int) (Ae:Int) (Af:Bool) (r1:Int) (r2:Int) (r3:Int) (r4:Bool) (w:World) (h:laws_toThing.f Ac Ad Ae Af=some (r1,r2,r3,r4)):
  Calls Try.prog 127 #[.agg #[.int .i64 Ac,.int .i64 Ad,.int .i64 Ae,.bool Af]] w fun e w'=> e=.returned (.agg #[.int .i64 r1,.int .i64 r2,.int .i64 r3,.bool r4])∧Below w.heap.size w w':=by
 have hu136:=Try.underlying136;have hu102:=Try.underlying102;have HB:=ak (Below.refl w.heap.size w);have H:=h
 clear h;unfold laws_toThing.f at H
 simp only [Option.some.injEq,Prod.mk.injEq] at H
 obtain ⟨rfl,rfl,rfl,rfl⟩:=H
 go_enter Try.func127,Try.ntmps127
 go_wp2_with (first | ((with_reducible refine gate_dst (N:=1) rfl ?_);refine box_q 1 #[.int .i64 Ac,.int .i64 Ad,.int .i64 Ae,.bool Af] 136 ?_;intro Bm hg w2 hbox hb;have Aa:=ak (hbox);have Bn:=gs_ HB hg;replace HB:=hB_ HB hb;clear hb hbox hg) | ((with_reducible refine gate_dst (N:=2) rfl ?_);refine box_q 2 #[.int .i64 0,.int .i64 0,.int .i64 0,.bool false] 102 ?_;intro Am hg w3 hbox hb;have Ab:=ak (hbox);have Bo:=gs_ HB hg;replace HB:=hB_ HB hb;have Ag:=nb_ Aa hg;have Ah:=nB_ Aa hg;replace Aa:=bb_ Aa hb;clear hb hbox hg) | ((with_reducible refine gate_dst (N:=3) rfl ?_);refine box_q 3 #[.int .i64 0,.int .i64 0,.int .i64 0,.bool false] 102 ?_;intro Bp hg w4 hbox hb;have An:=ak (hbox);have Bq:=gs_ HB hg;replace HB:=hB_ HB hb;have Ai:=nb_ Aa hg;have Aj:=nB_ Aa hg;replace Aa:=bb_ Aa hb;have Ak:=nb_ Ab hg;have Al:=nB_ Ab hg;replace Ab:=bb_ Ab hb;clear hb hbox hg;have Br:=Ag.out;have Bs:=Ah.out;have Bt:=Ai.out;have Bu:=Aj.out;obtain ⟨Aw,Ax,Ay,Az,Ba,Bb,Bc,Bd⟩:=cf4_ Aa;have Bv:=Al.out;have Bw:=Ak.out;obtain ⟨Be,Bf,Bg,Bh,Bi,Bj,Bk,Bl⟩:=cf4_ An;obtain ⟨Ao,Ap,Aq,Ar,As,At,Au,Av⟩:=cf4_ Ab))
 refine bodyPost_ret (results_cell_row rfl _ _ Am 102 #[.int .i64 Ac,.int .i64 Ad,.int .i64 Ae,.bool Af] (0,0) _ rfl (bp_ Ab) Try.underlying102 rfl (by kernel_rfl)) rfl ?_
 exact ⟨er_q,bw_q HB⟩

/-! ### laws_toThingS: function 80 -/
def laws_toThingS.l0:Nat→List (S136)→List (S102)→Int→Option ((List (S102)))
 | 0,_,_,_=> none
 | k+1,c,d,b=> if b<(c.length:Int) then (if 0≤b then ((laws_toThing.f ((rd_T136 c b).f0) ((rd_T136 c b).f1) ((rd_T136 c b).f2) ((rd_T136 c b).f3)).bind fun a=> (if b<(d.length:Int) then (laws_toThingS.l0 k c (d.set (b:Int).toNat (⟨a.1,a.2.1,a.2.2.1,a.2.2.2⟩:S102)) (wrap64 (b+1))) else (none))) else (none)) else (some d)
def laws_toThingS.f (k:Nat) (l0:List (S136)):Option ((List (S102))):=if 0≤(l0.length:Int) then (if ((l0.length:Int):Int).toNat≤8796093022208 then (laws_toThingS.l0 k l0 (List.replicate ((l0.length:Int):Int).toNat z102) 0) else (none)) else (none)
theorem laws_toThingS.mono_l:∀k,(∀y0 y1 y2,LeO (laws_toThingS.l0 k y0 y1 y2) (laws_toThingS.l0 (k+1) y0 y1 y2))
 | 0=> fun _ _ _ r h=> by simp [laws_toThingS.l0] at h
 | k+1=> by
  have ih0:=laws_toThingS.mono_l k
  ·intro y0 y1 y2
   unfold laws_toThingS.l0
   with_reducible repeat' (first | apply ih0 | exact LeO.refl _ | exact LeO.none _ | refine LeO.ite ?_ ?_ | refine LeO.bind ?_ (fun _=> ?_))
theorem laws_toThingS.mono:∀a0 k,LeO (laws_toThingS.f k a0) (laws_toThingS.f (k+1) a0):=by
 intro a0 k
 have ih0:=laws_toThingS.mono_l k
 unfold laws_toThingS.f
 with_reducible repeat' (first | apply ih0 | exact LeO.refl _ | exact LeO.none _ | refine LeO.ite ?_ ?_ | refine LeO.bind ?_ (fun _=> ?_))
set_option maxHeartbeats 8000000 in
set_option maxRecDepth 100000 in
theorem laws_toThingS.calls (k:Nat) (A0:Option Addr) (c0:Nat) (l0:List (S136)) (r:List (S102)) (w:World) (hr0:Kd.C k136 w A0 l0.length l0) (hc0:l0.length≤c0) (h:laws_toThingS.f k l0=some r):
  Calls Try.prog 80 #[.slice A0 l0.length c0] w fun e w'=> ∃v0_:Value,e=.returned (v0_)∧Kd.R k102 102 w' w.heap.size (fun _=> True) v0_ r∧Below w.heap.size w w':=by
 have hu136:=Try.underlying136;have hu102:=Try.underlying102;have HR0:=ak hr0;have Bk:=ak hc0;clear hr0 hc0;have HB:=ak (Below.refl w.heap.size w);have H:=h
 clear h;unfold laws_toThingS.f at H
 by_cases c2:0≤(l0.length:Int)
 ·rw [if_pos c2] at H;have Ay:=eq_true c2
  have Az:=decide_eq_true c2;clear c2
  by_cases c3:((l0.length:Int):Int).toNat≤8796093022208
  ·rw [if_pos c3] at H;have Ba:=eq_true c3
   have Bb:=decide_eq_true c3
   clear c3;obtain ⟨Ap,Ad⟩:∃y_:List (S102),y_=(List.replicate ((l0.length:Int):Int).toNat z102):=⟨_,rfl⟩
   replace H:(laws_toThingS.l0 k l0 Ap 0)=some r:=by first | (rw [Ad];with_reducible exact H) | (have H2_:=(Option.bind_some _ _).symm.trans H;rw [Ad];with_reducible exact H2_) | (have H2_:=(Option.bind_some _ _).symm.trans H;with_reducible exact H2_) | with_reducible exact H | (rw [Ad];exact H) | exact H
   have Ao:=ak Ad;clear Ad;have H':=ak H;clear H
   go_enter Try.func80,Try.ntmps80
   go_wp2_with (first | ((with_reducible refine gate_dst (N:=7) rfl ?_);refine Kd.R_make k102 _ 102 rfl (N:=7) rfl 29 _ _ rfl (l0.length:Int) rfl rfl Try.underlying29 (.agg #[(.int .i64 0),(.int .i64 0),(.int .i64 0),(.bool false)]) 32 info102 rfl (by decide) (by omega) z102 (ok:=fun _=> True) (okp:=fun _=> True) (k102_mkM _ _ _ z102) (fun _ hk=> hk) trivial (of_decide_eq_true as_q) (Nat.le_trans (Nat.mul_le_mul_right _ (of_decide_eq_true as_q:(l0.length:Int).toNat≤8796093022208)) (by omega)) (Below.refl _ _) (Nat.le_refl _) ?_;intro v143 w4 ho5 hb hg_ hnew_;clear hg_ hnew_;(first | rw [←Ao.out] at ho5 | (simp only [Int.reduceToNat] at ho5;rw [←Ao.out] at ho5));have Av:=ak (Kd.R_lower ho5 (below_size (bw_q HB)));replace HB:=hB_ HB hb;clear hb ho5))
   go_loopg [4] k (fun kq v4 w'=> ∃(Ab:List (S102)) (Aa:Int),v4=.int .i64 Aa∧Aside0 (laws_toThingS.l0 kq l0 Ab Aa=some r)∧Aside0 (kq≤k)∧Aside0 (Kd.R k102 102 w' w.heap.size (fun _=> True) v143 Ab)∧Aside0 (Below w.heap.size w w'))
   case atStart=> exact ⟨(Ap),(0),rs_q,H',⟨Nat.le_refl _⟩,⟨kR_q Av⟩,⟨bw_q HB⟩⟩
   case round=>
    clear H';(try clear c2);(try clear Ay);(try clear Az);(try clear p2);(try clear c3);(try clear Ba);(try clear Bb);obtain ⟨Ab,Aa,rfl,HA,Ax,Ac,HB⟩:=hrel
    cases gk with
    | zero=> exact absurd HA.out (by simp [laws_toThingS.l0])
    | succ k1=>
     have H:=HA.out;clear HA
     simp only [laws_toThingS.l0] at H
     by_cases c6:Aa<(l0.length:Int)
     ·rw [if_pos c6] at H;have Bc:=decide_eq_true c6;clear c6
      by_cases c7:0≤Aa
      ·rw [if_pos c7] at H;have Bi:=decide_eq_true c7
       clear c7;replace H:=bsi H;obtain ⟨⟨Af,Ag,Ah,Ai⟩,A80,H⟩:=H
       (try dsimp only at H)
       have A8:=ak A80;clear A80
       by_cases c9:Aa<(Ab.length:Int)
       ·rw [if_pos c9] at H;have Bj:=decide_eq_true c9
        clear c9;obtain ⟨An,Ae⟩:∃y_:List (S102),y_=(Ab.set (Aa:Int).toNat (⟨Af,Ag,Ah,Ai⟩:S102)):=⟨_,rfl⟩
        replace H:(laws_toThingS.l0 k1 l0 An (wrap64 (Aa+1)))=some r:=by first | (rw [Ae];with_reducible exact H) | (have H2_:=(Option.bind_some _ _).symm.trans H;rw [Ae];with_reducible exact H2_) | (have H2_:=(Option.bind_some _ _).symm.trans H;with_reducible exact H2_) | with_reducible exact H | (rw [Ae];exact H) | exact H
        have Aw:=ak Ae;clear Ae;have H':=ak H;clear H
        have p145:0≤(Aa:Int):=of_decide_eq_true as_q
        have q145:Aa<(l0.length:Int):=of_decide_eq_true as_q
        obtain ⟨Bh,e145,Aj,Ak,Al,Am⟩:=at_T136 HR0.out Aa p145 q145
        cases e145
        obtain ⟨Aj,Ak,Al,Am⟩:=hb4_ HB Aj Ak Al Am;replace p145:=eq_true p145;replace q145:=eq_true q145
        go_wp2_with (first | ((with_reducible refine gC_ 127 ?_);refine gL_ 20 Try.func127 #[.agg #[.int .i64 ((rd_T136 l0 Aa).f0),.int .i64 ((rd_T136 l0 Aa).f1),.int .i64 ((rd_T136 l0 Aa).f2),.bool ((rd_T136 l0 Aa).f3)]] ?_;(with_reducible refine (laws_toThing.calls ((rd_T136 l0 Aa).f0) ((rd_T136 l0 Aa).f1) ((rd_T136 l0 Aa).f2) ((rd_T136 l0 Aa).f3) Af Ag Ah Ai _ A8.out).mono ?_);rintro e w11 ⟨rfl,hb⟩;refine ⟨_,rfl,?_⟩;replace Ac:=rb_ Ac hb;replace HB:=hB_ HB hb;have p10:0≤(Aa:Int):=of_decide_eq_true as_q;have q10:(Aa:Int)<((Ab.length:Int):Int):=of_decide_eq_true as_q;obtain ⟨go10,co10,eo10,Aq,gl10,cl10,HG10⟩:=Kd.R_form Ac.out (by omega);(first | cases eo10 | (injection eo10 with ea_ en_ ec_;(first | subst ea_ | (injection ea_ with ea_;subst ea_));subst ec_;clear en_));have GB10:=ak Aq;have GG10:=ak HG10;clear Aq gl10 HG10;obtain ⟨ce10,hcl10,hM10,hcc10,hfr10⟩:=Kd.R_elem Ac.out z102 (Aa:Int) p10 q10;obtain rfl:=k102_openM hM10;have Bd:w11.cell? ⟨go10,(Aa:Int).toNat*4,none⟩=some (.int .i64 ((rd_T102 Ab Aa).f0)):=hcc10 0 _ rfl;have Be:w11.cell? ⟨go10,(Aa:Int).toNat*4+1,none⟩=some (.int .i64 ((rd_T102 Ab Aa).f1)):=hcc10 1 _ rfl;have Bf:w11.cell? ⟨go10,(Aa:Int).toNat*4+2,none⟩=some (.int .i64 ((rd_T102 Ab Aa).f2)):=hcc10 2 _ rfl;have Bg:w11.cell? ⟨go10,(Aa:Int).toNat*4+3,none⟩=some (.bool ((rd_T102 Ab Aa).f3)):=hcc10 3 _ rfl;have hf10_0:w11.frozen? ⟨go10,(Aa:Int).toNat*4,none⟩=false:=hfr10 0;have hf10_1:w11.frozen? ⟨go10,(Aa:Int).toNat*4+1,none⟩=false:=hfr10 1;have hf10_2:w11.frozen? ⟨go10,(Aa:Int).toNat*4+2,none⟩=false:=hfr10 2;have hf10_3:w11.frozen? ⟨go10,(Aa:Int).toNat*4+3,none⟩=false:=hfr10 3;clear hcl10 hcc10 hfr10 hM10;replace p10:=eq_true p10;replace q10:=eq_true q10;have HX12:=ak (show Kd.R k102 102 w11 w.heap.size (fun _=> True) (.slice (some ⟨go10,0,none⟩) Ab.length co10) Ab from (kR_q Ac));obtain ⟨ce12,hcl12,hM12,hcc12,hfr12⟩:=Kd.R_elem HX12.out z102 (Aa:Int) (of_decide_eq_true as_q) (by have h_:(Aa:Int)<((Ab.length:Int):Int):=of_decide_eq_true as_q;first | exact h_ | (have e_:=(Kd.R_reads' Ac.out).1;omega) | simpa using h_);obtain rfl:=k102_openM hM12;have HP12:=Kd.R_seg HX12.out (Aa:Int) (of_decide_eq_true as_q) (by have h_:(Aa:Int)<((Ab.length:Int):Int):=of_decide_eq_true as_q;first | exact h_ | (have e_:=(Kd.R_reads' Ac.out).1;omega) | simpa using h_) (seg:=[.int .i64 Af,.int .i64 Ag,.int .i64 Ah,.bool Ai]) (j:=0) hcl12 hcc12 (show 4≤4 from by decide) (x':=(⟨Af,Ag,Ah,Ai⟩:S102)) (k102_mkM _ _ _ (⟨Af,Ag,Ah,Ai⟩:S102)) (fun _ hk=> hk);have Ar:=hcc12 0 _ rfl;(try simp only [show (k102).sz=4 from rfl,Nat.mul_one,Nat.add_zero] at Ar);have hf12_0:=hfr12 0;(try simp only [show (k102).sz=4 from rfl,Nat.mul_one,Nat.add_zero] at hf12_0);have As:=hcc12 1 _ rfl;(try simp only [show (k102).sz=4 from rfl,Nat.mul_one,Nat.add_zero] at As);have hf12_1:=hfr12 1;(try simp only [show (k102).sz=4 from rfl,Nat.mul_one,Nat.add_zero] at hf12_1);have At:=hcc12 2 _ rfl;(try simp only [show (k102).sz=4 from rfl,Nat.mul_one,Nat.add_zero] at At);have hf12_2:=hfr12 2;(try simp only [show (k102).sz=4 from rfl,Nat.mul_one,Nat.add_zero] at hf12_2);have Au:=hcc12 3 _ rfl;(try simp only [show (k102).sz=4 from rfl,Nat.mul_one,Nat.add_zero] at Au);have hf12_3:=hfr12 3;(try simp only [show (k102).sz=4 from rfl,Nat.mul_one,Nat.add_zero] at hf12_3);clear hcl12 hcc12 hfr12 hM12) | ((with_reducible refine gate_store (t:=102) (p:=21) rfl ?_);refine store_event (t:=102) (p:=21) (v:=?vo_w13) (w1:=((((w11.setCell ⟨go10,(Aa:Int).toNat*4,none⟩ (.int .i64 Af)).setCell ⟨go10,(Aa:Int).toNat*4+1,none⟩ (.int .i64 Ag)).setCell ⟨go10,(Aa:Int).toNat*4+2,none⟩ (.int .i64 Ah)).setCell ⟨go10,(Aa:Int).toNat*4+3,none⟩ (.bool Ai))) ?hg ?ho ?hn ?hr ?_;(case ho=> rfl);(case hg=> rfl);(case hn=> rfl);(case hr=> first | (go_simp;done) | (go_simp;rfl));intro w13 hw;have hg:w11.grownBy w13 (some go10):=(by rw [hw];exact HP12.2);have hp_:Kd.R k102 102 w13 w.heap.size (fun _=> True) (.slice (some ⟨go10,0,none⟩) Ab.length co10) An:=(by rw [hw,Aw.out];exact HP12.1);clear HP12;replace Ac:=ak (hp_);replace HB:=ak ((by rw [hw];exact below_set (below_set (below_set (below_set (HB.out) GB10.out) GB10.out) GB10.out) GB10.out:Below w.heap.size w w13));clear hg hw hp_))
        go_roundg k1
        case measure=> have:=Ax.out;omega
        case rel=> exact ⟨(An),(wrap64 (Aa+1)),rs_q,H',⟨by have:=Ax.out;omega⟩,⟨kR_q Ac⟩,⟨bw_q HB⟩⟩
       ·rw [if_neg c9] at H
        exact absurd H (by simp)
      ·rw [if_neg c7] at H
       exact absurd H (by simp)
     ·rw [if_neg c6] at H;have Bc:=decide_eq_false c6
      clear c6;obtain rfl:=Option.some.inj H
      go_wp2
      go_ret
      exact ⟨_,er_q,kR_q Ac,bw_q HB⟩
  ·rw [if_neg c3] at H
   exact absurd H (by simp)
 ·rw [if_neg c2] at H
  exact absurd H (by simp)

/-! ### laws_toNet: function 17 -/
def laws_toNet.f (k:Nat) (a:Int) (b:List (S134)) (c:List (S136)):Option (Int×(List (S93))×(List (S102))):=(laws_toLinkS.f k b).bind fun d=> ((laws_toThingS.f k c).bind fun e=> (some (a,d,e)))
theorem laws_toNet.mono:∀a0 a1 a2 k,LeO (laws_toNet.f k a0 a1 a2) (laws_toNet.f (k+1) a0 a1 a2):=by
 intro a0 a1 a2 k
 unfold laws_toNet.f
 with_reducible repeat' (first | apply laws_toLinkS.mono | apply laws_toThingS.mono | exact LeO.refl _ | exact LeO.none _ | refine LeO.ite ?_ ?_ | refine LeO.bind ?_ (fun _=> ?_))
set_option maxHeartbeats 8000000 in
set_option maxRecDepth 100000 in
theorem laws_toNet.calls (k:Nat) (Af:Int) (Ah:Option Addr) (Ai:Nat) (Ad:List (S134)) (Aj:Option Addr) (Ak:Nat) (Ae:List (S136)) (r1:Int) (r2:List (S93)) (r3:List (S102)) (w:World) (hr0_1:Kd.C k134 w Ah Ad.length Ad) (hc0_1:Ad.length≤Ai) (hr0_2:Kd.C k136 w Aj Ae.length Ae) (hc0_2:Ae.length≤Ak) (h:laws_toNet.f k Af Ad Ae=some (r1,r2,r3)):
  Calls Try.prog 17 #[.agg #[.int .i64 Af,.slice Ah Ad.length Ai,.slice Aj Ae.length Ak]] w fun e w'=> ∃v1_ v2_:Value,e=.returned (.agg #[.int .i64 r1,v1_,v2_])∧Kd.R k93 93 w' w.heap.size (fun _=> True) v1_ r2∧Kd.R k102 102 w' w.heap.size (fun _=> True) v2_ r3∧Below w.heap.size w w':=by
 have hu25:=Try.underlying25;have hu31:=Try.underlying31;have Au:=ak hr0_1;have Av:=ak hc0_1;clear hr0_1 hc0_1;have Aw:=ak hr0_2;have Ax:=ak hc0_2;clear hr0_2 hc0_2;have HB:=ak (Below.refl w.heap.size w);have H:=h
 clear h;unfold laws_toNet.f at H;replace H:=bsi H;obtain ⟨Ar,A20,H⟩:=H
 (try dsimp only at H)
 have A2:=ak A20;clear A20;replace H:=bsi H;obtain ⟨At,A30,H⟩:=H
 (try dsimp only at H)
 have A3:=ak A30;clear A30
 simp only [Option.some.injEq,Prod.mk.injEq] at H
 obtain ⟨rfl,rfl,rfl⟩:=H
 go_enter Try.func17,Try.ntmps17
 go_wp2_with (first | ((with_reducible refine gate_dst (N:=1) rfl ?_);refine box_q 1 #[.int .i64 Af,.slice Ah Ad.length Ai,.slice Aj Ae.length Ak] 25 ?_;intro Cj hg w4 hbox hb;have Aa:=ak (hbox);have Ck:=gs_ HB hg;replace HB:=hB_ HB hb;clear hb hbox hg) | ((with_reducible refine gate_dst (N:=2) rfl ?_);refine box_q 2 #[.int .i64 0,.slice none 0 0,.slice none 0 0] 31 ?_;intro Ay hg w5 hbox hb;have Ab:=ak (hbox);have Cl:=gs_ HB hg;replace HB:=hB_ HB hb;have Al:=nb_ Aa hg;have Am:=nB_ Aa hg;replace Aa:=bb_ Aa hb;clear hb hbox hg) | ((with_reducible refine gate_dst (N:=3) rfl ?_);refine box_q 3 #[.int .i64 0,.slice none 0 0,.slice none 0 0] 31 ?_;intro Cm hg w6 hbox hb;have Ac:=ak (hbox);have Cn:=gs_ HB hg;replace HB:=hB_ HB hb;have An:=nb_ Aa hg;have Ao:=nB_ Aa hg;replace Aa:=bb_ Aa hb;have Ap:=nb_ Ab hg;have Aq:=nB_ Ab hg;replace Ab:=bb_ Ab hb;clear hb hbox hg;have Cq:=Al.out;have Cr:=Am.out;have Cs:=An.out;have Ct:=Ao.out;obtain ⟨Cd,Ce,Cf,Cg,Ch,Ci⟩:=cf3_ Aa;have Co:=Aq.out;have Cp:=Ap.out;obtain ⟨Az,Ba,Bb,Bc,Bd,Be⟩:=cf3_ Ac) | ((with_reducible refine gC_ 79 ?_);refine gL_ 9 Try.func79 #[.slice Ah Ad.length Ai] ?_;(with_reducible refine (laws_toLinkS.calls k _ _ Ad Ar _ ?_ ?_ A2.out).mono ?_);exact Kd.C_below Au.out (bw_q HB);exact Av.out;rintro e w12 ⟨v155,rfl,ho0,hb⟩;refine ⟨_,rfl,?_⟩;have Ag:=ak (Kd.R_lower ho0 (below_size (bw_q HB)));replace Aa:=bF_ Aa hb;replace Ab:=bF_ Ab hb;replace Ac:=bB_ #[.int .i64 Af,.slice none 0 0,.slice none 0 0] Ac hb;replace HB:=hB_ HB hb;(try clear ho0);obtain ⟨Ao13,co13,eo13⟩:=Kd.R_slice Ag.out;subst eo13;obtain ⟨Bf,Bg,Bh,Bi,Bj,Bk⟩:=cf3_ Ac;obtain ⟨Bl,Bm,Bn,Bo,Bp,Bq⟩:=cf3_ Aa) | ((with_reducible refine gC_ 80 ?_);refine gL_ 13 Try.func80 #[.slice Aj Ae.length Ak] ?_;(with_reducible refine (laws_toThingS.calls k _ _ Ae At _ ?_ ?_ A3.out).mono ?_);exact Kd.C_below Aw.out (bw_q HB);exact Ax.out;rintro e w16 ⟨v158,rfl,ho0,hb⟩;refine ⟨_,rfl,?_⟩;replace Ag:=ak (Kd.R_below (by exact (Kd.R_mono (rF_ (Kd.R_types Ag.out Ac.out (by decide))) (fun _ h_=> h_.1))) hb);have As:=ak (Kd.R_lower ho0 (below_size (bw_q HB)));replace Aa:=bF_ Aa hb;replace Ab:=bF_ Ab hb;replace Ac:=bB_ #[.int .i64 Af,.slice Ao13 Ar.length co13,.slice none 0 0] Ac hb;replace HB:=hB_ HB hb;(try clear ho0);obtain ⟨Ao17,co17,eo17⟩:=Kd.R_slice As.out;subst eo17;obtain ⟨Br,Bs,Bt,Bu,Bv,Bw⟩:=cf3_ Ac;obtain ⟨Bx,By,Bz,Ca,Cb,Cc⟩:=cf3_ Ab))
 refine bodyPost_ret (results_cell_row rfl _ _ Ay 31 #[.int .i64 Af,.slice Ao13 Ar.length co13,.slice Ao17 At.length co17] (0,0) _ rfl (bp_ Ab) Try.underlying31 rfl (by kernel_rfl)) rfl ?_
 exact ⟨_,_,er_q,by exact Kd.R_mono (rF_ (Kd.R_types (Kd.R_types Ag.out Ac.out (by decide)) Ab.out (by decide))) (fun _ hk=> trivial),by exact Kd.R_mono (rF_ (Kd.R_types (Kd.R_types As.out Ac.out (by decide)) Ab.out (by decide))) (fun _ hk=> trivial),bw_q HB⟩

/-! ### laws_toNear: function 140 -/
def laws_toNear.f (a:Int) (b:Int):Option (Int×Int):=some (a,b)
set_option maxHeartbeats 8000000 in
set_option maxRecDepth 100000 in
theorem laws_toNear.calls (Ac:Int) (Ad:Int) (r1:Int) (r2:Int) (w:World) (h:laws_toNear.f Ac Ad=some (r1,r2)):
  Calls Try.prog 140 #[.agg #[.int .i64 Ac,.int .i64 Ad]] w fun e w'=> e=.returned (.agg #[.int .i64 r1,.int .i64 r2])∧Below w.heap.size w w':=by
 have hu141:=Try.underlying141;have hu127:=Try.underlying127;have HB:=ak (Below.refl w.heap.size w);have H:=h
 clear h;unfold laws_toNear.f at H
 simp only [Option.some.injEq,Prod.mk.injEq] at H
 obtain ⟨rfl,rfl⟩:=H
 go_enter Try.func140,Try.ntmps140
 go_wp2_with (first | ((with_reducible refine gate_dst (N:=1) rfl ?_);refine box_q 1 #[.int .i64 Ac,.int .i64 Ad] 141 ?_;intro Ay hg w2 hbox hb;have Aa:=ak (hbox);have Az:=gs_ HB hg;replace HB:=hB_ HB hb;clear hb hbox hg) | ((with_reducible refine gate_dst (N:=2) rfl ?_);refine box_q 2 #[.int .i64 0,.int .i64 0] 127 ?_;intro Ak hg w3 hbox hb;have Ab:=ak (hbox);have Ba:=gs_ HB hg;replace HB:=hB_ HB hb;have Ae:=nb_ Aa hg;have Af:=nB_ Aa hg;replace Aa:=bb_ Aa hb;clear hb hbox hg) | ((with_reducible refine gate_dst (N:=3) rfl ?_);refine box_q 3 #[.int .i64 0,.int .i64 0] 127 ?_;intro Bb hg w4 hbox hb;have Al:=ak (hbox);have Bc:=gs_ HB hg;replace HB:=hB_ HB hb;have Ag:=nb_ Aa hg;have Ah:=nB_ Aa hg;replace Aa:=bb_ Aa hb;have Ai:=nb_ Ab hg;have Aj:=nB_ Ab hg;replace Ab:=bb_ Ab hb;clear hb hbox hg;have Bd:=Ae.out;have Be:=Af.out;have Bf:=Ag.out;have Bg:=Ah.out;obtain ⟨Aq,Ar,As,At⟩:=cf2_ Aa;have Bh:=Aj.out;have Bi:=Ai.out;obtain ⟨Au,Av,Aw,Ax⟩:=cf2_ Al;obtain ⟨Am,An,Ao,Ap⟩:=cf2_ Ab))
 refine bodyPost_ret (results_cell_row rfl _ _ Ak 127 #[.int .i64 Ac,.int .i64 Ad] (0,0) _ rfl (bp_ Ab) Try.underlying127 rfl (by kernel_rfl)) rfl ?_
 exact ⟨er_q,bw_q HB⟩

/-! ### laws_toNearS: function 106 -/
def laws_toNearS.l0:Nat→List (S141)→List (S127)→Int→Option ((List (S127)))
 | 0,_,_,_=> none
 | k+1,c,d,a=> if a<(c.length:Int) then (if 0≤a then ((laws_toNear.f ((rd_T141 c a).f0) ((rd_T141 c a).f1)).bind fun b=> (if a<(d.length:Int) then (laws_toNearS.l0 k c (d.set (a:Int).toNat (⟨b.1,b.2⟩:S127)) (wrap64 (a+1))) else (none))) else (none)) else (some d)
def laws_toNearS.f (k:Nat) (l0:List (S141)):Option ((List (S127))):=if 0≤(l0.length:Int) then (if ((l0.length:Int):Int).toNat≤17592186044416 then (laws_toNearS.l0 k l0 (List.replicate ((l0.length:Int):Int).toNat z127) 0) else (none)) else (none)
theorem laws_toNearS.mono_l:∀k,(∀y0 y1 y2,LeO (laws_toNearS.l0 k y0 y1 y2) (laws_toNearS.l0 (k+1) y0 y1 y2))
 | 0=> fun _ _ _ r h=> by simp [laws_toNearS.l0] at h
 | k+1=> by
  have ih0:=laws_toNearS.mono_l k
  ·intro y0 y1 y2
   unfold laws_toNearS.l0
   with_reducible repeat' (first | apply ih0 | exact LeO.refl _ | exact LeO.none _ | refine LeO.ite ?_ ?_ | refine LeO.bind ?_ (fun _=> ?_))
theorem laws_toNearS.mono:∀a0 k,LeO (laws_toNearS.f k a0) (laws_toNearS.f (k+1) a0):=by
 intro a0 k
 have ih0:=laws_toNearS.mono_l k
 unfold laws_toNearS.f
 with_reducible repeat' (first | apply ih0 | exact LeO.refl _ | exact LeO.none _ | refine LeO.ite ?_ ?_ | refine LeO.bind ?_ (fun _=> ?_))
set_option maxHeartbeats 8000000 in
set_option maxRecDepth 100000 in
theorem laws_toNearS.calls (k:Nat) (A0:Option Addr) (c0:Nat) (l0:List (S141)) (r:List (S127)) (w:World) (hr0:Kd.C k141 w A0 l0.length l0) (hc0:l0.length≤c0) (h:laws_toNearS.f k l0=some r):
  Calls Try.prog 106 #[.slice A0 l0.length c0] w fun e w'=> ∃v0_:Value,e=.returned (v0_)∧Kd.R k127 127 w' w.heap.size (fun _=> True) v0_ r∧Below w.heap.size w w':=by
 have hu141:=Try.underlying141;have hu127:=Try.underlying127;have HR0:=ak hr0;have Bc:=ak hc0;clear hr0 hc0;have HB:=ak (Below.refl w.heap.size w);have H:=h
 clear h;unfold laws_toNearS.f at H
 by_cases c2:0≤(l0.length:Int)
 ·rw [if_pos c2] at H;have As:=eq_true c2
  have At:=decide_eq_true c2;clear c2
  by_cases c3:((l0.length:Int):Int).toNat≤17592186044416
  ·rw [if_pos c3] at H;have Au:=eq_true c3
   have Av:=decide_eq_true c3
   clear c3;obtain ⟨Al,Ad⟩:∃y_:List (S127),y_=(List.replicate ((l0.length:Int):Int).toNat z127):=⟨_,rfl⟩
   replace H:(laws_toNearS.l0 k l0 Al 0)=some r:=by first | (rw [Ad];with_reducible exact H) | (have H2_:=(Option.bind_some _ _).symm.trans H;rw [Ad];with_reducible exact H2_) | (have H2_:=(Option.bind_some _ _).symm.trans H;with_reducible exact H2_) | with_reducible exact H | (rw [Ad];exact H) | exact H
   have Ak:=ak Ad;clear Ad;have H':=ak H;clear H
   go_enter Try.func106,Try.ntmps106
   go_wp2_with (first | ((with_reducible refine gate_dst (N:=7) rfl ?_);refine Kd.R_make k127 _ 127 rfl (N:=7) rfl 59 _ _ rfl (l0.length:Int) rfl rfl Try.underlying59 (.agg #[(.int .i64 0),(.int .i64 0)]) 16 info127 rfl (by decide) (by omega) z127 (ok:=fun _=> True) (okp:=fun _=> True) (k127_mkM _ _ _ z127) (fun _ hk=> hk) trivial (of_decide_eq_true as_q) (Nat.le_trans (Nat.mul_le_mul_right _ (of_decide_eq_true as_q:(l0.length:Int).toNat≤17592186044416)) (by omega)) (Below.refl _ _) (Nat.le_refl _) ?_;intro v275 w4 ho5 hb hg_ hnew_;clear hg_ hnew_;(first | rw [←Ak.out] at ho5 | (simp only [Int.reduceToNat] at ho5;rw [←Ak.out] at ho5));have Ap:=ak (Kd.R_lower ho5 (below_size (bw_q HB)));replace HB:=hB_ HB hb;clear hb ho5))
   go_loopg [4] k (fun kq v4 w'=> ∃(Ab:List (S127)) (Aa:Int),v4=.int .i64 Aa∧Aside0 (laws_toNearS.l0 kq l0 Ab Aa=some r)∧Aside0 (kq≤k)∧Aside0 (Kd.R k127 127 w' w.heap.size (fun _=> True) v275 Ab)∧Aside0 (Below w.heap.size w w'))
   case atStart=> exact ⟨(Al),(0),rs_q,H',⟨Nat.le_refl _⟩,⟨kR_q Ap⟩,⟨bw_q HB⟩⟩
   case round=>
    clear H';(try clear c1);(try clear c2);(try clear As);(try clear At);(try clear p2);(try clear c3);(try clear Au);(try clear Av);obtain ⟨Ab,Aa,rfl,HA,Ar,Ac,HB⟩:=hrel
    cases gk with
    | zero=> exact absurd HA.out (by simp [laws_toNearS.l0])
    | succ k1=>
     have H:=HA.out;clear HA
     simp only [laws_toNearS.l0] at H
     by_cases c6:Aa<(l0.length:Int)
     ·rw [if_pos c6] at H;have Aw:=decide_eq_true c6;clear c6
      by_cases c7:0≤Aa
      ·rw [if_pos c7] at H;have Ba:=decide_eq_true c7
       clear c7;replace H:=bsi H;obtain ⟨⟨Af,Ag⟩,A80,H⟩:=H
       (try dsimp only at H)
       have A8:=ak A80;clear A80
       by_cases c9:Aa<(Ab.length:Int)
       ·rw [if_pos c9] at H;have Bb:=decide_eq_true c9
        clear c9;obtain ⟨Aj,Ae⟩:∃y_:List (S127),y_=(Ab.set (Aa:Int).toNat (⟨Af,Ag⟩:S127)):=⟨_,rfl⟩
        replace H:(laws_toNearS.l0 k1 l0 Aj (wrap64 (Aa+1)))=some r:=by first | (rw [Ae];with_reducible exact H) | (have H2_:=(Option.bind_some _ _).symm.trans H;rw [Ae];with_reducible exact H2_) | (have H2_:=(Option.bind_some _ _).symm.trans H;with_reducible exact H2_) | with_reducible exact H | (rw [Ae];exact H) | exact H
        have Aq:=ak Ae;clear Ae;have H':=ak H;clear H
        have p277:0≤(Aa:Int):=of_decide_eq_true as_q
        have q277:Aa<(l0.length:Int):=of_decide_eq_true as_q
        obtain ⟨Az,e277,Ah,Ai⟩:=at_T141 HR0.out Aa p277 q277
        cases e277
        obtain ⟨Ah,Ai⟩:=hb2_ HB Ah Ai;replace p277:=eq_true p277;replace q277:=eq_true q277
        go_wp2_with (first | ((with_reducible refine gC_ 140 ?_);refine gL_ 20 Try.func140 #[.agg #[.int .i64 ((rd_T141 l0 Aa).f0),.int .i64 ((rd_T141 l0 Aa).f1)]] ?_;(with_reducible refine (laws_toNear.calls ((rd_T141 l0 Aa).f0) ((rd_T141 l0 Aa).f1) Af Ag _ A8.out).mono ?_);rintro e w11 ⟨rfl,hb⟩;refine ⟨_,rfl,?_⟩;replace Ac:=rb_ Ac hb;replace HB:=hB_ HB hb;have p10:0≤(Aa:Int):=of_decide_eq_true as_q;have q10:(Aa:Int)<((Ab.length:Int):Int):=of_decide_eq_true as_q;obtain ⟨go10,co10,eo10,Am,gl10,cl10,HG10⟩:=Kd.R_form Ac.out (by omega);(first | cases eo10 | (injection eo10 with ea_ en_ ec_;(first | subst ea_ | (injection ea_ with ea_;subst ea_));subst ec_;clear en_));have GB10:=ak Am;have GG10:=ak HG10;clear Am gl10 HG10;obtain ⟨ce10,hcl10,hM10,hcc10,hfr10⟩:=Kd.R_elem Ac.out z127 (Aa:Int) p10 q10;obtain rfl:=k127_openM hM10;have Ax:w11.cell? ⟨go10,(Aa:Int).toNat*2,none⟩=some (.int .i64 ((rd_T127 Ab Aa).f0)):=hcc10 0 _ rfl;have Ay:w11.cell? ⟨go10,(Aa:Int).toNat*2+1,none⟩=some (.int .i64 ((rd_T127 Ab Aa).f1)):=hcc10 1 _ rfl;have hf10_0:w11.frozen? ⟨go10,(Aa:Int).toNat*2,none⟩=false:=hfr10 0;have hf10_1:w11.frozen? ⟨go10,(Aa:Int).toNat*2+1,none⟩=false:=hfr10 1;clear hcl10 hcc10 hfr10 hM10;replace p10:=eq_true p10;replace q10:=eq_true q10;have HX12:=ak (show Kd.R k127 127 w11 w.heap.size (fun _=> True) (.slice (some ⟨go10,0,none⟩) Ab.length co10) Ab from (kR_q Ac));obtain ⟨ce12,hcl12,hM12,hcc12,hfr12⟩:=Kd.R_elem HX12.out z127 (Aa:Int) (of_decide_eq_true as_q) (by have h_:(Aa:Int)<((Ab.length:Int):Int):=of_decide_eq_true as_q;first | exact h_ | (have e_:=(Kd.R_reads' Ac.out).1;omega) | simpa using h_);obtain rfl:=k127_openM hM12;have HP12:=Kd.R_seg HX12.out (Aa:Int) (of_decide_eq_true as_q) (by have h_:(Aa:Int)<((Ab.length:Int):Int):=of_decide_eq_true as_q;first | exact h_ | (have e_:=(Kd.R_reads' Ac.out).1;omega) | simpa using h_) (seg:=[.int .i64 Af,.int .i64 Ag]) (j:=0) hcl12 hcc12 (show 2≤2 from by decide) (x':=(⟨Af,Ag⟩:S127)) (k127_mkM _ _ _ (⟨Af,Ag⟩:S127)) (fun _ hk=> hk);have An:=hcc12 0 _ rfl;(try simp only [show (k127).sz=2 from rfl,Nat.mul_one,Nat.add_zero] at An);have hf12_0:=hfr12 0;(try simp only [show (k127).sz=2 from rfl,Nat.mul_one,Nat.add_zero] at hf12_0);have Ao:=hcc12 1 _ rfl;(try simp only [show (k127).sz=2 from rfl,Nat.mul_one,Nat.add_zero] at Ao);have hf12_1:=hfr12 1;(try simp only [show (k127).sz=2 from rfl,Nat.mul_one,Nat.add_zero] at hf12_1);clear hcl12 hcc12 hfr12 hM12) | ((with_reducible refine gate_store (t:=127) (p:=21) rfl ?_);refine store_event (t:=127) (p:=21) (v:=?vo_w13) (w1:=((w11.setCell ⟨go10,(Aa:Int).toNat*2,none⟩ (.int .i64 Af)).setCell ⟨go10,(Aa:Int).toNat*2+1,none⟩ (.int .i64 Ag))) ?hg ?ho ?hn ?hr ?_;(case ho=> rfl);(case hg=> rfl);(case hn=> rfl);(case hr=> first | (go_simp;done) | (go_simp;rfl));intro w13 hw;have hg:w11.grownBy w13 (some go10):=(by rw [hw];exact HP12.2);have hp_:Kd.R k127 127 w13 w.heap.size (fun _=> True) (.slice (some ⟨go10,0,none⟩) Ab.length co10) Aj:=(by rw [hw,Aq.out];exact HP12.1);clear HP12;replace Ac:=ak (hp_);replace HB:=ak ((by rw [hw];exact below_set (below_set (HB.out) GB10.out) GB10.out:Below w.heap.size w w13));clear hg hw hp_))
        go_roundg k1
        case measure=> have:=Ar.out;omega
        case rel=> exact ⟨(Aj),(wrap64 (Aa+1)),rs_q,H',⟨by have:=Ar.out;omega⟩,⟨kR_q Ac⟩,⟨bw_q HB⟩⟩
       ·rw [if_neg c9] at H
        exact absurd H (by simp)
      ·rw [if_neg c7] at H
       exact absurd H (by simp)
     ·rw [if_neg c6] at H;have Aw:=decide_eq_false c6
      clear c6;obtain rfl:=Option.some.inj H
      go_wp2
      go_ret
      exact ⟨_,er_q,kR_q Ac,bw_q HB⟩
  ·rw [if_neg c3] at H
   exact absurd H (by simp)
 ·rw [if_neg c2] at H
  exact absurd H (by simp)

/-! ### laws_toRecord: function 36 -/
def laws_toRecord.f (k:Nat) (a:Int) (b:Int) (c:Int) (d:Int) (e:Int) (g:List (S141)) (h:Int) (i:Bool):Option (Int×Int×Int×Int×Int×(List (S127))×Int×Bool):=(laws_toNearS.f k g).bind fun j=> (some (a,b,c,d,e,j,h,i))
theorem laws_toRecord.mono:∀a0 a1 a2 a3 a4 a5 a6 a7 k,LeO (laws_toRecord.f k a0 a1 a2 a3 a4 a5 a6 a7) (laws_toRecord.f (k+1) a0 a1 a2 a3 a4 a5 a6 a7):=by
 intro a0 a1 a2 a3 a4 a5 a6 a7 k
 unfold laws_toRecord.f
 with_reducible repeat' (first | apply laws_toNearS.mono | exact LeO.refl _ | exact LeO.none _ | refine LeO.ite ?_ ?_ | refine LeO.bind ?_ (fun _=> ?_))
set_option maxHeartbeats 8000000 in
set_option maxRecDepth 100000 in
theorem laws_toRecord.calls (k:Nat) (Ae:Int) (Af:Int) (Ag:Int) (Ah:Int) (Ai:Int) (Aj:Option Addr) (Ak:Nat) (Ac:List (S141)) (Al:Int) (Am:Bool) (r1:Int) (r2:Int) (r3:Int) (r4:Int) (r5:Int) (r6:List (S127)) (r7:Int) (r8:Bool) (w:World) (hr0_5:Kd.C k141 w Aj Ac.length Ac) (hc0_5:Ac.length≤Ak) (h:laws_toRecord.f k Ae Af Ag Ah Ai Ac Al Am=some (r1,r2,r3,r4,r5,r6,r7,r8)):
  Calls Try.prog 36 #[.agg #[.int .i64 Ae,.int .i64 Af,.int .i64 Ag,.int .i64 Ah,.int .i64 Ai,.slice Aj Ac.length Ak,.int .i64 Al,.bool Am]] w fun e w'=> ∃v5_:Value,e=.returned (.agg #[.int .i64 r1,.int .i64 r2,.int .i64 r3,.int .i64 r4,.int .i64 r5,v5_,.int .i64 r7,.bool r8])∧Kd.R k127 127 w' w.heap.size (fun _=> True) v5_ r6∧Below w.heap.size w w':=by
 have hu57:=Try.underlying57;have hu61:=Try.underlying61;have Av:=ak hr0_5;have Aw:=ak hc0_5;clear hr0_5 hc0_5;have HB:=ak (Below.refl w.heap.size w);have H:=h
 clear h;unfold laws_toRecord.f at H;replace H:=bsi H;obtain ⟨Au,A20,H⟩:=H
 (try dsimp only at H)
 have A2:=ak A20;clear A20
 simp only [Option.some.injEq,Prod.mk.injEq] at H
 obtain ⟨rfl,rfl,rfl,rfl,rfl,rfl,rfl,rfl⟩:=H
 go_enter Try.func36,Try.ntmps36
 go_wp2_with (first | ((with_reducible refine gate_dst (N:=1) rfl ?_);refine box_q 1 #[.int .i64 Ae,.int .i64 Af,.int .i64 Ag,.int .i64 Ah,.int .i64 Ai,.slice Aj Ac.length Ak,.int .i64 Al,.bool Am] 57 ?_;intro Ea hg w3 hbox hb;have Aa:=ak (hbox);have Eb:=gs_ HB hg;replace HB:=hB_ HB hb;clear hb hbox hg) | ((with_reducible refine gate_dst (N:=2) rfl ?_);refine box_q 2 #[.int .i64 0,.int .i64 0,.int .i64 0,.int .i64 0,.int .i64 0,.slice none 0 0,.int .i64 0,.bool false] 61 ?_;intro Ax hg w4 hbox hb;have Ab:=ak (hbox);have Ec:=gs_ HB hg;replace HB:=hB_ HB hb;have An:=nb_ Aa hg;have Ao:=nB_ Aa hg;replace Aa:=bb_ Aa hb;clear hb hbox hg) | ((with_reducible refine gate_dst (N:=3) rfl ?_);refine box_q 3 #[.int .i64 0,.int .i64 0,.int .i64 0,.int .i64 0,.int .i64 0,.slice none 0 0,.int .i64 0,.bool false] 61 ?_;intro Ed hg w5 hbox hb;have Ad:=ak (hbox);have Ee:=gs_ HB hg;replace HB:=hB_ HB hb;have Ap:=nb_ Aa hg;have Aq:=nB_ Aa hg;replace Aa:=bb_ Aa hb;have Ar:=nb_ Ab hg;have As:=nB_ Ab hg;replace Ab:=bb_ Ab hb;clear hb hbox hg;have Ef:=An.out;have Eg:=Ao.out;have Eh:=Ap.out;have Ei:=Aq.out;obtain ⟨Dk,Dl,Dm,Dn,Do,Dp,Dq,Dr,Ds,Dt,Du,Dv,Dw,Dx,Dy,Dz⟩:=cf8_ Aa;have Ej:=As.out;have Ek:=Ar.out;obtain ⟨Ay,Az,Ba,Bb,Bc,Bd,Be,Bf,Bg,Bh,Bi,Bj,Bk,Bl,Bm,Bn⟩:=cf8_ Ad) | ((with_reducible refine gC_ 106 ?_);refine gL_ 21 Try.func106 #[.slice Aj Ac.length Ak] ?_;(with_reducible refine (laws_toNearS.calls k _ _ Ac Au _ ?_ ?_ A2.out).mono ?_);exact Kd.C_below Av.out (bw_q HB);exact Aw.out;rintro e w11 ⟨v285,rfl,ho0,hb⟩;refine ⟨_,rfl,?_⟩;have At:=ak (Kd.R_lower ho0 (below_size (bw_q HB)));replace Aa:=bF_ Aa hb;replace Ab:=bF_ Ab hb;replace Ad:=bB_ #[.int .i64 Ae,.int .i64 Af,.int .i64 Ag,.int .i64 Ah,.int .i64 Ai,.slice none 0 0,.int .i64 0,.bool false] Ad hb;replace HB:=hB_ HB hb;(try clear ho0);obtain ⟨Ao12,co12,eo12⟩:=Kd.R_slice At.out;subst eo12;obtain ⟨Bo,Bp,Bq,Br,Bs,Bt,Bu,Bv,Bw,Bx,By,Bz,Ca,Cb,Cc,Cd⟩:=cf8_ Ad;obtain ⟨Ce,Cf,Cg,Ch,Ci,Cj,Ck,Cl,Cm,Cn,Co,Cp,Cq,Cr,Cs,Ct⟩:=cf8_ Aa;obtain ⟨Cu,Cv,Cw,Cx,Cy,Cz,Da,Db,Dc,Dd,De,Df,Dg,Dh,Di,Dj⟩:=cf8_ Ab))
 refine bodyPost_ret (results_cell_row rfl _ _ Ax 61 #[.int .i64 Ae,.int .i64 Af,.int .i64 Ag,.int .i64 Ah,.int .i64 Ai,.slice Ao12 Au.length co12,.int .i64 Al,.bool Am] (0,0) _ rfl (bp_ Ab) Try.underlying61 rfl (by kernel_rfl)) rfl ?_
 exact ⟨_,er_q,by exact Kd.R_mono (rF_ (Kd.R_types (Kd.R_types At.out Ad.out (by decide)) Ab.out (by decide))) (fun _ hk=> trivial),bw_q HB⟩

/-! ### laws_toRecordS: function 27 -/
def laws_toRecordS.l0:Nat→List (S57)→List (S61)→Int→Option ((List (S61)))
 | 0,_,_,_=> none
 | k+1,c,d,b=> if b<(c.length:Int) then (if 0≤b then ((laws_toRecord.f k ((rd_T57 c b).f0) ((rd_T57 c b).f1) ((rd_T57 c b).f2) ((rd_T57 c b).f3) ((rd_T57 c b).f4) ((rd_T57 c b).f5) ((rd_T57 c b).f6) ((rd_T57 c b).f7)).bind fun a=> (if b<(d.length:Int) then (laws_toRecordS.l0 k c (d.set (b:Int).toNat (⟨a.1,a.2.1,a.2.2.1,a.2.2.2.1,a.2.2.2.2.1,a.2.2.2.2.2.1,a.2.2.2.2.2.2.1,a.2.2.2.2.2.2.2⟩:S61)) (wrap64 (b+1))) else (none))) else (none)) else (some d)
def laws_toRecordS.f (k:Nat) (l0:List (S57)):Option ((List (S61))):=if 0≤(l0.length:Int) then (if ((l0.length:Int):Int).toNat≤3518437208883 then (laws_toRecordS.l0 k l0 (List.replicate ((l0.length:Int):Int).toNat z61) 0) else (none)) else (none)
theorem laws_toRecordS.mono_l:∀k,(∀y0 y1 y2,LeO (laws_toRecordS.l0 k y0 y1 y2) (laws_toRecordS.l0 (k+1) y0 y1 y2))
 | 0=> fun _ _ _ r h=> by simp [laws_toRecordS.l0] at h
 | k+1=> by
  have ih0:=laws_toRecordS.mono_l k
  ·intro y0 y1 y2
   unfold laws_toRecordS.l0
   with_reducible repeat' (first | apply ih0 | apply laws_toRecord.mono | exact LeO.refl _ | exact LeO.none _ | refine LeO.ite ?_ ?_ | refine LeO.bind ?_ (fun _=> ?_))
theorem laws_toRecordS.mono:∀a0 k,LeO (laws_toRecordS.f k a0) (laws_toRecordS.f (k+1) a0):=by
 intro a0 k
 have ih0:=laws_toRecordS.mono_l k
 unfold laws_toRecordS.f
 with_reducible repeat' (first | apply ih0 | apply laws_toRecord.mono | exact LeO.refl _ | exact LeO.none _ | refine LeO.ite ?_ ?_ | refine LeO.bind ?_ (fun _=> ?_))
set_option maxHeartbeats 8000000 in
set_option maxRecDepth 100000 in
theorem laws_toRecordS.calls (k:Nat) (A0:Option Addr) (c0:Nat) (l0:List (S57)) (r:List (S61)) (w:World) (hr0:Kd.C k57 w A0 l0.length l0) (hc0:l0.length≤c0) (h:laws_toRecordS.f k l0=some r):
  Calls Try.prog 27 #[.slice A0 l0.length c0] w fun e w'=> ∃v0_:Value,e=.returned (v0_)∧Kd.S k61 61 w' w.heap.size (fun _=> True) v0_ r∧Below w.heap.size w w':=by
 have hu57:=Try.underlying57;have hu61:=Try.underlying61;have HR0:=ak hr0;have Cd:=ak hc0;clear hr0 hc0;have HB:=ak (Below.refl w.heap.size w);have H:=h
 clear h;unfold laws_toRecordS.f at H
 by_cases c2:0≤(l0.length:Int)
 ·rw [if_pos c2] at H;have Bn:=eq_true c2
  have Bo:=decide_eq_true c2;clear c2
  by_cases c3:((l0.length:Int):Int).toNat≤3518437208883
  ·rw [if_pos c3] at H;have Bp:=eq_true c3
   have Bq:=decide_eq_true c3
   clear c3;obtain ⟨Ba,Ad⟩:∃y_:List (S61),y_=(List.replicate ((l0.length:Int):Int).toNat z61):=⟨_,rfl⟩
   replace H:(laws_toRecordS.l0 k l0 Ba 0)=some r:=by first | (rw [Ad];with_reducible exact H) | (have H2_:=(Option.bind_some _ _).symm.trans H;rw [Ad];with_reducible exact H2_) | (have H2_:=(Option.bind_some _ _).symm.trans H;with_reducible exact H2_) | with_reducible exact H | (rw [Ad];exact H) | exact H
   have Ax:=ak Ad;clear Ad;have H':=ak H;clear H
   go_enter Try.func27,Try.ntmps27
   go_wp2_with (first | ((with_reducible refine gate_dst (N:=7) rfl ?_);refine Kd.S_make k61 _ 61 rfl (N:=7) rfl 41 _ _ rfl (l0.length:Int) rfl rfl Try.underlying41 (.agg #[(.int .i64 0),(.int .i64 0),(.int .i64 0),(.int .i64 0),(.int .i64 0),(.slice none 0 0),(.int .i64 0),(.bool false)]) 80 info61 rfl (by decide) (by omega) z61 (ok:=fun _=> True) (okp:=fun _=> True) (k61_mkM _ _ _ z61 (Kd.R_nil _ _ _ _ _)) (fun _ hk=> hk) trivial (of_decide_eq_true as_q) (Nat.le_trans (Nat.mul_le_mul_right _ (of_decide_eq_true as_q:(l0.length:Int).toNat≤3518437208883)) (by omega)) (Below.refl _ _) (Nat.le_refl _) ?_;intro v288 w4 ho5 hb hg_ hnew_;clear hg_ hnew_;(first | rw [←Ax.out] at ho5 | (simp only [Int.reduceToNat] at ho5;rw [←Ax.out] at ho5));have Bk:=ak (Kd.S_lower ho5 (below_size (bw_q HB)));replace HB:=hB_ HB hb;clear hb ho5))
   go_loopg [4] k (fun kq v4 w'=> ∃(Ab:List (S61)) (Aa:Int),v4=.int .i64 Aa∧Aside0 (laws_toRecordS.l0 kq l0 Ab Aa=some r)∧Aside0 (kq≤k)∧Aside0 (Kd.S k61 61 w' w.heap.size (fun _=> True) v288 Ab)∧Aside0 (Below w.heap.size w w'))
   case atStart=> exact ⟨(Ba),(0),rs_q,H',⟨Nat.le_refl _⟩,⟨kS_q Bk⟩,⟨bw_q HB⟩⟩
   case round=>
    clear H';(try clear c2);(try clear Bn);(try clear Bo);(try clear p2);(try clear c3);(try clear Bp);(try clear Bq);obtain ⟨Ab,Aa,rfl,HA,Bm,Ac,HB⟩:=hrel
    cases gk with
    | zero=> exact absurd HA.out (by simp [laws_toRecordS.l0])
    | succ k1=>
     have H:=HA.out;clear HA
     simp only [laws_toRecordS.l0] at H
     by_cases c6:Aa<(l0.length:Int)
     ·rw [if_pos c6] at H;have Br:=decide_eq_true c6;clear c6
      by_cases c7:0≤Aa
      ·rw [if_pos c7] at H;have Cb:=decide_eq_true c7
       clear c7;replace H:=bsi H;obtain ⟨⟨Af,Ag,Ah,Ai,Aj,Au,Ak,Al⟩,A80,H⟩:=H
       (try dsimp only at H)
       have A8:=ak A80;clear A80
       by_cases c9:Aa<(Ab.length:Int)
       ·rw [if_pos c9] at H;have Cc:=decide_eq_true c9
        clear c9;obtain ⟨Aw,Ae⟩:∃y_:List (S61),y_=(Ab.set (Aa:Int).toNat (⟨Af,Ag,Ah,Ai,Aj,Au,Ak,Al⟩:S61)):=⟨_,rfl⟩
        replace H:(laws_toRecordS.l0 k1 l0 Aw (wrap64 (Aa+1)))=some r:=by first | (rw [Ae];with_reducible exact H) | (have H2_:=(Option.bind_some _ _).symm.trans H;rw [Ae];with_reducible exact H2_) | (have H2_:=(Option.bind_some _ _).symm.trans H;with_reducible exact H2_) | with_reducible exact H | (rw [Ae];exact H) | exact H
        have Bl:=ak Ae;clear Ae;have H':=ak H;clear H
        have p290:0≤(Aa:Int):=of_decide_eq_true as_q
        have q290:Aa<(l0.length:Int):=of_decide_eq_true as_q
        obtain ⟨Ca,A290_5,c290_5,e290,Am,An,Ao,Ap,Aq,Ar,As,At,hl290_5,hi290_5⟩:=at_T57 HR0.out Aa p290 q290
        cases e290
        obtain ⟨Am,An,Ao,Ap,Aq,Ar,As,At⟩:=hb8_ HB Am An Ao Ap Aq Ar As At;have Ay:=ak hi290_5;have Az:=ak hl290_5;clear hi290_5 hl290_5;replace p290:=eq_true p290;replace q290:=eq_true q290
        go_wp2_with (first | ((with_reducible refine gC_ 36 ?_);refine gL_ 20 Try.func36 #[.agg #[.int .i64 ((rd_T57 l0 Aa).f0),.int .i64 ((rd_T57 l0 Aa).f1),.int .i64 ((rd_T57 l0 Aa).f2),.int .i64 ((rd_T57 l0 Aa).f3),.int .i64 ((rd_T57 l0 Aa).f4),.slice A290_5 ((rd_T57 l0 Aa).f5).length c290_5,.int .i64 ((rd_T57 l0 Aa).f6),.bool ((rd_T57 l0 Aa).f7)]] ?_;(with_reducible refine (laws_toRecord.calls k1 ((rd_T57 l0 Aa).f0) ((rd_T57 l0 Aa).f1) ((rd_T57 l0 Aa).f2) ((rd_T57 l0 Aa).f3) ((rd_T57 l0 Aa).f4) _ _ ((rd_T57 l0 Aa).f5) ((rd_T57 l0 Aa).f6) ((rd_T57 l0 Aa).f7) Af Ag Ah Ai Aj Au Ak Al _ ?_ ?_ A8.out).mono ?_);exact ch_ Ay HB;exact Az.out;rintro e w11 ⟨v297,rfl,ho0,hb⟩;refine ⟨_,rfl,?_⟩;have hs_v297:(v297:Value).oneCell'=true:=(by first | (have h_:=Kd.R_slice ho0;obtain ⟨A_,c_,e_⟩:=h_;simp [e_,Value.oneCell']) | (have h_:=Kd.S_slice ho0;obtain ⟨A_,c_,e_⟩:=h_;simp [e_,Value.oneCell']) | (have h_:=Kd.N_slice ho0;obtain ⟨A_,c_,e_⟩:=h_;simp [e_,Value.oneCell']) | (have h_:=Kd.V_slice ho0;obtain ⟨A_,c_,e_⟩:=h_;simp [e_,Value.oneCell']));have hst_v297:=fun (w_:World) (a_:Addr) m_=> run_store Try.prog w_ a_ v297 m_ hs_v297;replace Ac:=ak (Kd.S_elder' (kS_q Ac) (Kd.R_base ho0) hb);have Av:=ak (Kd.R_lower ho0 (below_size (bw_q HB)));replace HB:=hB_ HB hb;(try clear ho0);have p10:0≤(Aa:Int):=of_decide_eq_true as_q;have q10:(Aa:Int)<((Ab.length:Int):Int):=of_decide_eq_true as_q;obtain ⟨go10,co10,eo10,Bb,gl10,cl10,HG10⟩:=Kd.S_form Ac.out (by omega);(first | cases eo10 | (injection eo10 with ea_ en_ ec_;(first | subst ea_ | (injection ea_ with ea_;subst ea_));subst ec_;clear en_));have GB10:=ak Bb;have GG10:=ak HG10;clear Bb gl10 HG10;obtain ⟨_,ce10,hcl10,hM10,hcc10,hfr10,_,_⟩:=Kd.S_elem Ac.out z61 (Aa:Int) p10 q10;obtain ⟨ve10_5,rfl,ge10_5⟩:=k61_openM hM10;have Bs:w11.cell? ⟨go10,(Aa:Int).toNat*8,none⟩=some (.int .i64 ((rd_T61 Ab Aa).f0)):=hcc10 0 _ rfl;have Bt:w11.cell? ⟨go10,(Aa:Int).toNat*8+1,none⟩=some (.int .i64 ((rd_T61 Ab Aa).f1)):=hcc10 1 _ rfl;have Bu:w11.cell? ⟨go10,(Aa:Int).toNat*8+2,none⟩=some (.int .i64 ((rd_T61 Ab Aa).f2)):=hcc10 2 _ rfl;have Bv:w11.cell? ⟨go10,(Aa:Int).toNat*8+3,none⟩=some (.int .i64 ((rd_T61 Ab Aa).f3)):=hcc10 3 _ rfl;have Bw:w11.cell? ⟨go10,(Aa:Int).toNat*8+4,none⟩=some (.int .i64 ((rd_T61 Ab Aa).f4)):=hcc10 4 _ rfl;have Bx:w11.cell? ⟨go10,(Aa:Int).toNat*8+5,none⟩=some (ve10_5):=hcc10 5 _ rfl;have By:w11.cell? ⟨go10,(Aa:Int).toNat*8+6,none⟩=some (.int .i64 ((rd_T61 Ab Aa).f6)):=hcc10 6 _ rfl;have Bz:w11.cell? ⟨go10,(Aa:Int).toNat*8+7,none⟩=some (.bool ((rd_T61 Ab Aa).f7)):=hcc10 7 _ rfl;have hf10_0:w11.frozen? ⟨go10,(Aa:Int).toNat*8,none⟩=false:=hfr10 0;have hf10_1:w11.frozen? ⟨go10,(Aa:Int).toNat*8+1,none⟩=false:=hfr10 1;have hf10_2:w11.frozen? ⟨go10,(Aa:Int).toNat*8+2,none⟩=false:=hfr10 2;have hf10_3:w11.frozen? ⟨go10,(Aa:Int).toNat*8+3,none⟩=false:=hfr10 3;have hf10_4:w11.frozen? ⟨go10,(Aa:Int).toNat*8+4,none⟩=false:=hfr10 4;have hf10_5:w11.frozen? ⟨go10,(Aa:Int).toNat*8+5,none⟩=false:=hfr10 5;have hf10_6:w11.frozen? ⟨go10,(Aa:Int).toNat*8+6,none⟩=false:=hfr10 6;have hf10_7:w11.frozen? ⟨go10,(Aa:Int).toNat*8+7,none⟩=false:=hfr10 7;clear hcl10 hcc10 hfr10 hM10;replace p10:=eq_true p10;replace q10:=eq_true q10;have n_:=ak (Kd.S_mono (ok':=(fun k_=> some k_≠(v297:Value).ownBlock)) Ac.out (fun k_ hk=> hk.2));clear Ac;have Ac:=n_;clear n_;have HX12:=ak (show Kd.S k61 61 w11 w.heap.size (fun k_=> ((fun _=> True)) k_∧¬((fun k_=> some k_=(v297:Value).ownBlock)) k_) (.slice (some ⟨go10,0,none⟩) Ab.length co10) Ab from (by (with_reducible repeat (first | apply Kd.S_alloc | apply Kd.S_drewN | apply Kd.S_drew));exact Kd.S_mono Ac.out (fun k_ hk=> ⟨trivial,fun e_=> hk e_⟩)));obtain ⟨oki12,ce12,hcl12,hM12,hcc12,hfr12,hoki12,hH12⟩:=Kd.S_elem HX12.out z61 (Aa:Int) (of_decide_eq_true as_q) (by have h_:(Aa:Int)<((Ab.length:Int):Int):=of_decide_eq_true as_q;first | exact h_ | (have e_:=(Kd.S_reads' Ac.out).1;omega) | simpa using h_);obtain ⟨ve12_5,rfl,ge12_5⟩:=k61_openM hM12;have HP12:=Kd.S_seg hH12 (of_decide_eq_true as_q) (by have h_:(Aa:Int)<((Ab.length:Int):Int):=of_decide_eq_true as_q;first | exact h_ | (have e_:=(Kd.S_reads' Ac.out).1;omega) | simpa using h_) (seg:=[.int .i64 Af,.int .i64 Ag,.int .i64 Ah,.int .i64 Ai,.int .i64 Aj,v297,.int .i64 Ak,.bool Al]) (j:=0) (show 8≤8 from by decide) (x':=(⟨Af,Ag,Ah,Ai,Aj,Au,Ak,Al⟩:S61)) (k61_mkM _ _ _ (⟨Af,Ag,Ah,Ai,Aj,Au,Ak,Al⟩:S61) (Kd.R_mono (Kd.R_tight rfl (Kd.R_mono (ok':=fun k_=> ((fun _=> True)) k_∧k_≠go10) (Kd.R_apart' (Av.out) (Kd.S_typed Ac.out) (by decide)) (fun k_ hk=> ⟨trivial,fun e_=> (hk.2) (by rw [e_];rfl)⟩))) (fun _ h_=> Or.inr (h_)))) (fun _ hk=> hk) (fun k_ hk_=> ((Kd.R_mono (ok':=fun k_=> ((fun _=> True)) k_∧k_≠go10) (Kd.R_apart' (Av.out) (Kd.S_typed Ac.out) (by decide)) (fun k_ hk=> ⟨trivial,fun e_=> (hk.2) (by rw [e_];rfl)⟩))).1 k_ hk_.symm);have Bc:=hcc12 0 _ rfl;(try simp only [show (k61).sz=8 from rfl,Nat.mul_one,Nat.add_zero] at Bc);have hf12_0:=hfr12 0;(try simp only [show (k61).sz=8 from rfl,Nat.mul_one,Nat.add_zero] at hf12_0);have Bd:=hcc12 1 _ rfl;(try simp only [show (k61).sz=8 from rfl,Nat.mul_one,Nat.add_zero] at Bd);have hf12_1:=hfr12 1;(try simp only [show (k61).sz=8 from rfl,Nat.mul_one,Nat.add_zero] at hf12_1);have Be:=hcc12 2 _ rfl;(try simp only [show (k61).sz=8 from rfl,Nat.mul_one,Nat.add_zero] at Be);have hf12_2:=hfr12 2;(try simp only [show (k61).sz=8 from rfl,Nat.mul_one,Nat.add_zero] at hf12_2);have Bf:=hcc12 3 _ rfl;(try simp only [show (k61).sz=8 from rfl,Nat.mul_one,Nat.add_zero] at Bf);have hf12_3:=hfr12 3;(try simp only [show (k61).sz=8 from rfl,Nat.mul_one,Nat.add_zero] at hf12_3);have Bg:=hcc12 4 _ rfl;(try simp only [show (k61).sz=8 from rfl,Nat.mul_one,Nat.add_zero] at Bg);have hf12_4:=hfr12 4;(try simp only [show (k61).sz=8 from rfl,Nat.mul_one,Nat.add_zero] at hf12_4);have Bh:=hcc12 5 _ rfl;(try simp only [show (k61).sz=8 from rfl,Nat.mul_one,Nat.add_zero] at Bh);have hf12_5:=hfr12 5;(try simp only [show (k61).sz=8 from rfl,Nat.mul_one,Nat.add_zero] at hf12_5);have Bi:=hcc12 6 _ rfl;(try simp only [show (k61).sz=8 from rfl,Nat.mul_one,Nat.add_zero] at Bi);have hf12_6:=hfr12 6;(try simp only [show (k61).sz=8 from rfl,Nat.mul_one,Nat.add_zero] at hf12_6);have Bj:=hcc12 7 _ rfl;(try simp only [show (k61).sz=8 from rfl,Nat.mul_one,Nat.add_zero] at Bj);have hf12_7:=hfr12 7;(try simp only [show (k61).sz=8 from rfl,Nat.mul_one,Nat.add_zero] at hf12_7);clear hcl12 hcc12 hfr12 hM12 hoki12 hH12) | ((with_reducible refine gate_store (t:=61) (p:=21) rfl ?_);refine store_event (t:=61) (p:=21) (v:=?vo_w13) (w1:=((((((((w11.setCell ⟨go10,(Aa:Int).toNat*8,none⟩ (.int .i64 Af)).setCell ⟨go10,(Aa:Int).toNat*8+1,none⟩ (.int .i64 Ag)).setCell ⟨go10,(Aa:Int).toNat*8+2,none⟩ (.int .i64 Ah)).setCell ⟨go10,(Aa:Int).toNat*8+3,none⟩ (.int .i64 Ai)).setCell ⟨go10,(Aa:Int).toNat*8+4,none⟩ (.int .i64 Aj)).setCell ⟨go10,(Aa:Int).toNat*8+5,none⟩ (v297)).setCell ⟨go10,(Aa:Int).toNat*8+6,none⟩ (.int .i64 Ak)).setCell ⟨go10,(Aa:Int).toNat*8+7,none⟩ (.bool Al))) ?hg ?ho ?hn ?hr ?_;(case ho=> rfl);(case hg=> rfl);(case hn=> rfl);(case hr=> first | (go_simp;done) | (go_simp;rfl));intro w13 hw;have hg:w11.grownBy w13 (some go10):=(by rw [hw];exact HP12.2);have hp_:Kd.S k61 61 w13 w.heap.size (fun _=> True) (.slice (some ⟨go10,0,none⟩) Ab.length co10) Aw:=(by rw [hw,Bl.out];exact HP12.1);clear HP12;replace Ac:=ak (hp_);replace HB:=ak ((by rw [hw];exact below_set (below_set (below_set (below_set (below_set (below_set (below_set (below_set (HB.out) GB10.out) GB10.out) GB10.out) GB10.out) GB10.out) GB10.out) GB10.out) GB10.out:Below w.heap.size w w13));clear Av;clear hg hw hp_))
        go_roundg k1
        case measure=> have:=Bm.out;omega
        case rel=> exact ⟨(Aw),(wrap64 (Aa+1)),rs_q,H',⟨by have:=Bm.out;omega⟩,⟨kS_q Ac⟩,⟨bw_q HB⟩⟩
       ·rw [if_neg c9] at H
        exact absurd H (by simp)
      ·rw [if_neg c7] at H
       exact absurd H (by simp)
     ·rw [if_neg c6] at H;have Br:=decide_eq_false c6
      clear c6;obtain rfl:=Option.some.inj H
      go_wp2
      go_ret
      exact ⟨_,er_q,kS_q Ac,bw_q HB⟩
  ·rw [if_neg c3] at H
   exact absurd H (by simp)
 ·rw [if_neg c2] at H
  exact absurd H (by simp)

/-! ### laws_toIntS: function 89 -/
def laws_toIntS.l0:Nat→List Int→List Int→Int→Option (List Int)
 | 0,_,_,_=> none
 | k+1,b,c,a=> if a<(b.length:Int) then (if 0≤a then (if a<(c.length:Int) then (laws_toIntS.l0 k b (c.set (a:Int).toNat (rd b a)) (wrap64 (a+1))) else (none)) else (none)) else (some c)
def laws_toIntS.f (k:Nat) (l0:List Int):Option (List Int):=if 0≤(l0.length:Int) then (if ((l0.length:Int):Int).toNat≤35184372088832 then (laws_toIntS.l0 k l0 (List.replicate ((l0.length:Int):Int).toNat 0) 0) else (none)) else (none)
theorem laws_toIntS.mono_l:∀k,(∀y0 y1 y2,LeO (laws_toIntS.l0 k y0 y1 y2) (laws_toIntS.l0 (k+1) y0 y1 y2))
 | 0=> fun _ _ _ r h=> by simp [laws_toIntS.l0] at h
 | k+1=> by
  have ih0:=laws_toIntS.mono_l k
  ·intro y0 y1 y2
   unfold laws_toIntS.l0
   with_reducible repeat' (first | apply ih0 | exact LeO.refl _ | exact LeO.none _ | refine LeO.ite ?_ ?_ | refine LeO.bind ?_ (fun _=> ?_))
theorem laws_toIntS.mono:∀a0 k,LeO (laws_toIntS.f k a0) (laws_toIntS.f (k+1) a0):=by
 intro a0 k
 have ih0:=laws_toIntS.mono_l k
 unfold laws_toIntS.f
 with_reducible repeat' (first | apply ih0 | exact LeO.refl _ | exact LeO.none _ | refine LeO.ite ?_ ?_ | refine LeO.bind ?_ (fun _=> ?_))
set_option maxHeartbeats 8000000 in
set_option maxRecDepth 100000 in
theorem laws_toIntS.calls (k:Nat) (A0:Option Addr) (c0:Nat) (l0:List Int) (r:List Int) (w:World) (hr0:Kd.C (Kd.int .i64) w A0 l0.length l0) (hc0:l0.length≤c0) (h:laws_toIntS.f k l0=some r):
  Calls Try.prog 89 #[.slice A0 l0.length c0] w fun e w'=> ∃v0_:Value,e=.returned (v0_)∧Kd.R (Kd.int .i64) 3 w' w.heap.size (fun _=> True) v0_ r∧Below w.heap.size w w':=by
 have HR0:=ak hr0;have Aw:=ak hc0;clear hr0 hc0;have HB:=ak (Below.refl w.heap.size w);have H:=h
 clear h;unfold laws_toIntS.f at H
 by_cases c2:0≤(l0.length:Int)
 ·rw [if_pos c2] at H;have An:=eq_true c2
  have Ao:=decide_eq_true c2;clear c2
  by_cases c3:((l0.length:Int):Int).toNat≤35184372088832
  ·rw [if_pos c3] at H;have Ap:=eq_true c3
   have Aq:=decide_eq_true c3
   clear c3;obtain ⟨Ai,Ac⟩:∃y_:List Int,y_=(List.replicate ((l0.length:Int):Int).toNat 0):=⟨_,rfl⟩
   replace H:(laws_toIntS.l0 k l0 Ai 0)=some r:=by first | (rw [Ac];with_reducible exact H) | (have H2_:=(Option.bind_some _ _).symm.trans H;rw [Ac];with_reducible exact H2_) | (have H2_:=(Option.bind_some _ _).symm.trans H;with_reducible exact H2_) | with_reducible exact H | (rw [Ac];exact H) | exact H
   have Ah:=ak Ac;clear Ac;have H':=ak H;clear H
   go_enter Try.func89,Try.ntmps89
   go_wp2_with (first | ((with_reducible refine gate_dst (N:=7) rfl ?_);refine Kd.R_make (Kd.int .i64) _ 3 rfl (N:=7) rfl 35 _ _ rfl (l0.length:Int) rfl rfl Try.underlying35 (.int .i64 0) 8 info3 rfl (by decide) (by omega) 0 (ok:=fun _=> True) (okp:=fun _=> True) rfl (fun _ hk=> hk) trivial (of_decide_eq_true as_q) (Nat.le_trans (Nat.mul_le_mul_right _ (of_decide_eq_true as_q:(l0.length:Int).toNat≤35184372088832)) (by omega)) (Below.refl _ _) (Nat.le_refl _) ?_;intro v303 w4 ho5 hb hg_ hnew_;clear hg_ hnew_;(first | rw [←Ah.out] at ho5 | (simp only [Int.reduceToNat] at ho5;rw [←Ah.out] at ho5));have Aj:=ak (Kd.R_lower ho5 (below_size (bw_q HB)));replace HB:=hB_ HB hb;clear hb ho5))
   go_loopg [4] k (fun kq v4 w'=> ∃(Ab:List Int) (Aa:Int),v4=.int .i64 Aa∧Aside0 (laws_toIntS.l0 kq l0 Ab Aa=some r)∧Aside0 (kq≤k)∧Aside0 (Kd.R (Kd.int .i64) 3 w' w.heap.size (fun _=> True) v303 Ab)∧Aside0 (Below w.heap.size w w'))
   case atStart=> exact ⟨(Ai),(0),rs_q,H',⟨Nat.le_refl _⟩,⟨kR_q Aj⟩,⟨bw_q HB⟩⟩
   case round=>
    clear H';(try clear c2);(try clear An);(try clear Ao);(try clear p2);(try clear c3);(try clear Ap);(try clear Aq);obtain ⟨Ab,Aa,rfl,HA,Al,Ae,HB⟩:=hrel
    cases gk with
    | zero=> exact absurd HA.out (by simp [laws_toIntS.l0])
    | succ k1=>
     have H:=HA.out;clear HA
     simp only [laws_toIntS.l0] at H
     by_cases c6:Aa<(l0.length:Int)
     ·rw [if_pos c6] at H;have Ar:=decide_eq_true c6;clear c6
      by_cases c7:0≤Aa
      ·rw [if_pos c7] at H;have Au:=decide_eq_true c7;clear c7
       by_cases c8:Aa<(Ab.length:Int)
       ·rw [if_pos c8] at H;have Av:=decide_eq_true c8
        clear c8;obtain ⟨Ag,Ad⟩:∃y_:List Int,y_=(Ab.set (Aa:Int).toNat (rd l0 Aa)):=⟨_,rfl⟩
        replace H:(laws_toIntS.l0 k1 l0 Ag (wrap64 (Aa+1)))=some r:=by first | (rw [Ad];with_reducible exact H) | (have H2_:=(Option.bind_some _ _).symm.trans H;rw [Ad];with_reducible exact H2_) | (have H2_:=(Option.bind_some _ _).symm.trans H;with_reducible exact H2_) | with_reducible exact H | (rw [Ad];exact H) | exact H
        have Ak:=ak Ad;clear Ad;have H':=ak H;clear H
        have p305:0≤(Aa:Int):=of_decide_eq_true as_q
        have q305:Aa<(l0.length:Int):=of_decide_eq_true as_q
        obtain ⟨As,e305,Af⟩:=Kd.at_int HR0.out Aa p305 q305
        cases e305
        replace Af:=hbc HB Af;replace p305:=eq_true p305;replace q305:=eq_true q305
        have p9:0≤(Aa:Int):=of_decide_eq_true as_q
        have q9:(Aa:Int)<((Ab.length:Int):Int):=of_decide_eq_true as_q
        obtain ⟨go9,co9,eo9,Am,gl9,cl9,HG9⟩:=Kd.R_form Ae.out (by omega)
        (first | cases eo9 | (injection eo9 with ea_ en_ ec_;(first | subst ea_ | (injection ea_ with ea_;subst ea_));subst ec_;clear en_))
        have GB9:=ak Am;have GG9:=ak HG9;clear Am gl9 HG9;obtain ⟨At,hf9_0⟩:=Kd.R_celln 0 Ae.out (Aa:Int) p9 q9;replace p9:=eq_true p9;replace q9:=eq_true q9;have HP10:=Kd.R_putg Ae.out (Aa:Int) (rd l0 Aa)
        go_wp2_with (first | ((with_reducible refine gate_store (t:=3) (p:=20) rfl ?_);refine store_event (t:=3) (p:=20) (v:=?vo_w11) (w1:=(wr.setCell ⟨go9,(Aa:Int).toNat,none⟩ (.int .i64 (rd l0 Aa)))) ?hg ?ho ?hn ?hr ?_;(case ho=> rfl);(case hg=> rfl);(case hn=> rfl);(case hr=> first | (go_simp;done) | (go_simp;rfl));intro w11 hw;have hg:wr.grownBy w11 (some go9):=(by rw [hw];exact HP10.2);have hp_:Kd.R (Kd.int .i64) 3 w11 w.heap.size (fun _=> True) (.slice (some ⟨go9,0,none⟩) Ab.length co9) Ag:=(by rw [hw,Ak.out];exact HP10.1);clear HP10;replace Ae:=ak (hp_);replace HB:=ak ((by rw [hw];exact below_set (HB.out) GB9.out:Below w.heap.size w w11));clear hg hw hp_))
        go_roundg k1
        case measure=> have:=Al.out;omega
        case rel=> exact ⟨(Ag),(wrap64 (Aa+1)),rs_q,H',⟨by have:=Al.out;omega⟩,⟨kR_q Ae⟩,⟨bw_q HB⟩⟩
       ·rw [if_neg c8] at H
        exact absurd H (by simp)
      ·rw [if_neg c7] at H
       exact absurd H (by simp)
     ·rw [if_neg c6] at H;have Ar:=decide_eq_false c6
      clear c6;obtain rfl:=Option.some.inj H
      go_wp2
      go_ret
      exact ⟨_,er_q,kR_q Ae,bw_q HB⟩
  ·rw [if_neg c3] at H
   exact absurd H (by simp)
 ·rw [if_neg c2] at H
  exact absurd H (by simp)

end Go.Proofs.Ythjmdiggglkeaaa.Q
