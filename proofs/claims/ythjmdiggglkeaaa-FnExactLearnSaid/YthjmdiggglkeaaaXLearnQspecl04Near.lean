import Derived.Test.YthjmdiggglkeaaaXLearnQlawsszRecordS
import Derived.Test.YthjmdiggglkeaaaXLearnQspecNetOk
/- The contract of a Go function. -/

namespace Go.Proofs.Ythjmdiggglkeaaa.Q
open Go.RowKit Go.Proofs.YthjmdiggglkeaaaW.PrintWords Go.Proofs.YthjmdiggglkeaaaW.PrintLast Go.Proofs.YthjmdiggglkeaaaW.PrintMore
attribute [local go_sem] max2_int min2_int max_two min_two max_three min_three max_four min_four   -- for this text's walks alone
set_option linter.unusedVariables false
set_option linter.unusedSimpArgs false

/-! ### spec_CostTo: function 130 -/
def spec_CostTo.l0:Nat→Int→Int→Int→Int→Int→List (S93)→List (S102)→Option (Int)
 | 0,_,_,_,_,_,_,_=> none
 | k+1,e,g,h,d,b,a,c=> if d<(a.length:Int) then (if 0≤d then (if ((rd_T93 a d).f3)=h then (if ((rd_T93 a d).f0)=e then (if ((rd_T93 a d).f1)=g then (some ((rd_T93 a d).f2)) else (if ((rd_T93 a d).f0)=g then (if ((rd_T93 a d).f1)=e then (some ((rd_T93 a d).f2)) else (spec_CostTo.l0 k e g h (wrap64 (d+1)) b a c)) else (spec_CostTo.l0 k e g h (wrap64 (d+1)) b a c))) else (if ((rd_T93 a d).f0)=g then (if ((rd_T93 a d).f1)=e then (some ((rd_T93 a d).f2)) else (spec_CostTo.l0 k e g h (wrap64 (d+1)) b a c)) else (spec_CostTo.l0 k e g h (wrap64 (d+1)) b a c))) else (spec_CostTo.l0 k e g h (wrap64 (d+1)) b a c)) else (none)) else (some 0)
def spec_CostTo.f (k:Nat) (a:Int) (b:List (S93)) (c:List (S102)) (a1:Int) (a2:Int) (a3:Int):Option (Int):=spec_CostTo.l0 k a1 a2 a3 0 a b c
theorem spec_CostTo.mono_l:∀k,(∀y0 y1 y2 y3 y4 y5 y6,LeO (spec_CostTo.l0 k y0 y1 y2 y3 y4 y5 y6) (spec_CostTo.l0 (k+1) y0 y1 y2 y3 y4 y5 y6))
 | 0=> fun _ _ _ _ _ _ _ r h=> by simp [spec_CostTo.l0] at h
 | k+1=> by
  have ih0:=spec_CostTo.mono_l k
  ·intro y0 y1 y2 y3 y4 y5 y6
   unfold spec_CostTo.l0
   with_reducible repeat' (first | apply ih0 | exact LeO.refl _ | exact LeO.none _ | refine LeO.ite ?_ ?_ | refine LeO.bind ?_ (fun _=> ?_))
theorem spec_CostTo.mono:∀a0 a1 a2 a3 a4 a5 k,LeO (spec_CostTo.f k a0 a1 a2 a3 a4 a5) (spec_CostTo.f (k+1) a0 a1 a2 a3 a4 a5):=by
 intro a0 a1 a2 a3 a4 a5 k
 have ih0:=spec_CostTo.mono_l k
 unfold spec_CostTo.f
 with_reducible repeat' (first | apply ih0 | exact LeO.refl _ | exact LeO.none _ | refine LeO.ite ?_ ?_ | refine LeO.bind ?_ (fun _=> ?_))
set_option maxHeartbeats 8000000 in
set_option maxRecDepth 100000 in
theorem spec_CostTo.calls (k:Nat) (An:Int) (Az:Option Addr) (Ao:Nat) (Ab:List (S93)) (Ap:Option Addr) (Aq:Nat) (Al:List (S102)) (a1:Int) (a2:Int) (a3:Int) (r:Int) (w:World) (hr0_1:Kd.C k93 w Az Ab.length Ab) (hc0_1:Ab.length≤Ao) (hr0_2:Kd.C k102 w Ap Al.length Al) (hc0_2:Al.length≤Aq) (h:spec_CostTo.f k An Ab Al a1 a2 a3=some r):
  Calls Try.prog 130 #[.agg #[.int .i64 An,.slice Az Ab.length Ao,.slice Ap Al.length Aq],.int .i64 a1,.int .i64 a2,.int .i64 a3] w fun e w'=> e=.returned (.int .i64 r)∧Below w.heap.size w w':=by
 have hu31:=Try.underlying31;have hu93:=Try.underlying93;have As:=ak hr0_1;have Gb:=ak hc0_1;clear hr0_1 hc0_1;have Gc:=ak hr0_2;have Gd:=ak hc0_2;clear hr0_2 hc0_2;have HB:=ak (Below.refl w.heap.size w);have H:=h
 clear h;unfold spec_CostTo.f at H;have H':=ak H;clear H
 go_enter Try.func130,Try.ntmps130
 go_wp2_with (first | ((with_reducible refine gate_dst (N:=4) rfl ?_);refine box_q 4 #[.int .i64 An,.slice Az Ab.length Ao,.slice Ap Al.length Aq] 31 ?_;intro Ar hg w5 hbox hb;have Ad:=ak (hbox);have Ge:=gs_ HB hg;replace HB:=hB_ HB hb;clear hb hbox hg))
 go_loopg [9] k (fun kq v9 w'=> ∃(Aa:Int),v9=.int .i64 Aa∧Aside0 (spec_CostTo.l0 kq a1 a2 a3 Aa An Ab Al=some r)∧Aside0 (kq≤k)∧Aside0 (w'.heap[Ar]? =some (.cells #[.int .i64 An,(.slice Az Ab.length Ao),(.slice Ap Al.length Aq)] 31 (0,0)))∧Aside0 (Below w.heap.size w w'))
 case atStart=> exact ⟨(0),rs_q,H',⟨Nat.le_refl _⟩,⟨bk_q Ad⟩,⟨bw_q HB⟩⟩
 case round=>
  clear H';(try clear c1);(try clear p2);obtain ⟨Aa,rfl,HA,At,Ad,HB⟩:=hrel
  cases gk with
  | zero=> exact absurd HA.out (by simp [spec_CostTo.l0])
  | succ k1=>
   have H:=HA.out;clear HA
   simp only [spec_CostTo.l0] at H
   by_cases c6:Aa<(Ab.length:Int)
   ·rw [if_pos c6] at H;have Bm:=decide_eq_true c6;clear c6
    by_cases c7:0≤Aa
    ·rw [if_pos c7] at H;have Gx:=decide_eq_true c7;clear c7
     by_cases c8:((rd_T93 Ab Aa).f3)=a3
     ·rw [if_pos c8] at H;have Bn:=bqi c8;have Bo:=bnf c8;clear c8
      by_cases c9:((rd_T93 Ab Aa).f0)=a1
      ·rw [if_pos c9] at H;have Bp:=bqi c9;have Bq:=bnf c9;clear c9
       by_cases c10:((rd_T93 Ab Aa).f1)=a2
       ·rw [if_pos c10] at H;have Bg:=bqi c10;have Bh:=bnf c10
        clear c10;have Ba:=ak H;clear H;obtain ⟨Br,Bs,Bt,Bu,Bv,Bw⟩:=cf3_ Ad
        have p234:0≤(Aa:Int):=of_decide_eq_true as_q
        have q234:Aa<(Ab.length:Int):=of_decide_eq_true as_q
        obtain ⟨Am,e234,Ae,Af,Ag,Ah⟩:=at_T93 As.out Aa p234 q234
        cases e234
        obtain ⟨Ae,Af,Ag,Ah⟩:=hb4_ HB Ae Af Ag Ah;replace p234:=eq_true p234;replace q234:=eq_true q234
        go_upto_if 50 with (first | ((with_reducible refine gate_dst (N:=10) rfl ?_);refine box_q 10 #[.int .i64 0,.int .i64 0,.int .i64 0,.int .i64 0] 93 ?_;intro Ac hg w13 hbox hb;have Ai:=ak (hbox);have Au:=gs_ HB hg;replace HB:=hB_ HB hb;have Aj:=nb_ Ad hg;have Ak:=nB_ Ad hg;replace Ad:=bb_ Ad hb;clear hb hbox hg;have Gf:=Ak.out;have Gg:=Aj.out;obtain ⟨Bx,By,Bz,Ca,Cb,Cc,Cd,Ce⟩:=cf4_ Ai))
        have n0_:Aside0 (((((w13.setCell ⟨Ac,0,none⟩ (.int .i64 ((rd_T93 Ab Aa).f0))).setCell ⟨Ac,1,none⟩ (.int .i64 ((rd_T93 Ab Aa).f1))).setCell ⟨Ac,2,none⟩ (.int .i64 ((rd_T93 Ab Aa).f2))).setCell ⟨Ac,3,none⟩ (.int .i64 ((rd_T93 Ab Aa).f3))).heap[Ar]? =some (.cells #[.int .i64 An,.slice (some Am) Ab.length Ao,.slice Ap Al.length Aq] 31 (0,0))):=⟨bp_ Ad⟩
        have n1_:Aside0 (((((w13.setCell ⟨Ac,0,none⟩ (.int .i64 ((rd_T93 Ab Aa).f0))).setCell ⟨Ac,1,none⟩ (.int .i64 ((rd_T93 Ab Aa).f1))).setCell ⟨Ac,2,none⟩ (.int .i64 ((rd_T93 Ab Aa).f2))).setCell ⟨Ac,3,none⟩ (.int .i64 ((rd_T93 Ab Aa).f3))).heap[Ac]? =some (.cells #[.int .i64 ((rd_T93 Ab Aa).f0),.int .i64 ((rd_T93 Ab Aa).f1),.int .i64 ((rd_T93 Ab Aa).f2),.int .i64 ((rd_T93 Ab Aa).f3)] 93 (0,0))):=⟨bp_ Ai⟩
        have n2_:Aside0 (Below w.heap.size w ((((w13.setCell ⟨Ac,0,none⟩ (.int .i64 ((rd_T93 Ab Aa).f0))).setCell ⟨Ac,1,none⟩ (.int .i64 ((rd_T93 Ab Aa).f1))).setCell ⟨Ac,2,none⟩ (.int .i64 ((rd_T93 Ab Aa).f2))).setCell ⟨Ac,3,none⟩ (.int .i64 ((rd_T93 Ab Aa).f3)))):=⟨bw_q HB⟩
        (try clear Ad);(try clear Ai);(try clear HB)
        generalize ((((w13.setCell ⟨Ac,0,none⟩ (.int .i64 ((rd_T93 Ab Aa).f0))).setCell ⟨Ac,1,none⟩ (.int .i64 ((rd_T93 Ab Aa).f1))).setCell ⟨Ac,2,none⟩ (.int .i64 ((rd_T93 Ab Aa).f2))).setCell ⟨Ac,3,none⟩ (.int .i64 ((rd_T93 Ab Aa).f3)))=w16 at n0_ n1_ n2_ ⊢
        have Ad:=n0_;have Ai:=n1_;have HB:=n2_;clear n0_ n1_ n2_;(try clear Ae);(try clear Af);(try clear Ag);(try clear Ah);have H:=Ba.out;clear Ba;obtain rfl:=Option.some.inj H;have Gh:=Ak.out;have Gi:=Aj.out;obtain ⟨Cf,Cg,Ch,Ci,Cj,Ck,Cl,Cm⟩:=cf4_ Ai
        go_wp2
        go_ret
        exact ⟨er_q,bw_q HB⟩
       ·rw [if_neg c10] at H;have Bg:=bqf c10;have Bh:=bni c10
        by_cases c19:((rd_T93 Ab Aa).f0)=a2
        ·rw [if_pos c19] at H;have Bi:=bqi c19;have Bj:=bnf c19
         clear c19;have Bb:=ak H;clear H;obtain ⟨Cn,Co,Cp,Cq,Cr,Cs⟩:=cf3_ Ad
         have p234:0≤(Aa:Int):=of_decide_eq_true as_q
         have q234:Aa<(Ab.length:Int):=of_decide_eq_true as_q
         obtain ⟨Am,e234,Ae,Af,Ag,Ah⟩:=at_T93 As.out Aa p234 q234
         cases e234
         obtain ⟨Ae,Af,Ag,Ah⟩:=hb4_ HB Ae Af Ag Ah;replace p234:=eq_true p234;replace q234:=eq_true q234
         go_upto_if 50 with (first | ((with_reducible refine gate_dst (N:=10) rfl ?_);refine box_q 10 #[.int .i64 0,.int .i64 0,.int .i64 0,.int .i64 0] 93 ?_;intro Ac hg w22 hbox hb;have Ai:=ak (hbox);have Au:=gs_ HB hg;replace HB:=hB_ HB hb;have Aj:=nb_ Ad hg;have Ak:=nB_ Ad hg;replace Ad:=bb_ Ad hb;clear hb hbox hg;have Gj:=Ak.out;have Gk:=Aj.out;obtain ⟨Ct,Cu,Cv,Cw,Cx,Cy,Cz,Da⟩:=cf4_ Ai))
         have n0_:Aside0 (((((w22.setCell ⟨Ac,0,none⟩ (.int .i64 ((rd_T93 Ab Aa).f0))).setCell ⟨Ac,1,none⟩ (.int .i64 ((rd_T93 Ab Aa).f1))).setCell ⟨Ac,2,none⟩ (.int .i64 ((rd_T93 Ab Aa).f2))).setCell ⟨Ac,3,none⟩ (.int .i64 ((rd_T93 Ab Aa).f3))).heap[Ar]? =some (.cells #[.int .i64 An,.slice (some Am) Ab.length Ao,.slice Ap Al.length Aq] 31 (0,0))):=⟨bp_ Ad⟩
         have n1_:Aside0 (((((w22.setCell ⟨Ac,0,none⟩ (.int .i64 ((rd_T93 Ab Aa).f0))).setCell ⟨Ac,1,none⟩ (.int .i64 ((rd_T93 Ab Aa).f1))).setCell ⟨Ac,2,none⟩ (.int .i64 ((rd_T93 Ab Aa).f2))).setCell ⟨Ac,3,none⟩ (.int .i64 ((rd_T93 Ab Aa).f3))).heap[Ac]? =some (.cells #[.int .i64 ((rd_T93 Ab Aa).f0),.int .i64 ((rd_T93 Ab Aa).f1),.int .i64 ((rd_T93 Ab Aa).f2),.int .i64 ((rd_T93 Ab Aa).f3)] 93 (0,0))):=⟨bp_ Ai⟩
         have n2_:Aside0 (Below w.heap.size w ((((w22.setCell ⟨Ac,0,none⟩ (.int .i64 ((rd_T93 Ab Aa).f0))).setCell ⟨Ac,1,none⟩ (.int .i64 ((rd_T93 Ab Aa).f1))).setCell ⟨Ac,2,none⟩ (.int .i64 ((rd_T93 Ab Aa).f2))).setCell ⟨Ac,3,none⟩ (.int .i64 ((rd_T93 Ab Aa).f3)))):=⟨bw_q HB⟩
         (try clear Ad);(try clear Ai);(try clear HB)
         generalize ((((w22.setCell ⟨Ac,0,none⟩ (.int .i64 ((rd_T93 Ab Aa).f0))).setCell ⟨Ac,1,none⟩ (.int .i64 ((rd_T93 Ab Aa).f1))).setCell ⟨Ac,2,none⟩ (.int .i64 ((rd_T93 Ab Aa).f2))).setCell ⟨Ac,3,none⟩ (.int .i64 ((rd_T93 Ab Aa).f3)))=w25 at n0_ n1_ n2_ ⊢
         have Ad:=n0_;have Ai:=n1_;have HB:=n2_;clear n0_ n1_ n2_;(try clear Ae);(try clear Af);(try clear Ag);(try clear Ah);have H:=Bb.out;clear Bb
         by_cases c26:((rd_T93 Ab Aa).f1)=a1
         ·rw [if_pos c26] at H;have Av:=bqi c26;have Aw:=bnf c26;clear c26
          (first | rw [Av] | rw [Aw] | (simp only [i64_w,i32_w];first | rw [Av] | rw [Aw]) | skip)
          obtain rfl:=Option.some.inj H;have Gl:=Ak.out;have Gm:=Aj.out;obtain ⟨Db,Dc,Dd,De,Df,Dg,Dh,Di⟩:=cf4_ Ai
          go_wp2
          go_ret
          exact ⟨er_q,bw_q HB⟩
         ·rw [if_neg c26] at H;have Av:=bqf c26;have Aw:=bni c26
          (first | rw [Av] | rw [Aw] | (simp only [i64_w,i32_w];first | rw [Av] | rw [Aw]) | skip)
          have H':=ak H;clear H
          go_wp2
          go_roundg k1
          case measure=> have:=At.out;omega
          case rel=> exact ⟨(wrap64 (Aa+1)),rs_q,H',⟨by have:=At.out;omega⟩,⟨bk_q Ad⟩,⟨bw_q HB⟩⟩
        ·rw [if_neg c19] at H;have Bi:=bqf c19;have Bj:=bni c19;have Bc:=ak H;clear H;obtain ⟨Dj,Dk,Dl,Dm,Dn,Do⟩:=cf3_ Ad
         have p234:0≤(Aa:Int):=of_decide_eq_true as_q
         have q234:Aa<(Ab.length:Int):=of_decide_eq_true as_q
         obtain ⟨Am,e234,Ae,Af,Ag,Ah⟩:=at_T93 As.out Aa p234 q234
         cases e234
         obtain ⟨Ae,Af,Ag,Ah⟩:=hb4_ HB Ae Af Ag Ah;replace p234:=eq_true p234;replace q234:=eq_true q234
         go_upto_if 50 with (first | ((with_reducible refine gate_dst (N:=10) rfl ?_);refine box_q 10 #[.int .i64 0,.int .i64 0,.int .i64 0,.int .i64 0] 93 ?_;intro Ac hg w31 hbox hb;have Ai:=ak (hbox);have Au:=gs_ HB hg;replace HB:=hB_ HB hb;have Aj:=nb_ Ad hg;have Ak:=nB_ Ad hg;replace Ad:=bb_ Ad hb;clear hb hbox hg;have Gn:=Ak.out;have Go:=Aj.out;obtain ⟨Dp,Dq,Dr,Ds,Dt,Du,Dv,Dw⟩:=cf4_ Ai))
         have n0_:Aside0 (((((w31.setCell ⟨Ac,0,none⟩ (.int .i64 ((rd_T93 Ab Aa).f0))).setCell ⟨Ac,1,none⟩ (.int .i64 ((rd_T93 Ab Aa).f1))).setCell ⟨Ac,2,none⟩ (.int .i64 ((rd_T93 Ab Aa).f2))).setCell ⟨Ac,3,none⟩ (.int .i64 ((rd_T93 Ab Aa).f3))).heap[Ar]? =some (.cells #[.int .i64 An,.slice (some Am) Ab.length Ao,.slice Ap Al.length Aq] 31 (0,0))):=⟨bp_ Ad⟩
         have n1_:Aside0 (((((w31.setCell ⟨Ac,0,none⟩ (.int .i64 ((rd_T93 Ab Aa).f0))).setCell ⟨Ac,1,none⟩ (.int .i64 ((rd_T93 Ab Aa).f1))).setCell ⟨Ac,2,none⟩ (.int .i64 ((rd_T93 Ab Aa).f2))).setCell ⟨Ac,3,none⟩ (.int .i64 ((rd_T93 Ab Aa).f3))).heap[Ac]? =some (.cells #[.int .i64 ((rd_T93 Ab Aa).f0),.int .i64 ((rd_T93 Ab Aa).f1),.int .i64 ((rd_T93 Ab Aa).f2),.int .i64 ((rd_T93 Ab Aa).f3)] 93 (0,0))):=⟨bp_ Ai⟩
         have n2_:Aside0 (Below w.heap.size w ((((w31.setCell ⟨Ac,0,none⟩ (.int .i64 ((rd_T93 Ab Aa).f0))).setCell ⟨Ac,1,none⟩ (.int .i64 ((rd_T93 Ab Aa).f1))).setCell ⟨Ac,2,none⟩ (.int .i64 ((rd_T93 Ab Aa).f2))).setCell ⟨Ac,3,none⟩ (.int .i64 ((rd_T93 Ab Aa).f3)))):=⟨bw_q HB⟩
         (try clear Ad);(try clear Ai);(try clear HB)
         generalize ((((w31.setCell ⟨Ac,0,none⟩ (.int .i64 ((rd_T93 Ab Aa).f0))).setCell ⟨Ac,1,none⟩ (.int .i64 ((rd_T93 Ab Aa).f1))).setCell ⟨Ac,2,none⟩ (.int .i64 ((rd_T93 Ab Aa).f2))).setCell ⟨Ac,3,none⟩ (.int .i64 ((rd_T93 Ab Aa).f3)))=w34 at n0_ n1_ n2_ ⊢
         have Ad:=n0_;have Ai:=n1_;have HB:=n2_;clear n0_ n1_ n2_;(try clear Ae);(try clear Af);(try clear Ag);(try clear Ah);have H:=Bc.out;clear Bc;have H':=ak H;clear H
         go_wp2
         go_roundg k1
         case measure=> have:=At.out;omega
         case rel=> exact ⟨(wrap64 (Aa+1)),rs_q,H',⟨by have:=At.out;omega⟩,⟨bk_q Ad⟩,⟨bw_q HB⟩⟩
      ·rw [if_neg c9] at H;have Bp:=bqf c9;have Bq:=bni c9
       by_cases c35:((rd_T93 Ab Aa).f0)=a2
       ·rw [if_pos c35] at H;have Bk:=bqi c35;have Bl:=bnf c35
        clear c35;have Bd:=ak H;clear H;obtain ⟨Dx,Dy,Dz,Ea,Eb,Ec⟩:=cf3_ Ad
        have p234:0≤(Aa:Int):=of_decide_eq_true as_q
        have q234:Aa<(Ab.length:Int):=of_decide_eq_true as_q
        obtain ⟨Am,e234,Ae,Af,Ag,Ah⟩:=at_T93 As.out Aa p234 q234
        cases e234
        obtain ⟨Ae,Af,Ag,Ah⟩:=hb4_ HB Ae Af Ag Ah;replace p234:=eq_true p234;replace q234:=eq_true q234
        go_upto_if 50 with (first | ((with_reducible refine gate_dst (N:=10) rfl ?_);refine box_q 10 #[.int .i64 0,.int .i64 0,.int .i64 0,.int .i64 0] 93 ?_;intro Ac hg w38 hbox hb;have Ai:=ak (hbox);have Au:=gs_ HB hg;replace HB:=hB_ HB hb;have Aj:=nb_ Ad hg;have Ak:=nB_ Ad hg;replace Ad:=bb_ Ad hb;clear hb hbox hg;have Gp:=Ak.out;have Gq:=Aj.out;obtain ⟨Ed,Ee,Ef,Eg,Eh,Ei,Ej,Ek⟩:=cf4_ Ai))
        have n0_:Aside0 (((((w38.setCell ⟨Ac,0,none⟩ (.int .i64 ((rd_T93 Ab Aa).f0))).setCell ⟨Ac,1,none⟩ (.int .i64 ((rd_T93 Ab Aa).f1))).setCell ⟨Ac,2,none⟩ (.int .i64 ((rd_T93 Ab Aa).f2))).setCell ⟨Ac,3,none⟩ (.int .i64 ((rd_T93 Ab Aa).f3))).heap[Ar]? =some (.cells #[.int .i64 An,.slice (some Am) Ab.length Ao,.slice Ap Al.length Aq] 31 (0,0))):=⟨bp_ Ad⟩
        have n1_:Aside0 (((((w38.setCell ⟨Ac,0,none⟩ (.int .i64 ((rd_T93 Ab Aa).f0))).setCell ⟨Ac,1,none⟩ (.int .i64 ((rd_T93 Ab Aa).f1))).setCell ⟨Ac,2,none⟩ (.int .i64 ((rd_T93 Ab Aa).f2))).setCell ⟨Ac,3,none⟩ (.int .i64 ((rd_T93 Ab Aa).f3))).heap[Ac]? =some (.cells #[.int .i64 ((rd_T93 Ab Aa).f0),.int .i64 ((rd_T93 Ab Aa).f1),.int .i64 ((rd_T93 Ab Aa).f2),.int .i64 ((rd_T93 Ab Aa).f3)] 93 (0,0))):=⟨bp_ Ai⟩
        have n2_:Aside0 (Below w.heap.size w ((((w38.setCell ⟨Ac,0,none⟩ (.int .i64 ((rd_T93 Ab Aa).f0))).setCell ⟨Ac,1,none⟩ (.int .i64 ((rd_T93 Ab Aa).f1))).setCell ⟨Ac,2,none⟩ (.int .i64 ((rd_T93 Ab Aa).f2))).setCell ⟨Ac,3,none⟩ (.int .i64 ((rd_T93 Ab Aa).f3)))):=⟨bw_q HB⟩
        (try clear Ad);(try clear Ai);(try clear HB)
        generalize ((((w38.setCell ⟨Ac,0,none⟩ (.int .i64 ((rd_T93 Ab Aa).f0))).setCell ⟨Ac,1,none⟩ (.int .i64 ((rd_T93 Ab Aa).f1))).setCell ⟨Ac,2,none⟩ (.int .i64 ((rd_T93 Ab Aa).f2))).setCell ⟨Ac,3,none⟩ (.int .i64 ((rd_T93 Ab Aa).f3)))=w41 at n0_ n1_ n2_ ⊢
        have Ad:=n0_;have Ai:=n1_;have HB:=n2_;clear n0_ n1_ n2_;(try clear Ae);(try clear Af);(try clear Ag);(try clear Ah);have H:=Bd.out;clear Bd
        by_cases c42:((rd_T93 Ab Aa).f1)=a1
        ·rw [if_pos c42] at H;have Ax:=bqi c42;have Ay:=bnf c42;clear c42
         (first | rw [Ax] | rw [Ay] | (simp only [i64_w,i32_w];first | rw [Ax] | rw [Ay]) | skip)
         obtain rfl:=Option.some.inj H;have Gr:=Ak.out;have Gs:=Aj.out;obtain ⟨El,Em,En,Eo,Ep,Eq,Er,Es⟩:=cf4_ Ai
         go_wp2
         go_ret
         exact ⟨er_q,bw_q HB⟩
        ·rw [if_neg c42] at H;have Ax:=bqf c42;have Ay:=bni c42
         (first | rw [Ax] | rw [Ay] | (simp only [i64_w,i32_w];first | rw [Ax] | rw [Ay]) | skip)
         have H':=ak H;clear H
         go_wp2
         go_roundg k1
         case measure=> have:=At.out;omega
         case rel=> exact ⟨(wrap64 (Aa+1)),rs_q,H',⟨by have:=At.out;omega⟩,⟨bk_q Ad⟩,⟨bw_q HB⟩⟩
       ·rw [if_neg c35] at H;have Bk:=bqf c35;have Bl:=bni c35;have Be:=ak H;clear H;obtain ⟨Et,Eu,Ev,Ew,Ex,Ey⟩:=cf3_ Ad
        have p234:0≤(Aa:Int):=of_decide_eq_true as_q
        have q234:Aa<(Ab.length:Int):=of_decide_eq_true as_q
        obtain ⟨Am,e234,Ae,Af,Ag,Ah⟩:=at_T93 As.out Aa p234 q234
        cases e234
        obtain ⟨Ae,Af,Ag,Ah⟩:=hb4_ HB Ae Af Ag Ah;replace p234:=eq_true p234;replace q234:=eq_true q234
        go_upto_if 50 with (first | ((with_reducible refine gate_dst (N:=10) rfl ?_);refine box_q 10 #[.int .i64 0,.int .i64 0,.int .i64 0,.int .i64 0] 93 ?_;intro Ac hg w47 hbox hb;have Ai:=ak (hbox);have Au:=gs_ HB hg;replace HB:=hB_ HB hb;have Aj:=nb_ Ad hg;have Ak:=nB_ Ad hg;replace Ad:=bb_ Ad hb;clear hb hbox hg;have Gt:=Ak.out;have Gu:=Aj.out;obtain ⟨Ez,Fa,Fb,Fc,Fd,Fe,Ff,Fg⟩:=cf4_ Ai))
        have n0_:Aside0 (((((w47.setCell ⟨Ac,0,none⟩ (.int .i64 ((rd_T93 Ab Aa).f0))).setCell ⟨Ac,1,none⟩ (.int .i64 ((rd_T93 Ab Aa).f1))).setCell ⟨Ac,2,none⟩ (.int .i64 ((rd_T93 Ab Aa).f2))).setCell ⟨Ac,3,none⟩ (.int .i64 ((rd_T93 Ab Aa).f3))).heap[Ar]? =some (.cells #[.int .i64 An,.slice (some Am) Ab.length Ao,.slice Ap Al.length Aq] 31 (0,0))):=⟨bp_ Ad⟩
        have n1_:Aside0 (((((w47.setCell ⟨Ac,0,none⟩ (.int .i64 ((rd_T93 Ab Aa).f0))).setCell ⟨Ac,1,none⟩ (.int .i64 ((rd_T93 Ab Aa).f1))).setCell ⟨Ac,2,none⟩ (.int .i64 ((rd_T93 Ab Aa).f2))).setCell ⟨Ac,3,none⟩ (.int .i64 ((rd_T93 Ab Aa).f3))).heap[Ac]? =some (.cells #[.int .i64 ((rd_T93 Ab Aa).f0),.int .i64 ((rd_T93 Ab Aa).f1),.int .i64 ((rd_T93 Ab Aa).f2),.int .i64 ((rd_T93 Ab Aa).f3)] 93 (0,0))):=⟨bp_ Ai⟩
        have n2_:Aside0 (Below w.heap.size w ((((w47.setCell ⟨Ac,0,none⟩ (.int .i64 ((rd_T93 Ab Aa).f0))).setCell ⟨Ac,1,none⟩ (.int .i64 ((rd_T93 Ab Aa).f1))).setCell ⟨Ac,2,none⟩ (.int .i64 ((rd_T93 Ab Aa).f2))).setCell ⟨Ac,3,none⟩ (.int .i64 ((rd_T93 Ab Aa).f3)))):=⟨bw_q HB⟩
        (try clear Ad);(try clear Ai);(try clear HB)
        generalize ((((w47.setCell ⟨Ac,0,none⟩ (.int .i64 ((rd_T93 Ab Aa).f0))).setCell ⟨Ac,1,none⟩ (.int .i64 ((rd_T93 Ab Aa).f1))).setCell ⟨Ac,2,none⟩ (.int .i64 ((rd_T93 Ab Aa).f2))).setCell ⟨Ac,3,none⟩ (.int .i64 ((rd_T93 Ab Aa).f3)))=w50 at n0_ n1_ n2_ ⊢
        have Ad:=n0_;have Ai:=n1_;have HB:=n2_;clear n0_ n1_ n2_;(try clear Ae);(try clear Af);(try clear Ag);(try clear Ah);have H:=Be.out;clear Be;have H':=ak H;clear H
        go_wp2
        go_roundg k1
        case measure=> have:=At.out;omega
        case rel=> exact ⟨(wrap64 (Aa+1)),rs_q,H',⟨by have:=At.out;omega⟩,⟨bk_q Ad⟩,⟨bw_q HB⟩⟩
     ·rw [if_neg c8] at H;have Bn:=bqf c8;have Bo:=bni c8;have Bf:=ak H;clear H;obtain ⟨Fh,Fi,Fj,Fk,Fl,Fm⟩:=cf3_ Ad
      have p234:0≤(Aa:Int):=of_decide_eq_true as_q
      have q234:Aa<(Ab.length:Int):=of_decide_eq_true as_q
      obtain ⟨Am,e234,Ae,Af,Ag,Ah⟩:=at_T93 As.out Aa p234 q234
      cases e234
      obtain ⟨Ae,Af,Ag,Ah⟩:=hb4_ HB Ae Af Ag Ah;replace p234:=eq_true p234;replace q234:=eq_true q234
      go_upto_if 50 with (first | ((with_reducible refine gate_dst (N:=10) rfl ?_);refine box_q 10 #[.int .i64 0,.int .i64 0,.int .i64 0,.int .i64 0] 93 ?_;intro Ac hg w53 hbox hb;have Ai:=ak (hbox);have Au:=gs_ HB hg;replace HB:=hB_ HB hb;have Aj:=nb_ Ad hg;have Ak:=nB_ Ad hg;replace Ad:=bb_ Ad hb;clear hb hbox hg;have Gv:=Ak.out;have Gw:=Aj.out;obtain ⟨Fn,Fo,Fp,Fq,Fr,Fs,Ft,Fu⟩:=cf4_ Ai))
      have n0_:Aside0 (((((w53.setCell ⟨Ac,0,none⟩ (.int .i64 ((rd_T93 Ab Aa).f0))).setCell ⟨Ac,1,none⟩ (.int .i64 ((rd_T93 Ab Aa).f1))).setCell ⟨Ac,2,none⟩ (.int .i64 ((rd_T93 Ab Aa).f2))).setCell ⟨Ac,3,none⟩ (.int .i64 ((rd_T93 Ab Aa).f3))).heap[Ar]? =some (.cells #[.int .i64 An,.slice (some Am) Ab.length Ao,.slice Ap Al.length Aq] 31 (0,0))):=⟨bp_ Ad⟩
      have n1_:Aside0 (((((w53.setCell ⟨Ac,0,none⟩ (.int .i64 ((rd_T93 Ab Aa).f0))).setCell ⟨Ac,1,none⟩ (.int .i64 ((rd_T93 Ab Aa).f1))).setCell ⟨Ac,2,none⟩ (.int .i64 ((rd_T93 Ab Aa).f2))).setCell ⟨Ac,3,none⟩ (.int .i64 ((rd_T93 Ab Aa).f3))).heap[Ac]? =some (.cells #[.int .i64 ((rd_T93 Ab Aa).f0),.int .i64 ((rd_T93 Ab Aa).f1),.int .i64 ((rd_T93 Ab Aa).f2),.int .i64 ((rd_T93 Ab Aa).f3)] 93 (0,0))):=⟨bp_ Ai⟩
      have n2_:Aside0 (Below w.heap.size w ((((w53.setCell ⟨Ac,0,none⟩ (.int .i64 ((rd_T93 Ab Aa).f0))).setCell ⟨Ac,1,none⟩ (.int .i64 ((rd_T93 Ab Aa).f1))).setCell ⟨Ac,2,none⟩ (.int .i64 ((rd_T93 Ab Aa).f2))).setCell ⟨Ac,3,none⟩ (.int .i64 ((rd_T93 Ab Aa).f3)))):=⟨bw_q HB⟩
      (try clear Ad);(try clear Ai);(try clear HB)
      generalize ((((w53.setCell ⟨Ac,0,none⟩ (.int .i64 ((rd_T93 Ab Aa).f0))).setCell ⟨Ac,1,none⟩ (.int .i64 ((rd_T93 Ab Aa).f1))).setCell ⟨Ac,2,none⟩ (.int .i64 ((rd_T93 Ab Aa).f2))).setCell ⟨Ac,3,none⟩ (.int .i64 ((rd_T93 Ab Aa).f3)))=w56 at n0_ n1_ n2_ ⊢
      have Ad:=n0_;have Ai:=n1_;have HB:=n2_;clear n0_ n1_ n2_;(try clear Ae);(try clear Af);(try clear Ag);(try clear Ah);have H:=Bf.out;clear Bf;have H':=ak H;clear H
      go_wp2
      go_roundg k1
      case measure=> have:=At.out;omega
      case rel=> exact ⟨(wrap64 (Aa+1)),rs_q,H',⟨by have:=At.out;omega⟩,⟨bk_q Ad⟩,⟨bw_q HB⟩⟩
    ·rw [if_neg c7] at H
     exact absurd H (by simp)
   ·rw [if_neg c6] at H;have Bm:=decide_eq_false c6
    clear c6;obtain rfl:=Option.some.inj H;obtain ⟨Fv,Fw,Fx,Fy,Fz,Ga⟩:=cf3_ Ad
    go_wp2
    go_ret
    exact ⟨er_q,bw_q HB⟩

/-! ### spec_l08Heard: function 87 -/
mutual
def spec_l08Heard.j0:Nat→Bool→Int→Int→Int→List (S93)→List (S102)→List Int→List (S61)→Option (Bool)
 | 0,_,_,_,_,_,_,_,_=> none
 | k+1,i,a,b,c,d,e,g,h=> if i=true then (some false) else (spec_l08Heard.l0 k 0 a b c d e g h)
def spec_l08Heard.l0:Nat→Int→Int→Int→Int→List (S93)→List (S102)→List Int→List (S61)→Option (Bool)
 | 0,_,_,_,_,_,_,_,_=> none
 | k+1,b,c,h,d,e,g,a,i=> if b<(a.length:Int) then (if 0≤b then (if 0≤(wrap64 (b+1)) then (if (wrap64 (b+1))<(a.length:Int) then ((spec_CostTo.f k d e g c (rd a b) (rd a (wrap64 (b+1)))).bind fun j=> (if j=0 then (some false) else (if b > 0 then (if 0≤(wrap64 (b-2)) then (if (wrap64 (b-2))<(a.length:Int) then (if (rd a (wrap64 (b-2))) > (rd a b) then (some false) else (if (rd a (wrap64 (b-2)))=(rd a b) then (if 0≤(wrap64 (b-1)) then (if (wrap64 (b-1))<(a.length:Int) then (if (rd a (wrap64 (b-1)))≥(rd a (wrap64 (b+1))) then (some false) else (spec_l08Heard.l0 k (wrap64 (b+2)) c h d e g a i)) else (none)) else (none)) else (spec_l08Heard.l0 k (wrap64 (b+2)) c h d e g a i))) else (none)) else (none)) else (spec_l08Heard.l0 k (wrap64 (b+2)) c h d e g a i)))) else (none)) else (none)) else (none)) else (some true)
end
def spec_l08Heard.f (k:Nat) (b:Int) (c:Int) (d:Int) (e:List (S93)) (g:List (S102)) (a:List Int) (h:List (S61)):Option (Bool):=if ((a.length:Int) % 2)=1 then (spec_l08Heard.j0 k true b c d e g a h) else (spec_l08Heard.j0 k (decide ((a.length:Int) > 60)) b c d e g a h)
theorem spec_l08Heard.mono_l:∀k,(∀y0 y1 y2 y3 y4 y5 y6 y7,LeO (spec_l08Heard.j0 k y0 y1 y2 y3 y4 y5 y6 y7) (spec_l08Heard.j0 (k+1) y0 y1 y2 y3 y4 y5 y6 y7))∧(∀y0 y1 y2 y3 y4 y5 y6 y7,LeO (spec_l08Heard.l0 k y0 y1 y2 y3 y4 y5 y6 y7) (spec_l08Heard.l0 (k+1) y0 y1 y2 y3 y4 y5 y6 y7))
 | 0=> ⟨fun _ _ _ _ _ _ _ _ r h=> by simp [spec_l08Heard.j0] at h,fun _ _ _ _ _ _ _ _ r h=> by simp [spec_l08Heard.l0] at h⟩
 | k+1=> by
  obtain ⟨ih0,ih1⟩:=spec_l08Heard.mono_l k
  refine ⟨?_,?_⟩
  ·intro y0 y1 y2 y3 y4 y5 y6 y7
   unfold spec_l08Heard.j0
   with_reducible repeat' (first | apply ih0 | apply ih1 | apply spec_CostTo.mono | exact LeO.refl _ | exact LeO.none _ | refine LeO.ite ?_ ?_ | refine LeO.bind ?_ (fun _=> ?_))
  ·intro y0 y1 y2 y3 y4 y5 y6 y7
   unfold spec_l08Heard.l0
   with_reducible repeat' (first | apply ih0 | apply ih1 | apply spec_CostTo.mono | exact LeO.refl _ | exact LeO.none _ | refine LeO.ite ?_ ?_ | refine LeO.bind ?_ (fun _=> ?_))
theorem spec_l08Heard.mono:∀a0 a1 a2 a3 a4 a5 a6 k,LeO (spec_l08Heard.f k a0 a1 a2 a3 a4 a5 a6) (spec_l08Heard.f (k+1) a0 a1 a2 a3 a4 a5 a6):=by
 intro a0 a1 a2 a3 a4 a5 a6 k
 obtain ⟨ih0,ih1⟩:=spec_l08Heard.mono_l k
 unfold spec_l08Heard.f
 with_reducible repeat' (first | apply ih0 | apply ih1 | apply spec_CostTo.mono | exact LeO.refl _ | exact LeO.none _ | refine LeO.ite ?_ ?_ | refine LeO.bind ?_ (fun _=> ?_))
set_option maxHeartbeats 8000000 in
set_option maxRecDepth 100000 in
theorem spec_l08Heard.calls (k:Nat) (Ah:Int) (An:Int) (Ai:Int) (Ap:Option Addr) (Aq:Nat) (Af:List (S93)) (Ar:Option Addr) (As:Nat) (Ag:List (S102)) (Be:Option Addr) (Bf:Nat) (Aa:List Int) (Bg:Option Addr) (Bh:Nat) (Al:List (S61)) (r:Bool) (w:World) (hr0_3:Kd.C k93 w Ap Af.length Af) (hc0_3:Af.length≤Aq) (hr0_4:Kd.C k102 w Ar Ag.length Ag) (hc0_4:Ag.length≤As) (hr0_5:Kd.C (Kd.int .i64) w Be Aa.length Aa) (hc0_5:Aa.length≤Bf) (hr0_6:Kd.C k61 w Bg Al.length Al) (hc0_6:Al.length≤Bh) (h:spec_l08Heard.f k Ah An Ai Af Ag Aa Al=some r):
  Calls Try.prog 87 #[.agg #[.int .i64 Ah,.int .i64 An,.int .i64 Ai,.slice Ap Af.length Aq,.slice Ar Ag.length As,.slice Be Aa.length Bf,.slice Bg Al.length Bh]] w fun e w'=> e=.returned (.bool r)∧Below w.heap.size w w':=by
 have hu43:=Try.underlying43;have hu31:=Try.underlying31;have Ax:=ak hr0_3;have Ay:=ak hc0_3;clear hr0_3 hc0_3;have Az:=ak hr0_4;have Ba:=ak hc0_4;clear hr0_4 hc0_4;have Aj:=ak hr0_5;have Hx:=ak hc0_5;clear hr0_5 hc0_5;have Hy:=ak hr0_6;have Hz:=ak hc0_6;clear hr0_6 hc0_6;have HB:=ak (Below.refl w.heap.size w);have H:=h
 clear h;unfold spec_l08Heard.f at H;have Cp:=ak H;clear H
 go_enter Try.func87,Try.ntmps87
 go_upto_region 1 with (first | ((with_reducible refine gate_dst (N:=1) rfl ?_);(try (refine gate_guard (by rfl) ?_;dsimp only));refine box_q 1 #[.int .i64 Ah,.int .i64 An,.int .i64 Ai,.slice Ap Af.length Aq,.slice Ar Ag.length As,.slice Be Aa.length Bf,.slice Bg Al.length Bh] 43 ?_;intro Co hg w3 hbox hb;have Ac:=ak (hbox);have Ia:=gs_ HB hg;replace HB:=hB_ HB hb;clear hb hbox hg))
 (try simp only [Act.put,List.setIfInBounds_toArray,List.set_cons_zero,List.set_cons_succ])
 go_cut [16] (fun v16 wc=> ∃(kq:Nat) (Bd:Bool),v16=.bool Bd∧Aside0 (spec_l08Heard.j0 kq Bd Ah An Ai Af Ag Aa Al=some r)∧Aside0 (kq≤k)∧Aside0 (wc.heap[Co]? =some (.cells #[.int .i64 Ah,.int .i64 An,.int .i64 Ai,(.slice Ap Af.length Aq),(.slice Ar Ag.length As),(.slice Be Aa.length Bf),(.slice Bg Al.length Bh)] 43 (0,0)))∧Aside0 (Below w.heap.size w wc))
 case first=>
  have H:=Cp.out;clear Cp
  by_cases c4:((Aa.length:Int) % 2)=1
  ·rw [if_pos c4] at H;have Av:=bqi c4;have Aw:=bnf c4;clear c4
   (first | rw [Av] | rw [Aw] | (simp only [i64_w,i32_w];first | rw [Av] | rw [Aw]) | skip)
   have H':=ak H;clear H;obtain ⟨Bm,Bn,Bo,Bp,Bq,Br,Bs,Bt,Bu,Bv,Bw,Bx,By,Bz⟩:=cf7_ Ac
   go_wp2
   go_meet
   case rel=> exact ⟨_,(true),rs_q,H',⟨by first | omega | exact Nat.le_refl _⟩,⟨bk_q Ac⟩,⟨bw_q HB⟩⟩
  ·rw [if_neg c4] at H;have Av:=bqf c4;have Aw:=bni c4
   (first | rw [Av] | rw [Aw] | (simp only [i64_w,i32_w];first | rw [Av] | rw [Aw]) | skip)
   have H':=ak H;clear H;obtain ⟨Ca,Cb,Cc,Cd,Ce,Cf,Cg,Ch,Ci,Cj,Ck,Cl,Cm,Cn⟩:=cf7_ Ac
   go_wp2
   go_meet
   case rel=> exact ⟨_,(decide ((Aa.length:Int) > 60)),rs_q,H',⟨by first | omega | exact Nat.le_refl _⟩,⟨bk_q Ac⟩,⟨bw_q HB⟩⟩
 case rest=>
  clear Cp;(try clear p2);(try clear c4);(try clear Av);(try clear Aw)
  try clear Bm Bn Bo Bp Bq Br Bs
  try clear Ca Cb Cc Cd Ce Cf Cg
  try clear Bt Bu Bv Bw Bx By Bz
  try clear Ch Ci Cj Ck Cl Cm Cn
  obtain ⟨kq,Bd,rfl,HA,HJ1,Ac,HB⟩:=hcut
  cases kq with
  | zero=> exact absurd HA.out (by simp [spec_l08Heard.j0])
  | succ kj1=>
   have H:=HA.out;clear HA
   simp only [spec_l08Heard.j0] at H
   by_cases c7:Bd=true
   ·subst c7;rw [if_pos rfl] at H;obtain rfl:=Option.some.inj H
    go_wp2
    go_ret
    exact ⟨er_q,bw_q HB⟩
   ·replace c7:=Bool.eq_false_iff.mpr c7;subst c7
    rw [if_neg (show ¬(false=true) by decide)] at H
    have H':=ak H;clear H
    go_wp2
    go_loopg [3] kj1 (fun kq v3 w'=> ∃(Ab:Int),v3=.int .i64 Ab∧Aside0 (spec_l08Heard.l0 kq Ab Ah An Ai Af Ag Aa Al=some r)∧Aside0 (kq≤kj1)∧Aside0 (w'.heap[Co]? =some (.cells #[.int .i64 Ah,.int .i64 An,.int .i64 Ai,(.slice Ap Af.length Aq),(.slice Ar Ag.length As),(.slice Be Aa.length Bf),(.slice Bg Al.length Bh)] 43 (0,0)))∧Aside0 (Below w.heap.size w w'))
    case atStart=> exact ⟨(0),rs_q,H',⟨Nat.le_refl _⟩,⟨bk_q Ac⟩,⟨bw_q HB⟩⟩
    case round=>
     clear H';(try clear p2);(try clear c4);(try clear Av);(try clear Aw);(try clear c7)
     try clear Bm Bn Bo Bp Bq Br Bs
     try clear Ca Cb Cc Cd Ce Cf Cg
     try clear Bt Bu Bv Bw Bx By Bz
     try clear Ch Ci Cj Ck Cl Cm Cn
     (try clear p2);obtain ⟨Ab,rfl,HA,Bi,Ac,HB⟩:=hrel
     cases gk with
     | zero=> exact absurd HA.out (by simp [spec_l08Heard.l0])
     | succ k2=>
      have H:=HA.out;clear HA
      simp only [spec_l08Heard.l0] at H
      by_cases c8:Ab<(Aa.length:Int)
      ·rw [if_pos c8] at H;have Da:=decide_eq_true c8;clear c8
       by_cases c9:0≤Ab
       ·rw [if_pos c9] at H;have Ih:=decide_eq_true c9
        clear c9;obtain ⟨ji10,hji10⟩:∃j_:Int,(wrap64 (Ab+1))=j_:=⟨_,rfl⟩
        replace H:(if 0≤(ji10) then (if (ji10)<(Aa.length:Int) then ((spec_CostTo.f k2 Ai Af Ag Ah (rd Aa Ab) (rd Aa (ji10))).bind fun Au=> (if Au=0 then (some false) else (if Ab > 0 then (if 0≤(wrap64 (Ab-2)) then (if (wrap64 (Ab-2))<(Aa.length:Int) then (if (rd Aa (wrap64 (Ab-2))) > (rd Aa Ab) then (some false) else (if (rd Aa (wrap64 (Ab-2)))=(rd Aa Ab) then (if 0≤(wrap64 (Ab-1)) then (if (wrap64 (Ab-1))<(Aa.length:Int) then (if (rd Aa (wrap64 (Ab-1)))≥(rd Aa (ji10)) then (some false) else (spec_l08Heard.l0 k2 (wrap64 (Ab+2)) Ah An Ai Af Ag Aa Al)) else (none)) else (none)) else (spec_l08Heard.l0 k2 (wrap64 (Ab+2)) Ah An Ai Af Ag Aa Al))) else (none)) else (none)) else (spec_l08Heard.l0 k2 (wrap64 (Ab+2)) Ah An Ai Af Ag Aa Al)))) else (none)) else (none))=some r:=by first | (rw [hji10] at H;exact H) | (simp only [hji10] at H ⊢;exact H)
        have hji10w:(IntKind.i64.wrap (Ab+1))=ji10:=(i64_w _).trans hji10
        by_cases c11:0≤(ji10)
        ·rw [if_pos c11] at H;have Ib:=decide_eq_true c11;clear c11
         by_cases c12:(ji10)<(Aa.length:Int)
         ·rw [if_pos c12] at H;have Ic:=decide_eq_true c12
          clear c12;replace H:=bsi H;obtain ⟨Au,A130,H⟩:=H
          (try dsimp only at H)
          have A13:=ak A130;clear A130
          by_cases c14:Au=0
          ·rw [if_pos c14] at H;have Ct:=bqi c14;have Cu:=bnf c14
           clear c14;obtain rfl:=Option.some.inj H;obtain ⟨Db,Dc,Dd,De,Df,Dg,Dh,Di,Dj,Dk,Dl,Dm,Dn,Do⟩:=cf7_ Ac
           have p237:0≤(Ab:Int):=of_decide_eq_true as_q
           have q237:Ab<(Aa.length:Int):=of_decide_eq_true as_q
           obtain ⟨Ak,e237,Ad⟩:=Kd.at_int Aj.out Ab p237 q237
           cases e237
           replace Ad:=hbc HB Ad;replace p237:=eq_true p237;replace q237:=eq_true q237
           have p238:0≤((ji10):Int):=of_decide_eq_true as_q
           have q238:(ji10)<(Aa.length:Int):=of_decide_eq_true as_q
           obtain ⟨Ao,e238,Ae⟩:=Kd.at_int Aj.out (ji10) p238 q238
           obtain rfl:Ak=Ao:=(by injection e238)
           replace Ae:=hbc HB Ae;replace p238:=eq_true p238;replace q238:=eq_true q238
           go_wp2_with (first | ((with_reducible refine gC_ 130 ?_);refine gM_ 41 Try.func130 #[.agg #[.int .i64 Ai,.slice Ap Af.length Aq,.slice Ar Ag.length As],.int .i64 Ah,.int .i64 (rd Aa Ab),.int .i64 (rd Aa (ji10))] rfl (by (try simp only [List.map_toArray,List.map_cons,List.map_nil]);first | done | (simp only [hji10];rfl) | rfl | (simp only [List.length_drop,List.length_take];rfl)) ?_;(with_reducible refine (spec_CostTo.calls k2 Ai _ _ Af _ _ Ag Ah (rd Aa Ab) (rd Aa (ji10)) Au _ ?_ ?_ ?_ ?_ A13.out).mono ?_);exact ch_ Ax HB;exact Ay.out;exact ch_ Az HB;exact Ba.out;rintro e w16 ⟨rfl,hb⟩;refine ⟨_,rfl,?_⟩;replace Ac:=bb_ Ac hb;replace HB:=hB_ HB hb))
           go_ret
           exact ⟨by first | rfl | (simp [errW_none,errW_some] <;> rfl) | (simp only [←hji10];first | rfl | (simp [errW_none,errW_some] <;> rfl)) | (simp [*,errW_none,errW_some] <;> rfl),bw_q HB⟩
          ·rw [if_neg c14] at H;have Ct:=bqf c14;have Cu:=bni c14
           by_cases c17:Ab > 0
           ·rw [if_pos c17] at H;have Cv:=decide_eq_true c17
            clear c17;obtain ⟨ji18,hji18⟩:∃j_:Int,(wrap64 (Ab-2))=j_:=⟨_,rfl⟩
            replace H:(if 0≤(ji18) then (if (ji18)<(Aa.length:Int) then (if (rd Aa (ji18)) > (rd Aa Ab) then (some false) else (if (rd Aa (ji18))=(rd Aa Ab) then (if 0≤(wrap64 (Ab-1)) then (if (wrap64 (Ab-1))<(Aa.length:Int) then (if (rd Aa (wrap64 (Ab-1)))≥(rd Aa (ji10)) then (some false) else (spec_l08Heard.l0 k2 (wrap64 (Ab+2)) Ah An Ai Af Ag Aa Al)) else (none)) else (none)) else (spec_l08Heard.l0 k2 (wrap64 (Ab+2)) Ah An Ai Af Ag Aa Al))) else (none)) else (none))=some r:=by first | (rw [hji18] at H;exact H) | (simp only [hji18] at H ⊢;exact H)
            (try rw [hji18] at A13)
            have hji18w:(IntKind.i64.wrap (Ab-2))=ji18:=(i64_w _).trans hji18
            by_cases c19:0≤(ji18)
            ·rw [if_pos c19] at H;have Id:=decide_eq_true c19;clear c19
             by_cases c20:(ji18)<(Aa.length:Int)
             ·rw [if_pos c20] at H;have Ie:=decide_eq_true c20;clear c20
              by_cases c21:(rd Aa (ji18)) > (rd Aa Ab)
              ·rw [if_pos c21] at H;have Cw:=decide_eq_true c21
               clear c21;obtain rfl:=Option.some.inj H;obtain ⟨Dp,Dq,Dr,Ds,Dt,Du,Dv,Dw,Dx,Dy,Dz,Ea,Eb,Ec⟩:=cf7_ Ac
               have p237:0≤(Ab:Int):=of_decide_eq_true as_q
               have q237:Ab<(Aa.length:Int):=of_decide_eq_true as_q
               obtain ⟨Ak,e237,Ad⟩:=Kd.at_int Aj.out Ab p237 q237
               cases e237
               replace Ad:=hbc HB Ad;replace p237:=eq_true p237;replace q237:=eq_true q237
               have p238:0≤((ji10):Int):=of_decide_eq_true as_q
               have q238:(ji10)<(Aa.length:Int):=of_decide_eq_true as_q
               obtain ⟨Ao,e238,Ae⟩:=Kd.at_int Aj.out (ji10) p238 q238
               obtain rfl:Ak=Ao:=(by injection e238)
               replace Ae:=hbc HB Ae;replace p238:=eq_true p238;replace q238:=eq_true q238
               go_wp2_with (first | ((with_reducible refine gC_ 130 ?_);refine gM_ 41 Try.func130 #[.agg #[.int .i64 Ai,.slice Ap Af.length Aq,.slice Ar Ag.length As],.int .i64 Ah,.int .i64 (rd Aa Ab),.int .i64 (rd Aa (ji10))] rfl (by (try simp only [List.map_toArray,List.map_cons,List.map_nil]);first | done | (simp only [hji10];rfl) | rfl | (simp only [List.length_drop,List.length_take];rfl)) ?_;(with_reducible refine (spec_CostTo.calls k2 Ai _ _ Af _ _ Ag Ah (rd Aa Ab) (rd Aa (ji10)) Au _ ?_ ?_ ?_ ?_ A13.out).mono ?_);exact ch_ Ax HB;exact Ay.out;exact ch_ Az HB;exact Ba.out;rintro e w23 ⟨rfl,hb⟩;refine ⟨_,rfl,?_⟩;replace Ac:=bb_ Ac hb;replace HB:=hB_ HB hb;obtain ⟨Ed,Ee,Ef,Eg,Eh,Ei,Ej,Ek,El,Em,En,Eo,Ep,Eq⟩:=cf7_ Ac;have p240:0≤((ji18):Int):=of_decide_eq_true as_q;have q240:(ji18)<(Aa.length:Int):=of_decide_eq_true as_q;obtain ⟨Bb,e240,Am⟩:=Kd.at_int Aj.out (ji18) p240 q240;obtain rfl:Ak=Bb:=(by injection e240);replace Am:=hbc HB Am;replace p240:=eq_true p240;replace q240:=eq_true q240))
               go_ret
               exact ⟨by first | rfl | (simp [errW_none,errW_some] <;> rfl) | (simp only [←hji10,←hji18];first | rfl | (simp [errW_none,errW_some] <;> rfl)) | (simp [*,errW_none,errW_some] <;> rfl),bw_q HB⟩
              ·rw [if_neg c21] at H;have Cw:=decide_eq_false c21;clear c21
               by_cases c25:(rd Aa (ji18))=(rd Aa Ab)
               ·rw [if_pos c25] at H;have Cx:=bqi c25;have Cy:=bnf c25
                clear c25;obtain ⟨ji26,hji26⟩:∃j_:Int,(wrap64 (Ab-1))=j_:=⟨_,rfl⟩
                replace H:(if 0≤(ji26) then (if (ji26)<(Aa.length:Int) then (if (rd Aa (ji26))≥(rd Aa (ji10)) then (some false) else (spec_l08Heard.l0 k2 (wrap64 (Ab+2)) Ah An Ai Af Ag Aa Al)) else (none)) else (none))=some r:=by first | (rw [hji26] at H;exact H) | (simp only [hji26] at H ⊢;exact H)
                (try rw [hji26] at A13)
                have hji26w:(IntKind.i64.wrap (Ab-1))=ji26:=(i64_w _).trans hji26
                by_cases c27:0≤(ji26)
                ·rw [if_pos c27] at H;have If:=decide_eq_true c27;clear c27
                 by_cases c28:(ji26)<(Aa.length:Int)
                 ·rw [if_pos c28] at H;have Ig:=decide_eq_true c28
                  clear c28;have Cq:=ak H;clear H;obtain ⟨Er,Es,Et,Eu,Ev,Ew,Ex,Ey,Ez,Fa,Fb,Fc,Fd,Fe⟩:=cf7_ Ac
                  have p237:0≤(Ab:Int):=of_decide_eq_true as_q
                  have q237:Ab<(Aa.length:Int):=of_decide_eq_true as_q
                  obtain ⟨Ak,e237,Ad⟩:=Kd.at_int Aj.out Ab p237 q237
                  cases e237
                  replace Ad:=hbc HB Ad;replace p237:=eq_true p237;replace q237:=eq_true q237
                  have p238:0≤((ji10):Int):=of_decide_eq_true as_q
                  have q238:(ji10)<(Aa.length:Int):=of_decide_eq_true as_q
                  obtain ⟨Ao,e238,Ae⟩:=Kd.at_int Aj.out (ji10) p238 q238
                  obtain rfl:Ak=Ao:=(by injection e238)
                  replace Ae:=hbc HB Ae;replace p238:=eq_true p238;replace q238:=eq_true q238
                  go_upto_if 76 with (first | ((with_reducible refine gC_ 130 ?_);refine gM_ 41 Try.func130 #[.agg #[.int .i64 Ai,.slice Ap Af.length Aq,.slice Ar Ag.length As],.int .i64 Ah,.int .i64 (rd Aa Ab),.int .i64 (rd Aa (ji10))] rfl (by (try simp only [List.map_toArray,List.map_cons,List.map_nil]);first | done | (simp only [hji10];rfl) | rfl | (simp only [List.length_drop,List.length_take];rfl)) ?_;(with_reducible refine (spec_CostTo.calls k2 Ai _ _ Af _ _ Ag Ah (rd Aa Ab) (rd Aa (ji10)) Au _ ?_ ?_ ?_ ?_ A13.out).mono ?_);exact ch_ Ax HB;exact Ay.out;exact ch_ Az HB;exact Ba.out;rintro e w31 ⟨rfl,hb⟩;refine ⟨_,rfl,?_⟩;replace Ac:=bb_ Ac hb;replace HB:=hB_ HB hb;obtain ⟨Ff,Fg,Fh,Fi,Fj,Fk,Fl,Fm,Fn,Fo,Fp,Fq,Fr,Fs⟩:=cf7_ Ac;have p240:0≤((ji18):Int):=of_decide_eq_true as_q;have q240:(ji18)<(Aa.length:Int):=of_decide_eq_true as_q;obtain ⟨Bb,e240,Am⟩:=Kd.at_int Aj.out (ji18) p240 q240;obtain rfl:Ak=Bb:=(by injection e240);replace Am:=hbc HB Am;replace p240:=eq_true p240;replace q240:=eq_true q240;have p241:0≤((ji18):Int):=of_decide_eq_true as_q;have q241:(ji18)<(Aa.length:Int):=of_decide_eq_true as_q;obtain ⟨Bk,e241,At⟩:=Kd.at_int Aj.out (ji18) p241 q241;obtain rfl:Ak=Bk:=(by injection e241);replace At:=hbc HB At;replace p241:=eq_true p241;replace q241:=eq_true q241;have p242:0≤((ji26):Int):=of_decide_eq_true as_q;have q242:(ji26)<(Aa.length:Int):=of_decide_eq_true as_q;obtain ⟨Cz,e242,Bj⟩:=Kd.at_int Aj.out (ji26) p242 q242;obtain rfl:Ak=Cz:=(by injection e242);replace Bj:=hbc HB Bj;replace p242:=eq_true p242;replace q242:=eq_true q242))
                  (try clear Ad);(try clear Ae);have H:=Cq.out;clear Cq
                  by_cases c33:(rd Aa (ji26))≥(rd Aa (ji10))
                  ·rw [if_pos c33] at H;have Bc:=decide_eq_true c33;clear c33
                   (first | rw [Bc] | rw [Bl] | (simp only [i64_w,i32_w];first | rw [Bc] | rw [Bl]) | skip)
                   obtain rfl:=Option.some.inj H
                   go_wp2
                   go_ret
                   exact ⟨by first | rfl | (simp [errW_none,errW_some] <;> rfl) | (simp only [←hji10,←hji18,←hji26];first | rfl | (simp [errW_none,errW_some] <;> rfl)) | (simp [*,errW_none,errW_some] <;> rfl),bw_q HB⟩
                  ·rw [if_neg c33] at H;have Bc:=decide_eq_false c33;clear c33
                   (first | rw [Bc] | rw [Bl] | (simp only [i64_w,i32_w];first | rw [Bc] | rw [Bl]) | skip)
                   have H':=ak H;clear H
                   go_wp2
                   go_roundg k2
                   case measure=> have:=HJ1.out;have:=Bi.out;omega
                   case rel=> exact ⟨(wrap64 (Ab+2)),rs_q,H',⟨by have:=HJ1.out;have:=Bi.out;omega⟩,⟨bk_q Ac⟩,⟨bw_q HB⟩⟩
                 ·rw [if_neg c28] at H
                  exact absurd H (by simp)
                ·rw [if_neg c27] at H
                 exact absurd H (by simp)
               ·rw [if_neg c25] at H;have Cx:=bqf c25;have Cy:=bni c25;have Cr:=ak H;clear H;obtain ⟨Ft,Fu,Fv,Fw,Fx,Fy,Fz,Ga,Gb,Gc,Gd,Ge,Gf,Gg⟩:=cf7_ Ac
                have p237:0≤(Ab:Int):=of_decide_eq_true as_q
                have q237:Ab<(Aa.length:Int):=of_decide_eq_true as_q
                obtain ⟨Ak,e237,Ad⟩:=Kd.at_int Aj.out Ab p237 q237
                cases e237
                replace Ad:=hbc HB Ad;replace p237:=eq_true p237;replace q237:=eq_true q237
                have p238:0≤((ji10):Int):=of_decide_eq_true as_q
                have q238:(ji10)<(Aa.length:Int):=of_decide_eq_true as_q
                obtain ⟨Ao,e238,Ae⟩:=Kd.at_int Aj.out (ji10) p238 q238
                obtain rfl:Ak=Ao:=(by injection e238)
                replace Ae:=hbc HB Ae;replace p238:=eq_true p238;replace q238:=eq_true q238
                go_upto_if 76 with (first | ((with_reducible refine gC_ 130 ?_);refine gM_ 41 Try.func130 #[.agg #[.int .i64 Ai,.slice Ap Af.length Aq,.slice Ar Ag.length As],.int .i64 Ah,.int .i64 (rd Aa Ab),.int .i64 (rd Aa (ji10))] rfl (by (try simp only [List.map_toArray,List.map_cons,List.map_nil]);first | done | (simp only [hji10];rfl) | rfl | (simp only [List.length_drop,List.length_take];rfl)) ?_;(with_reducible refine (spec_CostTo.calls k2 Ai _ _ Af _ _ Ag Ah (rd Aa Ab) (rd Aa (ji10)) Au _ ?_ ?_ ?_ ?_ A13.out).mono ?_);exact ch_ Ax HB;exact Ay.out;exact ch_ Az HB;exact Ba.out;rintro e w36 ⟨rfl,hb⟩;refine ⟨_,rfl,?_⟩;replace Ac:=bb_ Ac hb;replace HB:=hB_ HB hb;obtain ⟨Gh,Gi,Gj,Gk,Gl,Gm,Gn,Go,Gp,Gq,Gr,Gs,Gt,Gu⟩:=cf7_ Ac;have p240:0≤((ji18):Int):=of_decide_eq_true as_q;have q240:(ji18)<(Aa.length:Int):=of_decide_eq_true as_q;obtain ⟨Bb,e240,Am⟩:=Kd.at_int Aj.out (ji18) p240 q240;obtain rfl:Ak=Bb:=(by injection e240);replace Am:=hbc HB Am;replace p240:=eq_true p240;replace q240:=eq_true q240;have p241:0≤((ji18):Int):=of_decide_eq_true as_q;have q241:(ji18)<(Aa.length:Int):=of_decide_eq_true as_q;obtain ⟨Bk,e241,At⟩:=Kd.at_int Aj.out (ji18) p241 q241;obtain rfl:Ak=Bk:=(by injection e241);replace At:=hbc HB At;replace p241:=eq_true p241;replace q241:=eq_true q241))
                (try clear Ad);(try clear Ae);have H:=Cr.out;clear Cr;have H':=ak H;clear H
                go_wp2
                go_roundg k2
                case measure=> have:=HJ1.out;have:=Bi.out;omega
                case rel=> exact ⟨(wrap64 (Ab+2)),rs_q,H',⟨by have:=HJ1.out;have:=Bi.out;omega⟩,⟨bk_q Ac⟩,⟨bw_q HB⟩⟩
             ·rw [if_neg c20] at H
              exact absurd H (by simp)
            ·rw [if_neg c19] at H
             exact absurd H (by simp)
           ·rw [if_neg c17] at H;have Cv:=decide_eq_false c17
            clear c17;have Cs:=ak H;clear H;obtain ⟨Gv,Gw,Gx,Gy,Gz,Ha,Hb,Hc,Hd,He,Hf,Hg,Hh,Hi⟩:=cf7_ Ac
            have p237:0≤(Ab:Int):=of_decide_eq_true as_q
            have q237:Ab<(Aa.length:Int):=of_decide_eq_true as_q
            obtain ⟨Ak,e237,Ad⟩:=Kd.at_int Aj.out Ab p237 q237
            cases e237
            replace Ad:=hbc HB Ad;replace p237:=eq_true p237;replace q237:=eq_true q237
            have p238:0≤((ji10):Int):=of_decide_eq_true as_q
            have q238:(ji10)<(Aa.length:Int):=of_decide_eq_true as_q
            obtain ⟨Ao,e238,Ae⟩:=Kd.at_int Aj.out (ji10) p238 q238
            obtain rfl:Ak=Ao:=(by injection e238)
            replace Ae:=hbc HB Ae;replace p238:=eq_true p238;replace q238:=eq_true q238
            go_upto_if 76 with (first | ((with_reducible refine gC_ 130 ?_);refine gM_ 41 Try.func130 #[.agg #[.int .i64 Ai,.slice Ap Af.length Aq,.slice Ar Ag.length As],.int .i64 Ah,.int .i64 (rd Aa Ab),.int .i64 (rd Aa (ji10))] rfl (by (try simp only [List.map_toArray,List.map_cons,List.map_nil]);first | done | (simp only [hji10];rfl) | rfl | (simp only [List.length_drop,List.length_take];rfl)) ?_;(with_reducible refine (spec_CostTo.calls k2 Ai _ _ Af _ _ Ag Ah (rd Aa Ab) (rd Aa (ji10)) Au _ ?_ ?_ ?_ ?_ A13.out).mono ?_);exact ch_ Ax HB;exact Ay.out;exact ch_ Az HB;exact Ba.out;rintro e w40 ⟨rfl,hb⟩;refine ⟨_,rfl,?_⟩;replace Ac:=bb_ Ac hb;replace HB:=hB_ HB hb))
            (try clear Ad);(try clear Ae);have H:=Cs.out;clear Cs;have H':=ak H;clear H
            go_wp2
            go_roundg k2
            case measure=> have:=HJ1.out;have:=Bi.out;omega
            case rel=> exact ⟨(wrap64 (Ab+2)),rs_q,H',⟨by have:=HJ1.out;have:=Bi.out;omega⟩,⟨bk_q Ac⟩,⟨bw_q HB⟩⟩
         ·rw [if_neg c12] at H
          exact absurd H (by simp)
        ·rw [if_neg c11] at H
         exact absurd H (by simp)
       ·rw [if_neg c9] at H
        exact absurd H (by simp)
      ·rw [if_neg c8] at H;have Da:=decide_eq_false c8
       clear c8;obtain rfl:=Option.some.inj H;obtain ⟨Hj,Hk,Hl,Hm,Hn,Ho,Hp,Hq,Hr,Hs,Ht,Hu,Hv,Hw⟩:=cf7_ Ac
       go_wp2
       go_ret
       exact ⟨er_q,bw_q HB⟩

/-! ### spec_Before: function 72 -/
def spec_Before.f (a:Int) (b:Int) (c:Int) (h:Int) (j:Int) (l:List (S127)) (m:Int) (n:Bool) (d:Int) (e:Int) (g:Int) (i:Int) (o:Int) (p:List (S127)) (q:Int) (s:Bool):Option (Bool):=if a=d then (if b=e then (if c=g then (some (decide (h<i))) else (some (decide (c<g)))) else (some (decide (b<e)))) else (some (decide (a<d)))
set_option maxHeartbeats 8000000 in
set_option maxRecDepth 100000 in
theorem spec_Before.calls (Ai:Int) (Aj:Int) (Ak:Int) (Ao:Int) (Ap:Int) (Aq:Option Addr) (Ar:Nat) (Ae:List (S127)) (As:Int) (At:Bool) (Al:Int) (Am:Int) (An:Int) (Au:Int) (Av:Int) (Aw:Option Addr) (Ax:Nat) (Af:List (S127)) (Ay:Int) (Az:Bool) (r:Bool) (w:World) (hr0_5:Kd.C k127 w Aq Ae.length Ae) (hc0_5:Ae.length≤Ar) (hr1_5:Kd.C k127 w Aw Af.length Af) (hc1_5:Af.length≤Ax) (h:spec_Before.f Ai Aj Ak Ao Ap Ae As At Al Am An Au Av Af Ay Az=some r):
  Calls Try.prog 72 #[.agg #[.int .i64 Ai,.int .i64 Aj,.int .i64 Ak,.int .i64 Ao,.int .i64 Ap,.slice Aq Ae.length Ar,.int .i64 As,.bool At],.agg #[.int .i64 Al,.int .i64 Am,.int .i64 An,.int .i64 Au,.int .i64 Av,.slice Aw Af.length Ax,.int .i64 Ay,.bool Az]] w fun e w'=> e=.returned (.bool r)∧Below w.heap.size w w':=by
 have hu61:=Try.underlying61;have Hj:=ak hr0_5;have Hk:=ak hc0_5;clear hr0_5 hc0_5;have Hl:=ak hr1_5;have Hm:=ak hc1_5;clear hr1_5 hc1_5;have HB:=ak (Below.refl w.heap.size w);have H:=h
 clear h;unfold spec_Before.f at H;have Be:=ak H;clear H
 go_enter Try.func72,Try.ntmps72
 go_upto_if 9 with (first | ((with_reducible refine gate_dst (N:=2) rfl ?_);refine box_q 2 #[.int .i64 Ai,.int .i64 Aj,.int .i64 Ak,.int .i64 Ao,.int .i64 Ap,.slice Aq Ae.length Ar,.int .i64 As,.bool At] 61 ?_;intro Hn hg w4 hbox hb;have Ac:=ak (hbox);have Ho:=gs_ HB hg;replace HB:=hB_ HB hb;clear hb hbox hg) | ((with_reducible refine gate_dst (N:=3) rfl ?_);refine box_q 3 #[.int .i64 Al,.int .i64 Am,.int .i64 An,.int .i64 Au,.int .i64 Av,.slice Aw Af.length Ax,.int .i64 Ay,.bool Az] 61 ?_;intro Hp hg w5 hbox hb;have Ad:=ak (hbox);have Hq:=gs_ HB hg;replace HB:=hB_ HB hb;have Aa:=nb_ Ac hg;have Ab:=nB_ Ac hg;replace Ac:=bb_ Ac hb;clear hb hbox hg;have Hz:=Aa.out;have Ia:=Ab.out;obtain ⟨Gd,Ge,Gf,Gg,Gh,Gi,Gj,Gk,Gl,Gm,Gn,Go,Gp,Gq,Gr,Gs⟩:=cf8_ Ac;obtain ⟨Gt,Gu,Gv,Gw,Gx,Gy,Gz,Ha,Hb,Hc,Hd,He,Hf,Hg,Hh,Hi⟩:=cf8_ Ad))
 have H:=Be.out;clear Be
 by_cases c9:Ai=Al
 ·rw [if_pos c9] at H;have Ag:=bqi c9;have Ah:=bnf c9;clear c9
  (first | rw [Ag] | rw [Ah] | (simp only [i64_w,i32_w];first | rw [Ag] | rw [Ah]) | skip)
  by_cases c10:Aj=Am
  ·rw [if_pos c10] at H;have Ba:=bqi c10;have Bb:=bnf c10;clear c10
   by_cases c11:Ak=An
   ·rw [if_pos c11] at H;have Bc:=bqi c11;have Bd:=bnf c11
    clear c11;obtain rfl:=Option.some.inj H;have Hr:=Aa.out;have Hs:=Ab.out;obtain ⟨Bf,Bg,Bh,Bi,Bj,Bk,Bl,Bm,Bn,Bo,Bp,Bq,Br,Bs,Bt,Bu⟩:=cf8_ Ac;obtain ⟨Bv,Bw,Bx,By,Bz,Ca,Cb,Cc,Cd,Ce,Cf,Cg,Ch,Ci,Cj,Ck⟩:=cf8_ Ad
    go_wp2
    go_ret
    exact ⟨er_q,bw_q HB⟩
   ·rw [if_neg c11] at H;have Bc:=bqf c11;have Bd:=bni c11;obtain rfl:=Option.some.inj H;have Ht:=Aa.out;have Hu:=Ab.out;obtain ⟨Cl,Cm,Cn,Co,Cp,Cq,Cr,Cs,Ct,Cu,Cv,Cw,Cx,Cy,Cz,Da⟩:=cf8_ Ac;obtain ⟨Db,Dc,Dd,De,Df,Dg,Dh,Di,Dj,Dk,Dl,Dm,Dn,Do,Dp,Dq⟩:=cf8_ Ad
    go_wp2
    go_ret
    exact ⟨er_q,bw_q HB⟩
  ·rw [if_neg c10] at H;have Ba:=bqf c10;have Bb:=bni c10;obtain rfl:=Option.some.inj H;have Hv:=Aa.out;have Hw:=Ab.out;obtain ⟨Dr,Ds,Dt,Du,Dv,Dw,Dx,Dy,Dz,Ea,Eb,Ec,Ed,Ee,Ef,Eg⟩:=cf8_ Ac;obtain ⟨Eh,Ei,Ej,Ek,El,Em,En,Eo,Ep,Eq,Er,Es,Et,Eu,Ev,Ew⟩:=cf8_ Ad
   go_wp2
   go_ret
   exact ⟨er_q,bw_q HB⟩
 ·rw [if_neg c9] at H;have Ag:=bqf c9;have Ah:=bni c9
  (first | rw [Ag] | rw [Ah] | (simp only [i64_w,i32_w];first | rw [Ag] | rw [Ah]) | skip)
  obtain rfl:=Option.some.inj H;have Hx:=Aa.out;have Hy:=Ab.out;obtain ⟨Ex,Ey,Ez,Fa,Fb,Fc,Fd,Fe,Ff,Fg,Fh,Fi,Fj,Fk,Fl,Fm⟩:=cf8_ Ac;obtain ⟨Fn,Fo,Fp,Fq,Fr,Fs,Ft,Fu,Fv,Fw,Fx,Fy,Fz,Ga,Gb,Gc⟩:=cf8_ Ad
  go_wp2
  go_ret
  exact ⟨er_q,bw_q HB⟩

/-! ### spec_l04Near: function 148 -/
def spec_l04Near.l0:Nat→Int→Int→Int→Int→Int→Int→List (S127)→Int→Bool→Option (Bool)
 | 0,_,_,_,_,_,_,_,_,_=> none
 | k+1,c,d,e,b,g,h,a,i,j=> if c<(a.length:Int) then (if 0≤c then ((spec_l01In.f ((rd_T127 a c).f0) 1 6).bind fun l=> (if l=true then (if ((rd_T127 a c).f0)=b then (some false) else ((spec_l01In.f ((rd_T127 a c).f1) 1 1000).bind fun m=> (if m=true then (if c > 0 then (if 0≤(wrap64 (c-1)) then (if (wrap64 (c-1))<(a.length:Int) then (if ((rd_T127 a (wrap64 (c-1))).f0)≥((rd_T127 a c).f0) then (some false) else (spec_l04Near.l0 k (wrap64 (c+1)) d e b g h a i j)) else (none)) else (none)) else (spec_l04Near.l0 k (wrap64 (c+1)) d e b g h a i j)) else (some false)))) else (some false))) else (none)) else (some true)
def spec_l04Near.f (k:Nat) (a:Int) (b:Int) (c:Int) (d:Int) (e:Int) (g:List (S127)) (h:Int) (i:Bool):Option (Bool):=spec_l04Near.l0 k 0 a b c d e g h i
theorem spec_l04Near.mono_l:∀k,(∀y0 y1 y2 y3 y4 y5 y6 y7 y8,LeO (spec_l04Near.l0 k y0 y1 y2 y3 y4 y5 y6 y7 y8) (spec_l04Near.l0 (k+1) y0 y1 y2 y3 y4 y5 y6 y7 y8))
 | 0=> fun _ _ _ _ _ _ _ _ _ r h=> by simp [spec_l04Near.l0] at h
 | k+1=> by
  have ih0:=spec_l04Near.mono_l k
  ·intro y0 y1 y2 y3 y4 y5 y6 y7 y8
   unfold spec_l04Near.l0
   with_reducible repeat' (first | apply ih0 | exact LeO.refl _ | exact LeO.none _ | refine LeO.ite ?_ ?_ | refine LeO.bind ?_ (fun _=> ?_))
theorem spec_l04Near.mono:∀a0 a1 a2 a3 a4 a5 a6 a7 k,LeO (spec_l04Near.f k a0 a1 a2 a3 a4 a5 a6 a7) (spec_l04Near.f (k+1) a0 a1 a2 a3 a4 a5 a6 a7):=by
 intro a0 a1 a2 a3 a4 a5 a6 a7 k
 have ih0:=spec_l04Near.mono_l k
 unfold spec_l04Near.f
 with_reducible repeat' (first | apply ih0 | exact LeO.refl _ | exact LeO.none _ | refine LeO.ite ?_ ?_ | refine LeO.bind ?_ (fun _=> ?_))
def spec_l04Near.T5:Bool×List (List Nat×List Nat):=(true,[([],[]),([0],[0]),([1],[1]),([2],[2]),([3,2],[3]),([4],[4]),([5,4],[4,5]),([4],[4]),([7,4],[4,7]),([6,8,4],[4,6,8]),([4,9],[4,9]),([10,4],[10]),([11],[11]),([12,11],[11,12]),([13,11,11],[11,13]),([14,11],[11,14]),([11,15],[11,15]),([16,14],[16]),([17],[17]),([18,17],[17,18]),([19,17,17],[17,19]),([20],[20]),([21,20],[20,21]),([20],[20]),([23,20],[20,23]),([22,24,20],[20,22,24]),([25,20],[20,25]),([26,20],[20,26]),([20],[20]),([28,20],[20,28]),([27,29,20],[20,27,29]),([20,30,17],[17,20,30]),([17,31],[17,31])])
def spec_l04Near.B5:List Nat:=[0,1,3,7,15,31,63,31,159,511,1023,2047,4095,8191,16383,32767,65535,131071,262143,524287,1048575,2097151,4194303,2097151,10485759,33554431,67108863,134217727,2097151,270532607,1073741823,2147483647,4294967295]
theorem spec_l04Near.tab5:rtab .any (opsOf Try.f148 5)=spec_l04Near.T5:=by kernel_rfl
theorem spec_l04Near.bits5:waitsOk spec_l04Near.T5.2 spec_l04Near.B5=true:=by kernel_rfl
set_option maxHeartbeats 8000000 in
set_option maxRecDepth 100000 in
theorem spec_l04Near.calls (k:Nat) (Ag:Int) (Ah:Int) (Af:Int) (Ai:Int) (Aj:Int) (Aw:Option Addr) (Ao:Nat) (Aa:List (S127)) (Ak:Int) (Al:Bool) (r:Bool) (w:World) (hr0_5:Kd.C k127 w Aw Aa.length Aa) (hc0_5:Aa.length≤Ao) (h:spec_l04Near.f k Ag Ah Af Ai Aj Aa Ak Al=some r):
  Calls Try.prog 148 #[.agg #[.int .i64 Ag,.int .i64 Ah,.int .i64 Af,.int .i64 Ai,.int .i64 Aj,.slice Aw Aa.length Ao,.int .i64 Ak,.bool Al]] w fun e w'=> e=.returned (.bool r)∧Below w.heap.size w w':=by
 have hu61:=Try.underlying61;have hu127:=Try.underlying127;have Ba:=ak hr0_5;have Cq:=ak hc0_5;clear hr0_5 hc0_5;have HB:=ak (Below.refl w.heap.size w);have H:=h
 clear h;unfold spec_l04Near.f at H;have H':=ak H;clear H
 go_enter Try.func148,Try.ntmps148
 go_wp2_with (first | ((with_reducible refine gate_dst (N:=1) rfl ?_);refine box_q 1 #[.int .i64 Ag,.int .i64 Ah,.int .i64 Af,.int .i64 Ai,.int .i64 Aj,.slice Aw Aa.length Ao,.int .i64 Ak,.bool Al] 61 ?_;intro Ax hg w2 hbox hb;have Ac:=ak (hbox);have Cr:=gs_ HB hg;replace HB:=hB_ HB hb;clear hb hbox hg))
 go_loopg [3] k (fun kq v3 w'=> ∃(Ab:Int),v3=.int .i64 Ab∧Aside0 (spec_l04Near.l0 kq Ab Ag Ah Af Ai Aj Aa Ak Al=some r)∧Aside0 (kq≤k)∧Aside0 (w'.heap[Ax]? =some (.cells #[.int .i64 Ag,.int .i64 Ah,.int .i64 Af,.int .i64 Ai,.int .i64 Aj,(.slice Aw Aa.length Ao),.int .i64 Ak,.bool Al] 61 (0,0)))∧Aside0 (Below w.heap.size w w'))
 case atStart=> exact ⟨(0),rs_q,H',⟨Nat.le_refl _⟩,⟨bk_q Ac⟩,⟨bw_q HB⟩⟩
 case round=>
  clear H';(try clear c1);(try clear p2);obtain ⟨Ab,rfl,HA,Bb,Ac,HB⟩:=hrel
  cases gk with
  | zero=> exact absurd HA.out (by simp [spec_l04Near.l0])
  | succ k1=>
   have H:=HA.out;clear HA
   simp only [spec_l04Near.l0] at H
   by_cases c3:Ab<(Aa.length:Int)
   ·rw [if_pos c3] at H;have Bf:=decide_eq_true c3;clear c3
    by_cases c4:0≤Ab
    ·rw [if_pos c4] at H;have Cx:=decide_eq_true c4
     clear c4;replace H:=bsi H;obtain ⟨Bc,A50,H⟩:=H
     (try dsimp only at H)
     have A5:=ak A50;clear A50;have HZ43:=ak H;clear H;obtain ⟨Ca,Cb,Cc,Cd,Ce,Cf,Cg,Ch,Ci,Cj,Ck,Cl,Cm,Cn,Co,Cp⟩:=cf8_ Ac
     have p246:0≤(Ab:Int):=of_decide_eq_true as_q
     have q246:Ab<(Aa.length:Int):=of_decide_eq_true as_q
     obtain ⟨Ar,e246,Au,Av⟩:=at_T127 Ba.out Ab p246 q246
     cases e246
     obtain ⟨Au,Av⟩:=hb2_ HB Au Av;replace p246:=eq_true p246;replace q246:=eq_true q246
     try go_wp2_with (first | ((with_reducible refine gate_dst (N:=4) rfl ?_);refine box_q 4 #[.int .i64 0,.int .i64 0] 127 ?_;intro Ad hg w9 hbox hb;have Ae:=ak (hbox);have Cs:=gs_ HB hg;replace HB:=hB_ HB hb;have Ay:=nb_ Ac hg;have Az:=nB_ Ac hg;replace Ac:=bb_ Ac hb;clear hb hbox hg;have Ct:=Az.out;have Cu:=Ay.out;obtain ⟨Bg,Bh,Bi,Bj⟩:=cf2_ Ae))
     have n0_:Aside0 (((w9.setCell ⟨Ad,0,none⟩ (.int .i64 ((rd_T127 Aa Ab).f0))).setCell ⟨Ad,1,none⟩ (.int .i64 ((rd_T127 Aa Ab).f1))).heap[Ax]? =some (.cells #[.int .i64 Ag,.int .i64 Ah,.int .i64 Af,.int .i64 Ai,.int .i64 Aj,.slice (some Ar) Aa.length Ao,.int .i64 Ak,.bool Al] 61 (0,0))):=⟨bp_ Ac⟩
     have n1_:Aside0 (((w9.setCell ⟨Ad,0,none⟩ (.int .i64 ((rd_T127 Aa Ab).f0))).setCell ⟨Ad,1,none⟩ (.int .i64 ((rd_T127 Aa Ab).f1))).heap[Ad]? =some (.cells #[.int .i64 ((rd_T127 Aa Ab).f0),.int .i64 ((rd_T127 Aa Ab).f1)] 127 (0,0))):=⟨bp_ Ae⟩
     have n2_:Aside0 (Below w.heap.size w ((w9.setCell ⟨Ad,0,none⟩ (.int .i64 ((rd_T127 Aa Ab).f0))).setCell ⟨Ad,1,none⟩ (.int .i64 ((rd_T127 Aa Ab).f1)))):=⟨bw_q HB⟩
     (try clear Ac);(try clear Ae);(try clear HB)
     generalize ((w9.setCell ⟨Ad,0,none⟩ (.int .i64 ((rd_T127 Aa Ab).f0))).setCell ⟨Ad,1,none⟩ (.int .i64 ((rd_T127 Aa Ab).f1)))=w12 at n0_ n1_ n2_ ⊢
     have Ac:=n0_;have Ae:=n1_;have HB:=n2_;clear n0_ n1_ n2_;replace Ac:=ak (blk_drew Ac.out);replace Ae:=ak (blk_drew Ae.out);replace HB:=ak (below_drew1 HB.out)
     refine start_ (n:=33) (S:=fun w'=> cl2 w' Ad (.int .i64 ((rd_T127 Aa Ab).f0)) (.int .i64 ((rd_T127 Aa Ab).f1))) (ds:=[]) (bL 33 0) (by kernel_rfl) rfl rfl (cz2_ Ae) (fun hHeld=> ?_);refine with_tabW spec_l04Near.tab5 spec_l04Near.bits5 (fun HT_ HW_=> ?_)
     generalize w12.drew=w13 at Ac Ae HB hHeld ⊢
     refine pQ_ 0 HT_ ?_
     refine take_ (i:=1) (N:=some 18) (v:=?_) (a':=?_) (bL 33 3) rfl rfl (take_ofW HT_.out HW_.out (by kernel_rfl)) (fun _ _ _ h=> h) (Or.inl ⟨by rfl,?_⟩) hHeld ?_ ?_;rotate_left;(rintro w' s0;go_simp;with_reducible rfl);rotate_left;(exact put_q)
     refine one_ (i:=2) (N:=some 19) (bL 33 7) rfl rfl (one_of HT_.out (by kernel_rfl)) (by decide) (fun K hK=> ?_)
     refine goes_ Try.func75 (by kernel_rfl) rfl #[.int .i64 ((rd_T127 Aa Ab).f0),.int .i64 1,.int .i64 6] (by rfl) rfl rfl mp_q ?_
     with_reducible refine (spec_l01In.calls ((rd_T127 Aa Ab).f0) 1 6 Bc _ A5.out).mono ?_
     rintro e w' ⟨rfl,⟨nd,rfl⟩⟩
     refine ⟨_,rfl,?_⟩
     refine hK.out _ _ (cz2_ Ae) (fun hHeld=> ?_)
     clear hK K
     refine norm_ (a':=?_) ?_ ?_;rotate_left;(show Act.put _ (some 19) _=_;simp only [Act.put,List.setIfInBounds_toArray,List.set_cons_zero,List.set_cons_succ,i64_w,i32_w];rfl)
     refine pQ_ 3 HT_ ?_
     refine pQ_ 4 HT_ ?_
     have H:=HZ43.out;clear HZ43
     by_cases c6:Bc=true
     ·subst c6;rw [if_pos rfl] at H;have HZ44:=ak H;clear H
      refine lw_ (fun w'=> cl8 w' Ax (.int .i64 Ag) (.int .i64 Ah) (.int .i64 Af) (.int .i64 Ai) (.int .i64 Aj) (.slice (some Ar) Aa.length Ao) (.int .i64 Ak) (.bool Al)) (cz8_ Ac) hHeld (fun hHeld=> ?_)
      refine pQ_ 5 HT_ ?_
      refine pQ_ 7 HT_ ?_
      refine take_ (i:=6) (N:=some 23) (v:=?_) (a':=?_) (bL 33 255) rfl rfl (take_ofW HT_.out HW_.out (by kernel_rfl)) (fun _ _ _ h=> h) (Or.inl ⟨by rfl,?_⟩) hHeld ?_ ?_;rotate_left;(rintro w' ⟨s0,s1⟩;go_simp;with_reducible rfl);rotate_left;(exact put_q)
      refine take_ (i:=8) (N:=some 25) (v:=?_) (a':=?_) (bL 33 511) rfl rfl (take_ofW HT_.out HW_.out (by kernel_rfl)) (fun _ _ _ h=> h) (Or.inl ⟨by rfl,?_⟩) hHeld ?_ ?_;rotate_left;(rintro w' ⟨s0,s1⟩;go_simp;with_reducible rfl);rotate_left;(exact put_q)
      refine pQ_ 9 HT_ ?_
      refine pQ_ 10 HT_ ?_
      refine pQ_ 11 HT_ ?_
      have H:=HZ44.out;clear HZ44
      by_cases c7:((rd_T127 Aa Ab).f0)=Af
      ·rw [if_pos c7] at H;have As:=bqi c7;have At:=bnf c7
       (first | rw [As] | rw [At] | (simp only [i64_w,i32_w];first | rw [As] | rw [At]) | skip)
       clear c7;obtain rfl:=Option.some.inj H
       refine pU_ 12 HT_ ?_
       refine pU_ 13 HT_ ?_
       refine pU_ 14 HT_ ?_
       refine pU_ 15 HT_ ?_
       refine pQ_ 16 HT_ ?_
       refine pQ_ 17 HT_ ?_
       refine pU_ 18 HT_ ?_
       refine pU_ 19 HT_ ?_
       refine pU_ 20 HT_ ?_
       refine pU_ 21 HT_ ?_
       refine pU_ 22 HT_ ?_
       refine pU_ 23 HT_ ?_
       refine pU_ 24 HT_ ?_
       refine pU_ 25 HT_ ?_
       refine pU_ 26 HT_ ?_
       refine pU_ 27 HT_ ?_
       refine pU_ 28 HT_ ?_
       refine pU_ 29 HT_ ?_
       refine pU_ 30 HT_ ?_
       refine pU_ 31 HT_ ?_
       refine pQ_ 32 HT_ ?_
       refine done_ (done_of HT_.out (by kernel_rfl)) ?_
       try go_wp2
       go_ret
       exact ⟨er_q,bw_q HB⟩
      ·rw [if_neg c7] at H;have As:=bqf c7;have At:=bni c7
       (first | rw [As] | rw [At] | (simp only [i64_w,i32_w];first | rw [As] | rw [At]) | skip)
       replace H:=bsi H;obtain ⟨Bd,A140,H⟩:=H
       (try dsimp only at H)
       have A14:=ak A140;clear A140;have HZ45:=ak H;clear H
       refine pQ_ 12 HT_ ?_
       refine take_ (i:=13) (N:=some 30) (v:=?_) (a':=?_) (bL 33 16383) rfl rfl (take_ofW HT_.out HW_.out (by kernel_rfl)) (fun _ _ _ h=> h) (Or.inl ⟨by rfl,?_⟩) hHeld ?_ ?_;rotate_left;(rintro w' ⟨s0,s1⟩;go_simp;with_reducible rfl);rotate_left;(exact put_q)
       refine one_ (i:=14) (N:=some 31) (bL 33 32767) rfl rfl (one_of HT_.out (by kernel_rfl)) (by decide) (fun K hK=> ?_)
       refine goes_ Try.func75 (by kernel_rfl) rfl #[.int .i64 ((rd_T127 Aa Ab).f1),.int .i64 1,.int .i64 1000] (by rfl) rfl rfl mp_q ?_
       with_reducible refine (spec_l01In.calls ((rd_T127 Aa Ab).f1) 1 1000 Bd _ A14.out).mono ?_
       rintro e w' ⟨rfl,⟨nd,rfl⟩⟩
       refine ⟨_,rfl,?_⟩
       refine hK.out _ _ ⟨cz8_ Ac,cz2_ Ae⟩ (fun hHeld=> ?_)
       clear hK K
       refine norm_ (a':=?_) ?_ ?_;rotate_left;(show Act.put _ (some 31) _=_;simp only [Act.put,List.setIfInBounds_toArray,List.set_cons_zero,List.set_cons_succ,i64_w,i32_w];rfl)
       refine pQ_ 15 HT_ ?_
       refine pQ_ 16 HT_ ?_
       refine pQ_ 17 HT_ ?_
       have H:=HZ45.out;clear HZ45
       by_cases c15:Bd=true
       ·subst c15;rw [if_pos rfl] at H;have HZ46:=ak H;clear H
        refine pQ_ 18 HT_ ?_
        refine pQ_ 19 HT_ ?_
        refine pQ_ 20 HT_ ?_
        have H:=HZ46.out;clear HZ46
        by_cases c16:Ab > 0
        ·rw [if_pos c16] at H;have Am:=decide_eq_true c16
         (first | rw [Am] | (simp only [i64_w,i32_w];first | rw [Am]) | skip)
         clear c16;obtain ⟨ji17,hji17⟩:∃j_:Int,(wrap64 (Ab-1))=j_:=⟨_,rfl⟩
         replace H:(if 0≤(ji17) then (if (ji17)<(Aa.length:Int) then (if ((rd_T127 Aa (ji17)).f0)≥((rd_T127 Aa Ab).f0) then (some false) else (spec_l04Near.l0 k1 (wrap64 (Ab+1)) Ag Ah Af Ai Aj Aa Ak Al)) else (none)) else (none))=some r:=by first | (rw [hji17] at H;exact H) | (simp only [hji17] at H ⊢;exact H)
         (try rw [hji17] at A5)
         (try rw [hji17] at A14)
         have hji17w:(IntKind.i64.wrap (Ab-1))=ji17:=(i64_w _).trans hji17
         by_cases c18:0≤(ji17)
         ·rw [if_pos c18] at H;have Cv:=decide_eq_true c18;clear c18
          by_cases c19:(ji17)<(Aa.length:Int)
          ·rw [if_pos c19] at H;have Cw:=decide_eq_true c19
           clear c19;have HZ47:=ak H;clear H
           have p250:0≤((ji17):Int):=of_decide_eq_true as_q
           have q250:(ji17)<(Aa.length:Int):=of_decide_eq_true as_q
           obtain ⟨Be,e250,Ap,Aq⟩:=at_T127 Ba.out (ji17) p250 q250;have hw250_1:=Aq;have hw250_0:=Ap
           obtain rfl:Ar=Be:=(by injection e250)
           obtain ⟨Ap,Aq⟩:=hb2_ HB Ap Aq;replace p250:=eq_true p250;replace q250:=eq_true q250
           refine lw_ (fun w'=> el2 w' (Ar.add (((ji17)).toNat*2)) (.int .i64 ((rd_T127 Aa (ji17)).f0)) (.int .i64 ((rd_T127 Aa (ji17)).f1))) (hb2_ HB hw250_0 hw250_1) hHeld (fun hHeld=> ?_)
           refine pQ_ 21 HT_ ?_
           refine pQ_ 23 HT_ ?_
           refine pQ_ 24 HT_ ?_
           refine pQ_ 28 HT_ ?_
           refine take_ (i:=22) (N:=some 39) (v:=?_) (a':=?_) (bL 33 301989887) rfl rfl (take_ofW HT_.out HW_.out (by kernel_rfl)) (fun _ _ _ h=> h) (Or.inl ⟨by rfl,?_⟩) hHeld ?_ ?_;rotate_left;(rintro w' ⟨s0,s1⟩;go_simp;with_reducible rfl);rotate_left;(exact put_q)
           refine pQ_ 25 HT_ ?_
           refine pQ_ 26 HT_ ?_
           refine take_ (i:=27) (N:=some 44) (v:=?_) (a':=?_) (bL 33 536870911) rfl rfl (take_ofW HT_.out HW_.out (by kernel_rfl)) (fun _ _ _ h=> h) (Or.inl ⟨by rfl,?_⟩) hHeld ?_ ?_;rotate_left;(rintro w' ⟨s0,s1⟩;go_simp;with_reducible rfl);rotate_left;(exact put_q)
           refine take_ (i:=29) (N:=some 46) (v:=?_) (a':=?_) (bL 33 1073741823) rfl rfl (take_ofW HT_.out HW_.out (by kernel_rfl)) (fun _ _ _ h=> h) (Or.inl ⟨by rfl,?_⟩) hHeld ?_ ?_;rotate_left;(rintro w' ⟨s0,s1⟩;go_simp;with_reducible rfl);rotate_left;(exact put_q)
           refine pQ_ 30 HT_ ?_
           refine pQ_ 31 HT_ ?_
           refine pQ_ 32 HT_ ?_
           have H:=HZ47.out;clear HZ47
           by_cases c20:((rd_T127 Aa (ji17)).f0)≥((rd_T127 Aa Ab).f0)
           ·rw [if_pos c20] at H;have An:=decide_eq_true c20
            (first | rw [An] | (simp only [i64_w,i32_w];first | rw [An]) | skip)
            clear c20;obtain rfl:=Option.some.inj H
            refine done_ (done_of HT_.out (by kernel_rfl)) ?_
            try go_wp2
            go_ret
            exact ⟨by first | rfl | (simp [errW_none,errW_some] <;> rfl) | (simp only [←hji17];first | rfl | (simp [errW_none,errW_some] <;> rfl)) | (simp [*,errW_none,errW_some] <;> rfl),bw_q HB⟩
           ·rw [if_neg c20] at H;have An:=decide_eq_false c20
            (first | rw [An] | (simp only [i64_w,i32_w];first | rw [An]) | skip)
            clear c20;have H':=ak H;clear H
            refine done_ (done_of HT_.out (by kernel_rfl)) ?_
            try go_wp2
            go_roundg k1
            case measure=> have:=Bb.out;omega
            case rel=> exact ⟨(wrap64 (Ab+1)),rs_q,H',⟨by have:=Bb.out;omega⟩,⟨bk_q Ac⟩,⟨bw_q HB⟩⟩
          ·rw [if_neg c19] at H
           exact absurd H (by simp)
         ·rw [if_neg c18] at H
          exact absurd H (by simp)
        ·rw [if_neg c16] at H;have Am:=decide_eq_false c16
         (first | rw [Am] | (simp only [i64_w,i32_w];first | rw [Am]) | skip)
         clear c16;have H':=ak H;clear H
         refine pU_ 21 HT_ ?_
         refine pU_ 22 HT_ ?_
         refine pU_ 23 HT_ ?_
         refine pU_ 24 HT_ ?_
         refine pU_ 25 HT_ ?_
         refine pU_ 26 HT_ ?_
         refine pU_ 27 HT_ ?_
         refine pU_ 28 HT_ ?_
         refine pU_ 29 HT_ ?_
         refine pU_ 30 HT_ ?_
         refine pQ_ 31 HT_ ?_
         refine pQ_ 32 HT_ ?_
         refine done_ (done_of HT_.out (by kernel_rfl)) ?_
         try go_wp2
         go_roundg k1
         case measure=> have:=Bb.out;omega
         case rel=> exact ⟨(wrap64 (Ab+1)),rs_q,H',⟨by have:=Bb.out;omega⟩,⟨bk_q Ac⟩,⟨bw_q HB⟩⟩
       ·replace c15:=Bool.eq_false_iff.mpr c15;subst c15
        rw [if_neg (show ¬(false=true) by decide)] at H
        obtain rfl:=Option.some.inj H
        refine pU_ 18 HT_ ?_
        refine pU_ 19 HT_ ?_
        refine pU_ 20 HT_ ?_
        refine pU_ 21 HT_ ?_
        refine pU_ 22 HT_ ?_
        refine pU_ 23 HT_ ?_
        refine pU_ 24 HT_ ?_
        refine pU_ 25 HT_ ?_
        refine pU_ 26 HT_ ?_
        refine pU_ 27 HT_ ?_
        refine pU_ 28 HT_ ?_
        refine pU_ 29 HT_ ?_
        refine pU_ 30 HT_ ?_
        refine pU_ 31 HT_ ?_
        refine pQ_ 32 HT_ ?_
        refine done_ (done_of HT_.out (by kernel_rfl)) ?_
        try go_wp2
        go_ret
        exact ⟨er_q,bw_q HB⟩
     ·replace c6:=Bool.eq_false_iff.mpr c6;subst c6
      rw [if_neg (show ¬(false=true) by decide)] at H
      obtain rfl:=Option.some.inj H
      refine pU_ 5 HT_ ?_
      refine pU_ 6 HT_ ?_
      refine pU_ 7 HT_ ?_
      refine pU_ 8 HT_ ?_
      refine pU_ 9 HT_ ?_
      refine pQ_ 10 HT_ ?_
      refine pQ_ 11 HT_ ?_
      refine pU_ 12 HT_ ?_
      refine pU_ 13 HT_ ?_
      refine pU_ 14 HT_ ?_
      refine pU_ 15 HT_ ?_
      refine pQ_ 16 HT_ ?_
      refine pQ_ 17 HT_ ?_
      refine pU_ 18 HT_ ?_
      refine pU_ 19 HT_ ?_
      refine pU_ 20 HT_ ?_
      refine pU_ 21 HT_ ?_
      refine pU_ 22 HT_ ?_
      refine pU_ 23 HT_ ?_
      refine pU_ 24 HT_ ?_
      refine pU_ 25 HT_ ?_
      refine pU_ 26 HT_ ?_
      refine pU_ 27 HT_ ?_
      refine pU_ 28 HT_ ?_
      refine pU_ 29 HT_ ?_
      refine pU_ 30 HT_ ?_
      refine pU_ 31 HT_ ?_
      refine pQ_ 32 HT_ ?_
      refine done_ (done_of HT_.out (by kernel_rfl)) ?_
      try go_wp2
      go_ret
      exact ⟨er_q,bw_q HB⟩
    ·rw [if_neg c4] at H
     exact absurd H (by simp)
   ·rw [if_neg c3] at H;have Bf:=decide_eq_false c3
    clear c3;obtain rfl:=Option.some.inj H;obtain ⟨Bk,Bl,Bm,Bn,Bo,Bp,Bq,Br,Bs,Bt,Bu,Bv,Bw,Bx,By,Bz⟩:=cf8_ Ac
    go_wp2
    go_ret
    exact ⟨er_q,bw_q HB⟩

end Go.Proofs.Ythjmdiggglkeaaa.Q
