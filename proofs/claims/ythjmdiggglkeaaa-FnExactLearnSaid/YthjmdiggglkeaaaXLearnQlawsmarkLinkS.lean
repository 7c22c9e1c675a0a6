import Derived.Test.YthjmdiggglkeaaaXLearnQlawsszRecordS
import Derived.Test.YthjmdiggglkeaaaXLearnQlawseqThing
/- The contract of a Go function. -/


namespace Go.Proofs.Ythjmdiggglkeaaa.Q
open Go.RowKit Go.Proofs.YthjmdiggglkeaaaW.PrintWords Go.Proofs.YthjmdiggglkeaaaW.PrintLast Go.Proofs.YthjmdiggglkeaaaW.PrintMore
attribute [local go_sem] max2_int min2_int max_two min_two max_three min_three max_four min_four   -- for this text's walks alone
set_option linter.unusedVariables false
set_option linter.unusedSimpArgs false

/-! ### laws_eqThingS: function 85 -/
def laws_eqThingS.l0:Nat→List (S102)→List (S102)→Int→Option (Bool)
 | 0,_,_,_=> none
 | k+1,b,c,a=> if a<(b.length:Int) then (if 0≤a then (if a<(c.length:Int) then ((laws_eqThing.f ((rd_T102 b a).f0) ((rd_T102 b a).f1) ((rd_T102 b a).f2) ((rd_T102 b a).f3) ((rd_T102 c a).f0) ((rd_T102 c a).f1) ((rd_T102 c a).f2) ((rd_T102 c a).f3)).bind fun d=> (if d=true then (laws_eqThingS.l0 k b c (wrap64 (a+1))) else (some false))) else (none)) else (none)) else (some true)
def laws_eqThingS.f (k:Nat) (l0:List (S102)) (l1:List (S102)):Option (Bool):=if (l0.length:Int)=(l1.length:Int) then (laws_eqThingS.l0 k l0 l1 0) else (some false)
theorem laws_eqThingS.mono_l:∀k,(∀y0 y1 y2,LeO (laws_eqThingS.l0 k y0 y1 y2) (laws_eqThingS.l0 (k+1) y0 y1 y2))
 | 0=> fun _ _ _ r h=> by simp [laws_eqThingS.l0] at h
 | k+1=> by
  have ih0:=laws_eqThingS.mono_l k
  ·intro y0 y1 y2
   unfold laws_eqThingS.l0
   with_reducible repeat' (first | apply ih0 | exact LeO.refl _ | exact LeO.none _ | refine LeO.ite ?_ ?_ | refine LeO.bind ?_ (fun _=> ?_))
theorem laws_eqThingS.mono:∀a0 a1 k,LeO (laws_eqThingS.f k a0 a1) (laws_eqThingS.f (k+1) a0 a1):=by
 intro a0 a1 k
 have ih0:=laws_eqThingS.mono_l k
 unfold laws_eqThingS.f
 with_reducible repeat' (first | apply ih0 | exact LeO.refl _ | exact LeO.none _ | refine LeO.ite ?_ ?_ | refine LeO.bind ?_ (fun _=> ?_))
def laws_eqThingS.T6:Bool×List (List Nat×List Nat):=(true,[([],[]),([],[]),([0,1],[0,1]),([2],[2]),([],[]),([],[]),([4,5],[4,5]),([6],[6]),([3,7],[3,7]),([8],[8])])
def laws_eqThingS.B6:List Nat:=[0,0,3,7,0,0,48,112,255,511]
theorem laws_eqThingS.tab6:rtab .any (opsOf Try.f85 6)=laws_eqThingS.T6:=by kernel_rfl
theorem laws_eqThingS.bits6:waitsOk laws_eqThingS.T6.2 laws_eqThingS.B6=true:=by kernel_rfl
set_option maxHeartbeats 8000000 in
set_option maxRecDepth 100000 in
theorem laws_eqThingS.calls (k:Nat) (A0:Option Addr) (c0:Nat) (l0:List (S102)) (A1:Option Addr) (c1:Nat) (l1:List (S102)) (r:Bool) (w:World) (hr0:Kd.C k102 w A0 l0.length l0) (hc0:l0.length≤c0) (hr1:Kd.C k102 w A1 l1.length l1) (hc1:l1.length≤c1) (h:laws_eqThingS.f k l0 l1=some r):
  Calls Try.prog 85 #[.slice A0 l0.length c0,.slice A1 l1.length c1] w fun e w'=> e=.returned (.bool r)∧Below w.heap.size w w':=by
 have hu102:=Try.underlying102;have HR0:=ak hr0;have At:=ak hc0;clear hr0 hc0;have HR1:=ak hr1;have Au:=ak hc1;clear hr1 hc1;have HB:=ak (Below.refl w.heap.size w);have H:=h
 clear h;unfold laws_eqThingS.f at H
 by_cases c3:(l0.length:Int)=(l1.length:Int)
 ·rw [if_pos c3] at H;have Aj:=bqi c3;have Ak:=bnf c3
  have Al:(l0.length==l1.length)=true:=by first | simpa using c3 | (simp at c3 ⊢;omega)
  clear c3;have H':=ak H;clear H
  go_enter Try.func85,Try.ntmps85
  go_wp2
  go_loopg [5] k (fun kq v5 w'=> ∃(Aa:Int),v5=.int .i64 Aa∧Aside0 (laws_eqThingS.l0 kq l0 l1 Aa=some r)∧Aside0 (kq≤k)∧Aside0 (Below w.heap.size w w'))
  case atStart=> exact ⟨(0),rs_q,H',⟨Nat.le_refl _⟩,⟨bw_q HB⟩⟩
  case round=>
   clear H';(try clear c1);(try clear p2);(try clear c3);(try clear Aj);(try clear Ak);(try clear Al);obtain ⟨Aa,rfl,HA,Ap,HB⟩:=hrel
   cases gk with
   | zero=> exact absurd HA.out (by simp [laws_eqThingS.l0])
   | succ k1=>
    have H:=HA.out;clear HA
    simp only [laws_eqThingS.l0] at H
    by_cases c4:Aa<(l0.length:Int)
    ·rw [if_pos c4] at H;have Aq:=decide_eq_true c4;clear c4
     by_cases c5:0≤Aa
     ·rw [if_pos c5] at H;have Ar:=decide_eq_true c5;clear c5
      by_cases c6:Aa<(l1.length:Int)
      ·rw [if_pos c6] at H;have As:=decide_eq_true c6
       clear c6;replace H:=bsi H;obtain ⟨Am,A70,H⟩:=H
       (try dsimp only at H)
       have A7:=ak A70;clear A70;have HZ22:=ak H;clear H
       try go_wp2
       replace HB:=ak (below_drew1 HB.out)
       have p191:0≤(Aa:Int):=of_decide_eq_true as_q
       have q191:Aa<(l0.length:Int):=of_decide_eq_true as_q
       obtain ⟨An,e191,Ab,Ac,Ad,Ae⟩:=at_T102 HR0.out Aa p191 q191;have hw191_3:=Ae;have hw191_2:=Ad;have hw191_1:=Ac;have hw191_0:=Ab
       cases e191
       obtain ⟨Ab,Ac,Ad,Ae⟩:=hb4_ HB Ab Ac Ad Ae;replace p191:=eq_true p191;replace q191:=eq_true q191
       have p192:0≤(Aa:Int):=of_decide_eq_true as_q
       have q192:Aa<(l1.length:Int):=of_decide_eq_true as_q
       obtain ⟨Ao,e192,Af,Ag,Ah,Ai⟩:=at_T102 HR1.out Aa p192 q192;have hw192_3:=Ai;have hw192_2:=Ah;have hw192_1:=Ag;have hw192_0:=Af
       cases e192
       obtain ⟨Af,Ag,Ah,Ai⟩:=hb4_ HB Af Ag Ah Ai;replace p192:=eq_true p192;replace q192:=eq_true q192
       refine start_ (n:=10) (S:=fun w'=> el4 w' (An.add ((Aa).toNat*4)) (.int .i64 ((rd_T102 l0 Aa).f0)) (.int .i64 ((rd_T102 l0 Aa).f1)) (.int .i64 ((rd_T102 l0 Aa).f2)) (.bool ((rd_T102 l0 Aa).f3))∧el4 w' (Ao.add ((Aa).toNat*4)) (.int .i64 ((rd_T102 l1 Aa).f0)) (.int .i64 ((rd_T102 l1 Aa).f1)) (.int .i64 ((rd_T102 l1 Aa).f2)) (.bool ((rd_T102 l1 Aa).f3))) (ds:=[]) (bL 10 0) (by kernel_rfl) rfl rfl ⟨hb4_ HB hw191_0 hw191_1 hw191_2 hw191_3,hb4_ HB hw192_0 hw192_1 hw192_2 hw192_3⟩ (fun hHeld=> ?_);refine with_tabW laws_eqThingS.tab6 laws_eqThingS.bits6 (fun HT_ HW_=> ?_)
       generalize wr.drew=w9 at HB Ab Ac Ad Ae Af Ag Ah Ai hHeld ⊢
       refine pQ_ 0 HT_ ?_
       refine pQ_ 1 HT_ ?_
       refine pQ_ 2 HT_ ?_
       refine pQ_ 4 HT_ ?_
       refine pQ_ 5 HT_ ?_
       refine pQ_ 6 HT_ ?_
       refine take_ (i:=3) (N:=some 20) (v:=?_) (a':=?_) (bL 10 127) rfl rfl (take_ofW HT_.out HW_.out (by kernel_rfl)) (fun _ _ _ h=> h) (Or.inl ⟨by rfl,?_⟩) hHeld ?_ ?_;rotate_left;(rintro w' ⟨s0,s1⟩;go_simp;with_reducible rfl);rotate_left;(exact put_q)
       refine take_ (i:=7) (N:=some 24) (v:=?_) (a':=?_) (bL 10 255) rfl rfl (take_ofW HT_.out HW_.out (by kernel_rfl)) (fun _ _ _ h=> h) (Or.inl ⟨by rfl,?_⟩) hHeld ?_ ?_;rotate_left;(rintro w' ⟨s0,s1⟩;go_simp;with_reducible rfl);rotate_left;(exact put_q)
       refine one_ (i:=8) (N:=some 25) (bL 10 511) rfl rfl (one_of HT_.out (by kernel_rfl)) (by decide) (fun K hK=> ?_)
       refine goes_ Try.func129 (by kernel_rfl) rfl #[.agg #[.int .i64 ((rd_T102 l0 Aa).f0),.int .i64 ((rd_T102 l0 Aa).f1),.int .i64 ((rd_T102 l0 Aa).f2),.bool ((rd_T102 l0 Aa).f3)],.agg #[.int .i64 ((rd_T102 l1 Aa).f0),.int .i64 ((rd_T102 l1 Aa).f1),.int .i64 ((rd_T102 l1 Aa).f2),.bool ((rd_T102 l1 Aa).f3)]] (by rfl) rfl rfl mp_q ?_
       with_reducible refine (laws_eqThing.calls ((rd_T102 l0 Aa).f0) ((rd_T102 l0 Aa).f1) ((rd_T102 l0 Aa).f2) ((rd_T102 l0 Aa).f3) ((rd_T102 l1 Aa).f0) ((rd_T102 l1 Aa).f1) ((rd_T102 l1 Aa).f2) ((rd_T102 l1 Aa).f3) Am _ A7.out).mono ?_
       rintro e w10 ⟨rfl,hb⟩
       refine ⟨_,rfl,?_⟩
       replace HB:=hB_ HB hb
       refine hK.out _ _ ⟨hb4_ HB hw191_0 hw191_1 hw191_2 hw191_3,hb4_ HB hw192_0 hw192_1 hw192_2 hw192_3⟩ (fun hHeld=> ?_)
       clear hK K
       refine norm_ (a':=?_) ?_ ?_;rotate_left;(show Act.put _ (some 25) _=_;simp only [Act.put,List.setIfInBounds_toArray,List.set_cons_zero,List.set_cons_succ,i64_w,i32_w];rfl)
       refine pQ_ 9 HT_ ?_
       have H:=HZ22.out;clear HZ22
       by_cases c8:Am=true
       ·subst c8;rw [if_pos rfl] at H;have H':=ak H;clear H
        refine done_ (done_of HT_.out (by kernel_rfl)) ?_
        try go_wp2
        go_roundg k1
        case measure=> have:=Ap.out;omega
        case rel=> exact ⟨(wrap64 (Aa+1)),rs_q,H',⟨by have:=Ap.out;omega⟩,⟨bw_q HB⟩⟩
       ·replace c8:=Bool.eq_false_iff.mpr c8;subst c8
        rw [if_neg (show ¬(false=true) by decide)] at H
        obtain rfl:=Option.some.inj H
        refine done_ (done_of HT_.out (by kernel_rfl)) ?_
        try go_wp2
        go_ret
        exact ⟨er_q,bw_q HB⟩
      ·rw [if_neg c6] at H
       exact absurd H (by simp)
     ·rw [if_neg c5] at H
      exact absurd H (by simp)
    ·rw [if_neg c4] at H;have Aq:=decide_eq_false c4
     clear c4;obtain rfl:=Option.some.inj H
     go_wp2
     go_ret
     exact ⟨er_q,bw_q HB⟩
 ·rw [if_neg c3] at H;have Aj:=bqf c3;have Ak:=bni c3
  have Al:(l0.length==l1.length)=false:=by first | simpa using c3 | (simp at c3 ⊢;omega)
  obtain rfl:=Option.some.inj H
  go_enter Try.func85,Try.ntmps85
  go_wp2
  go_ret
  exact ⟨er_q,bw_q HB⟩

/-! ### laws_eqNet: function 19 -/
def laws_eqNet.f (k:Nat) (a:Int) (b:List (S93)) (c:List (S102)) (d:Int) (e:List (S93)) (g:List (S102)):Option (Bool):=if a=d then ((laws_eqLinkS.f k b e).bind fun h=> (if h=true then ((laws_eqThingS.f k c g).bind fun i=> (if i=true then (some true) else (some false))) else (some false))) else (some false)
theorem laws_eqNet.mono:∀a0 a1 a2 a3 a4 a5 k,LeO (laws_eqNet.f k a0 a1 a2 a3 a4 a5) (laws_eqNet.f (k+1) a0 a1 a2 a3 a4 a5):=by
 intro a0 a1 a2 a3 a4 a5 k
 unfold laws_eqNet.f
 with_reducible repeat' (first | apply laws_eqLinkS.mono | apply laws_eqThingS.mono | exact LeO.refl _ | exact LeO.none _ | refine LeO.ite ?_ ?_ | refine LeO.bind ?_ (fun _=> ?_))
set_option maxHeartbeats 8000000 in
set_option maxRecDepth 100000 in
theorem laws_eqNet.calls (k:Nat) (Ak:Int) (Al:Option Addr) (Am:Nat) (Ac:List (S93)) (An:Option Addr) (Ao:Nat) (Ad:List (S102)) (Ap:Int) (Aq:Option Addr) (Ar:Nat) (Ae:List (S93)) (As:Option Addr) (At:Nat) (Af:List (S102)) (r:Bool) (w:World) (hr0_1:Kd.C k93 w Al Ac.length Ac) (hc0_1:Ac.length≤Am) (hr0_2:Kd.C k102 w An Ad.length Ad) (hc0_2:Ad.length≤Ao) (hr1_1:Kd.C k93 w Aq Ae.length Ae) (hc1_1:Ae.length≤Ar) (hr1_2:Kd.C k102 w As Af.length Af) (hc1_2:Af.length≤At) (h:laws_eqNet.f k Ak Ac Ad Ap Ae Af=some r):
  Calls Try.prog 19 #[.agg #[.int .i64 Ak,.slice Al Ac.length Am,.slice An Ad.length Ao],.agg #[.int .i64 Ap,.slice Aq Ae.length Ar,.slice As Af.length At]] w fun e w'=> e=.returned (.bool r)∧Below w.heap.size w w':=by
 have hu31:=Try.underlying31;have Ay:=ak hr0_1;have Az:=ak hc0_1;clear hr0_1 hc0_1;have Ba:=ak hr0_2;have Bb:=ak hc0_2;clear hr0_2 hc0_2;have Bc:=ak hr1_1;have Bd:=ak hc1_1;clear hr1_1 hc1_1;have Be:=ak hr1_2;have Bf:=ak hc1_2;clear hr1_2 hc1_2;have HB:=ak (Below.refl w.heap.size w);have H:=h
 clear h;unfold laws_eqNet.f at H;have Bg:=ak H;clear H
 go_enter Try.func19,Try.ntmps19
 go_upto_if 9 with (first | ((with_reducible refine gate_dst (N:=2) rfl ?_);refine box_q 2 #[.int .i64 Ak,.slice Al Ac.length Am,.slice An Ad.length Ao] 31 ?_;intro Cr hg w4 hbox hb;have Aa:=ak (hbox);have Cs:=gs_ HB hg;replace HB:=hB_ HB hb;clear hb hbox hg) | ((with_reducible refine gate_dst (N:=3) rfl ?_);refine box_q 3 #[.int .i64 Ap,.slice Aq Ae.length Ar,.slice As Af.length At] 31 ?_;intro Ct hg w5 hbox hb;have Ab:=ak (hbox);have Cu:=gs_ HB hg;replace HB:=hB_ HB hb;have Ag:=nb_ Aa hg;have Ah:=nB_ Aa hg;replace Aa:=bb_ Aa hb;clear hb hbox hg;have Cz:=Ag.out;have Da:=Ah.out;obtain ⟨Cf,Cg,Ch,Ci,Cj,Ck⟩:=cf3_ Aa;obtain ⟨Cl,Cm,Cn,Co,Cp,Cq⟩:=cf3_ Ab))
 have H:=Bg.out;clear Bg
 by_cases c9:Ak=Ap
 ·rw [if_pos c9] at H;have Ai:=bqi c9;have Aj:=bnf c9;clear c9
  (first | rw [Ai] | rw [Aj] | (simp only [i64_w,i32_w];first | rw [Ai] | rw [Aj]) | skip)
  replace H:=bsi H;obtain ⟨Au,A100,H⟩:=H
  (try dsimp only at H)
  have A10:=ak A100;clear A100;have Av:=ak H;clear H;have Cv:=Ag.out;have Cw:=Ah.out;obtain ⟨Bh,Bi,Bj,Bk,Bl,Bm⟩:=cf3_ Aa;obtain ⟨Bn,Bo,Bp,Bq,Br,Bs⟩:=cf3_ Ab
  go_upto_if 15 with (first | ((with_reducible refine gC_ 84 ?_);refine gL_ 14 Try.func84 #[.slice Al Ac.length Am,.slice Aq Ae.length Ar] ?_;(with_reducible refine (laws_eqLinkS.calls k _ _ Ac _ _ Ae Au _ ?_ ?_ ?_ ?_ A10.out).mono ?_);exact ch_ Ay HB;exact Az.out;exact ch_ Bc HB;exact Bd.out;rintro e w15 ⟨rfl,hb⟩;refine ⟨_,rfl,?_⟩;replace Aa:=bb_ Aa hb;replace Ab:=bb_ Ab hb;replace HB:=hB_ HB hb))
  have H:=Av.out;clear Av
  by_cases c16:Au=true
  ·subst c16;rw [if_pos rfl] at H;replace H:=bsi H;obtain ⟨Aw,A170,H⟩:=H
   (try dsimp only at H)
   have A17:=ak A170;clear A170;have Ax:=ak H;clear H;have Cx:=Ag.out;have Cy:=Ah.out;obtain ⟨Bt,Bu,Bv,Bw,Bx,By⟩:=cf3_ Aa;obtain ⟨Bz,Ca,Cb,Cc,Cd,Ce⟩:=cf3_ Ab
   go_upto_if 21 with (first | ((with_reducible refine gC_ 85 ?_);refine gL_ 20 Try.func85 #[.slice An Ad.length Ao,.slice As Af.length At] ?_;(with_reducible refine (laws_eqThingS.calls k _ _ Ad _ _ Af Aw _ ?_ ?_ ?_ ?_ A17.out).mono ?_);exact ch_ Ba HB;exact Bb.out;exact ch_ Be HB;exact Bf.out;rintro e w22 ⟨rfl,hb⟩;refine ⟨_,rfl,?_⟩;replace Aa:=bb_ Aa hb;replace Ab:=bb_ Ab hb;replace HB:=hB_ HB hb))
   have H:=Ax.out;clear Ax
   by_cases c23:Aw=true
   ·subst c23;rw [if_pos rfl] at H;obtain rfl:=Option.some.inj H
    go_wp2
    go_ret
    exact ⟨er_q,bw_q HB⟩
   ·replace c23:=Bool.eq_false_iff.mpr c23;subst c23
    rw [if_neg (show ¬(false=true) by decide)] at H
    obtain rfl:=Option.some.inj H
    go_wp2
    go_ret
    exact ⟨er_q,bw_q HB⟩
  ·replace c16:=Bool.eq_false_iff.mpr c16;subst c16
   rw [if_neg (show ¬(false=true) by decide)] at H
   obtain rfl:=Option.some.inj H
   go_wp2
   go_ret
   exact ⟨er_q,bw_q HB⟩
 ·rw [if_neg c9] at H;have Ai:=bqf c9;have Aj:=bni c9
  (first | rw [Ai] | rw [Aj] | (simp only [i64_w,i32_w];first | rw [Ai] | rw [Aj]) | skip)
  obtain rfl:=Option.some.inj H
  go_wp2
  go_ret
  exact ⟨er_q,bw_q HB⟩

/-! ### laws_eqNear: function 141 -/
def laws_eqNear.f (a:Int) (b:Int) (c:Int) (d:Int):Option (Bool):=if a=c then (if b=d then (some true) else (some false)) else (some false)
set_option maxHeartbeats 8000000 in
set_option maxRecDepth 100000 in
theorem laws_eqNear.calls (Af:Int) (Ag:Int) (Ah:Int) (Ai:Int) (r:Bool) (w:World) (h:laws_eqNear.f Af Ag Ah Ai=some r):
  Calls Try.prog 141 #[.agg #[.int .i64 Af,.int .i64 Ag],.agg #[.int .i64 Ah,.int .i64 Ai]] w fun e w'=> e=.returned (.bool r)∧Below w.heap.size w w':=by
 have hu127:=Try.underlying127;have HB:=ak (Below.refl w.heap.size w);have H:=h
 clear h;unfold laws_eqNear.f at H;have Am:=ak H;clear H
 go_enter Try.func141,Try.ntmps141
 go_upto_if 9 with (first | ((with_reducible refine gate_dst (N:=2) rfl ?_);refine box_q 2 #[.int .i64 Af,.int .i64 Ag] 127 ?_;intro Bl hg w4 hbox hb;have Aa:=ak (hbox);have Bm:=gs_ HB hg;replace HB:=hB_ HB hb;clear hb hbox hg) | ((with_reducible refine gate_dst (N:=3) rfl ?_);refine box_q 3 #[.int .i64 Ah,.int .i64 Ai] 127 ?_;intro Bn hg w5 hbox hb;have Aj:=ak (hbox);have Bo:=gs_ HB hg;replace HB:=hB_ HB hb;have Ab:=nb_ Aa hg;have Ac:=nB_ Aa hg;replace Aa:=bb_ Aa hb;clear hb hbox hg;have Bt:=Ab.out;have Bu:=Ac.out;obtain ⟨Bd,Be,Bf,Bg⟩:=cf2_ Aa;obtain ⟨Bh,Bi,Bj,Bk⟩:=cf2_ Aj))
 have H:=Am.out;clear Am
 by_cases c9:Af=Ah
 ·rw [if_pos c9] at H;have Ad:=bqi c9;have Ae:=bnf c9;clear c9
  (first | rw [Ad] | rw [Ae] | (simp only [i64_w,i32_w];first | rw [Ad] | rw [Ae]) | skip)
  by_cases c10:Ag=Ai
  ·rw [if_pos c10] at H;have Ak:=bqi c10;have Al:=bnf c10
   clear c10;obtain rfl:=Option.some.inj H;have Bp:=Ab.out;have Bq:=Ac.out;obtain ⟨An,Ao,Ap,Aq⟩:=cf2_ Aa;obtain ⟨Ar,As,At,Au⟩:=cf2_ Aj
   go_wp2
   go_ret
   exact ⟨er_q,bw_q HB⟩
  ·rw [if_neg c10] at H;have Ak:=bqf c10;have Al:=bni c10;obtain rfl:=Option.some.inj H;have Br:=Ab.out;have Bs:=Ac.out;obtain ⟨Av,Aw,Ax,Ay⟩:=cf2_ Aa;obtain ⟨Az,Ba,Bb,Bc⟩:=cf2_ Aj
   go_wp2
   go_ret
   exact ⟨er_q,bw_q HB⟩
 ·rw [if_neg c9] at H;have Ad:=bqf c9;have Ae:=bni c9
  (first | rw [Ad] | rw [Ae] | (simp only [i64_w,i32_w];first | rw [Ad] | rw [Ae]) | skip)
  obtain rfl:=Option.some.inj H
  go_wp2
  go_ret
  exact ⟨er_q,bw_q HB⟩

/-! ### laws_eqNearS: function 109 -/
def laws_eqNearS.l0:Nat→List (S127)→List (S127)→Int→Option (Bool)
 | 0,_,_,_=> none
 | k+1,b,c,a=> if a<(b.length:Int) then (if 0≤a then (if a<(c.length:Int) then ((laws_eqNear.f ((rd_T127 b a).f0) ((rd_T127 b a).f1) ((rd_T127 c a).f0) ((rd_T127 c a).f1)).bind fun d=> (if d=true then (laws_eqNearS.l0 k b c (wrap64 (a+1))) else (some false))) else (none)) else (none)) else (some true)
def laws_eqNearS.f (k:Nat) (l0:List (S127)) (l1:List (S127)):Option (Bool):=if (l0.length:Int)=(l1.length:Int) then (laws_eqNearS.l0 k l0 l1 0) else (some false)
theorem laws_eqNearS.mono_l:∀k,(∀y0 y1 y2,LeO (laws_eqNearS.l0 k y0 y1 y2) (laws_eqNearS.l0 (k+1) y0 y1 y2))
 | 0=> fun _ _ _ r h=> by simp [laws_eqNearS.l0] at h
 | k+1=> by
  have ih0:=laws_eqNearS.mono_l k
  ·intro y0 y1 y2
   unfold laws_eqNearS.l0
   with_reducible repeat' (first | apply ih0 | exact LeO.refl _ | exact LeO.none _ | refine LeO.ite ?_ ?_ | refine LeO.bind ?_ (fun _=> ?_))
theorem laws_eqNearS.mono:∀a0 a1 k,LeO (laws_eqNearS.f k a0 a1) (laws_eqNearS.f (k+1) a0 a1):=by
 intro a0 a1 k
 have ih0:=laws_eqNearS.mono_l k
 unfold laws_eqNearS.f
 with_reducible repeat' (first | apply ih0 | exact LeO.refl _ | exact LeO.none _ | refine LeO.ite ?_ ?_ | refine LeO.bind ?_ (fun _=> ?_))
def laws_eqNearS.T6:Bool×List (List Nat×List Nat):=(true,[([],[]),([],[]),([0,1],[0,1]),([2],[2]),([],[]),([],[]),([4,5],[4,5]),([6],[6]),([3,7],[3,7]),([8],[8])])
def laws_eqNearS.B6:List Nat:=[0,0,3,7,0,0,48,112,255,511]
theorem laws_eqNearS.tab6:rtab .any (opsOf Try.f109 6)=laws_eqNearS.T6:=by kernel_rfl
theorem laws_eqNearS.bits6:waitsOk laws_eqNearS.T6.2 laws_eqNearS.B6=true:=by kernel_rfl
set_option maxHeartbeats 8000000 in
set_option maxRecDepth 100000 in
theorem laws_eqNearS.calls (k:Nat) (A0:Option Addr) (c0:Nat) (l0:List (S127)) (A1:Option Addr) (c1:Nat) (l1:List (S127)) (r:Bool) (w:World) (hr0:Kd.C k127 w A0 l0.length l0) (hc0:l0.length≤c0) (hr1:Kd.C k127 w A1 l1.length l1) (hc1:l1.length≤c1) (h:laws_eqNearS.f k l0 l1=some r):
  Calls Try.prog 109 #[.slice A0 l0.length c0,.slice A1 l1.length c1] w fun e w'=> e=.returned (.bool r)∧Below w.heap.size w w':=by
 have hu127:=Try.underlying127;have HR0:=ak hr0;have Ap:=ak hc0;clear hr0 hc0;have HR1:=ak hr1;have Aq:=ak hc1;clear hr1 hc1;have HB:=ak (Below.refl w.heap.size w);have H:=h
 clear h;unfold laws_eqNearS.f at H
 by_cases c3:(l0.length:Int)=(l1.length:Int)
 ·rw [if_pos c3] at H;have Af:=bqi c3;have Ag:=bnf c3
  have Ah:(l0.length==l1.length)=true:=by first | simpa using c3 | (simp at c3 ⊢;omega)
  clear c3;have H':=ak H;clear H
  go_enter Try.func109,Try.ntmps109
  go_wp2
  go_loopg [5] k (fun kq v5 w'=> ∃(Aa:Int),v5=.int .i64 Aa∧Aside0 (laws_eqNearS.l0 kq l0 l1 Aa=some r)∧Aside0 (kq≤k)∧Aside0 (Below w.heap.size w w'))
  case atStart=> exact ⟨(0),rs_q,H',⟨Nat.le_refl _⟩,⟨bw_q HB⟩⟩
  case round=>
   clear H';(try clear c1);(try clear p2);(try clear c3);(try clear Af);(try clear Ag);(try clear Ah);obtain ⟨Aa,rfl,HA,Al,HB⟩:=hrel
   cases gk with
   | zero=> exact absurd HA.out (by simp [laws_eqNearS.l0])
   | succ k1=>
    have H:=HA.out;clear HA
    simp only [laws_eqNearS.l0] at H
    by_cases c4:Aa<(l0.length:Int)
    ·rw [if_pos c4] at H;have Am:=decide_eq_true c4;clear c4
     by_cases c5:0≤Aa
     ·rw [if_pos c5] at H;have An:=decide_eq_true c5;clear c5
      by_cases c6:Aa<(l1.length:Int)
      ·rw [if_pos c6] at H;have Ao:=decide_eq_true c6
       clear c6;replace H:=bsi H;obtain ⟨Ai,A70,H⟩:=H
       (try dsimp only at H)
       have A7:=ak A70;clear A70;have HZ20:=ak H;clear H
       try go_wp2
       replace HB:=ak (below_drew1 HB.out)
       have p364:0≤(Aa:Int):=of_decide_eq_true as_q
       have q364:Aa<(l0.length:Int):=of_decide_eq_true as_q
       obtain ⟨Aj,e364,Ab,Ac⟩:=at_T127 HR0.out Aa p364 q364;have hw364_1:=Ac;have hw364_0:=Ab
       cases e364
       obtain ⟨Ab,Ac⟩:=hb2_ HB Ab Ac;replace p364:=eq_true p364;replace q364:=eq_true q364
       have p365:0≤(Aa:Int):=of_decide_eq_true as_q
       have q365:Aa<(l1.length:Int):=of_decide_eq_true as_q
       obtain ⟨Ak,e365,Ad,Ae⟩:=at_T127 HR1.out Aa p365 q365;have hw365_1:=Ae;have hw365_0:=Ad
       cases e365
       obtain ⟨Ad,Ae⟩:=hb2_ HB Ad Ae;replace p365:=eq_true p365;replace q365:=eq_true q365
       refine start_ (n:=10) (S:=fun w'=> el2 w' (Aj.add ((Aa).toNat*2)) (.int .i64 ((rd_T127 l0 Aa).f0)) (.int .i64 ((rd_T127 l0 Aa).f1))∧el2 w' (Ak.add ((Aa).toNat*2)) (.int .i64 ((rd_T127 l1 Aa).f0)) (.int .i64 ((rd_T127 l1 Aa).f1))) (ds:=[]) (bL 10 0) (by kernel_rfl) rfl rfl ⟨hb2_ HB hw364_0 hw364_1,hb2_ HB hw365_0 hw365_1⟩ (fun hHeld=> ?_);refine with_tabW laws_eqNearS.tab6 laws_eqNearS.bits6 (fun HT_ HW_=> ?_)
       generalize wr.drew=w9 at HB Ab Ac Ad Ae hHeld ⊢
       refine pQ_ 0 HT_ ?_
       refine pQ_ 1 HT_ ?_
       refine pQ_ 2 HT_ ?_
       refine pQ_ 4 HT_ ?_
       refine pQ_ 5 HT_ ?_
       refine pQ_ 6 HT_ ?_
       refine take_ (i:=3) (N:=some 20) (v:=?_) (a':=?_) (bL 10 127) rfl rfl (take_ofW HT_.out HW_.out (by kernel_rfl)) (fun _ _ _ h=> h) (Or.inl ⟨by rfl,?_⟩) hHeld ?_ ?_;rotate_left;(rintro w' ⟨s0,s1⟩;go_simp;with_reducible rfl);rotate_left;(exact put_q)
       refine take_ (i:=7) (N:=some 24) (v:=?_) (a':=?_) (bL 10 255) rfl rfl (take_ofW HT_.out HW_.out (by kernel_rfl)) (fun _ _ _ h=> h) (Or.inl ⟨by rfl,?_⟩) hHeld ?_ ?_;rotate_left;(rintro w' ⟨s0,s1⟩;go_simp;with_reducible rfl);rotate_left;(exact put_q)
       refine one_ (i:=8) (N:=some 25) (bL 10 511) rfl rfl (one_of HT_.out (by kernel_rfl)) (by decide) (fun K hK=> ?_)
       refine goes_ Try.func141 (by kernel_rfl) rfl #[.agg #[.int .i64 ((rd_T127 l0 Aa).f0),.int .i64 ((rd_T127 l0 Aa).f1)],.agg #[.int .i64 ((rd_T127 l1 Aa).f0),.int .i64 ((rd_T127 l1 Aa).f1)]] (by rfl) rfl rfl mp_q ?_
       with_reducible refine (laws_eqNear.calls ((rd_T127 l0 Aa).f0) ((rd_T127 l0 Aa).f1) ((rd_T127 l1 Aa).f0) ((rd_T127 l1 Aa).f1) Ai _ A7.out).mono ?_
       rintro e w10 ⟨rfl,hb⟩
       refine ⟨_,rfl,?_⟩
       replace HB:=hB_ HB hb
       refine hK.out _ _ ⟨hb2_ HB hw364_0 hw364_1,hb2_ HB hw365_0 hw365_1⟩ (fun hHeld=> ?_)
       clear hK K
       refine norm_ (a':=?_) ?_ ?_;rotate_left;(show Act.put _ (some 25) _=_;simp only [Act.put,List.setIfInBounds_toArray,List.set_cons_zero,List.set_cons_succ,i64_w,i32_w];rfl)
       refine pQ_ 9 HT_ ?_
       have H:=HZ20.out;clear HZ20
       by_cases c8:Ai=true
       ·subst c8;rw [if_pos rfl] at H;have H':=ak H;clear H
        refine done_ (done_of HT_.out (by kernel_rfl)) ?_
        try go_wp2
        go_roundg k1
        case measure=> have:=Al.out;omega
        case rel=> exact ⟨(wrap64 (Aa+1)),rs_q,H',⟨by have:=Al.out;omega⟩,⟨bw_q HB⟩⟩
       ·replace c8:=Bool.eq_false_iff.mpr c8;subst c8
        rw [if_neg (show ¬(false=true) by decide)] at H
        obtain rfl:=Option.some.inj H
        refine done_ (done_of HT_.out (by kernel_rfl)) ?_
        try go_wp2
        go_ret
        exact ⟨er_q,bw_q HB⟩
      ·rw [if_neg c6] at H
       exact absurd H (by simp)
     ·rw [if_neg c5] at H
      exact absurd H (by simp)
    ·rw [if_neg c4] at H;have Am:=decide_eq_false c4
     clear c4;obtain rfl:=Option.some.inj H
     go_wp2
     go_ret
     exact ⟨er_q,bw_q HB⟩
 ·rw [if_neg c3] at H;have Af:=bqf c3;have Ag:=bni c3
  have Ah:(l0.length==l1.length)=false:=by first | simpa using c3 | (simp at c3 ⊢;omega)
  obtain rfl:=Option.some.inj H
  go_enter Try.func109,Try.ntmps109
  go_wp2
  go_ret
  exact ⟨er_q,bw_q HB⟩

/-! ### laws_eqRecord: function 38 -/
def laws_eqRecord.f (k:Nat) (a:Int) (b:Int) (c:Int) (d:Int) (e:Int) (g:List (S127)) (h:Int) (i:Bool) (j:Int) (l:Int) (m:Int) (n:Int) (o:Int) (p:List (S127)) (q:Int) (s:Bool):Option (Bool):=if a=j then (if b=l then (if c=m then (if d=n then (if e=o then ((laws_eqNearS.f k g p).bind fun t=> (if t=true then (if h=q then (if (i !=s)=true then (some false) else (some true)) else (some false)) else (some false))) else (some false)) else (some false)) else (some false)) else (some false)) else (some false)
theorem laws_eqRecord.mono:∀a0 a1 a2 a3 a4 a5 a6 a7 a8 a9 a10 a11 a12 a13 a14 a15 k,LeO (laws_eqRecord.f k a0 a1 a2 a3 a4 a5 a6 a7 a8 a9 a10 a11 a12 a13 a14 a15) (laws_eqRecord.f (k+1) a0 a1 a2 a3 a4 a5 a6 a7 a8 a9 a10 a11 a12 a13 a14 a15):=by
 intro a0 a1 a2 a3 a4 a5 a6 a7 a8 a9 a10 a11 a12 a13 a14 a15 k
 unfold laws_eqRecord.f
 with_reducible repeat' (first | apply laws_eqNearS.mono | exact LeO.refl _ | exact LeO.none _ | refine LeO.ite ?_ ?_ | refine LeO.bind ?_ (fun _=> ?_))
set_option maxHeartbeats 8000000 in
set_option maxRecDepth 100000 in
theorem laws_eqRecord.calls (k:Nat) (Am:Int) (An:Int) (Ao:Int) (Ap:Int) (Aq:Int) (Ar:Option Addr) (As:Nat) (Ag:List (S127)) (At:Int) (Ae:Bool) (Au:Int) (Av:Int) (Aw:Int) (Ax:Int) (Ay:Int) (Az:Option Addr) (Ba:Nat) (Ah:List (S127)) (Bb:Int) (Af:Bool) (r:Bool) (w:World) (hr0_5:Kd.C k127 w Ar Ag.length Ag) (hc0_5:Ag.length≤As) (hr1_5:Kd.C k127 w Az Ah.length Ah) (hc1_5:Ah.length≤Ba) (h:laws_eqRecord.f k Am An Ao Ap Aq Ag At Ae Au Av Aw Ax Ay Ah Bb Af=some r):
  Calls Try.prog 38 #[.agg #[.int .i64 Am,.int .i64 An,.int .i64 Ao,.int .i64 Ap,.int .i64 Aq,.slice Ar Ag.length As,.int .i64 At,.bool Ae],.agg #[.int .i64 Au,.int .i64 Av,.int .i64 Aw,.int .i64 Ax,.int .i64 Ay,.slice Az Ah.length Ba,.int .i64 Bb,.bool Af]] w fun e w'=> e=.returned (.bool r)∧Below w.heap.size w w':=by
 have hu61:=Try.underlying61;have Be:=ak hr0_5;have Bf:=ak hc0_5;clear hr0_5 hc0_5;have Bg:=ak hr1_5;have Bh:=ak hc1_5;clear hr1_5 hc1_5;have HB:=ak (Below.refl w.heap.size w);have H:=h
 clear h;unfold laws_eqRecord.f at H;have Bt:=ak H;clear H
 go_enter Try.func38,Try.ntmps38
 go_upto_if 9 with (first | ((with_reducible refine gate_dst (N:=2) rfl ?_);refine box_q 2 #[.int .i64 Am,.int .i64 An,.int .i64 Ao,.int .i64 Ap,.int .i64 Aq,.slice Ar Ag.length As,.int .i64 At,.bool Ae] 61 ?_;intro Mx hg w4 hbox hb;have Ac:=ak (hbox);have My:=gs_ HB hg;replace HB:=hB_ HB hb;clear hb hbox hg) | ((with_reducible refine gate_dst (N:=3) rfl ?_);refine box_q 3 #[.int .i64 Au,.int .i64 Av,.int .i64 Aw,.int .i64 Ax,.int .i64 Ay,.slice Az Ah.length Ba,.int .i64 Bb,.bool Af] 61 ?_;intro Mz hg w5 hbox hb;have Ad:=ak (hbox);have Na:=gs_ HB hg;replace HB:=hB_ HB hb;have Aa:=nb_ Ac hg;have Ab:=nB_ Ac hg;replace Ac:=bb_ Ac hb;clear hb hbox hg;have Ns:=Aa.out;have Nt:=Ab.out;obtain ⟨Lr,Ls,Lt,Lu,Lv,Lw,Lx,Ly,Lz,Ma,Mb,Mc,Md,Me,Mf,Mg⟩:=cf8_ Ac;obtain ⟨Mh,Mi,Mj,Mk,Ml,Mm,Mn,Mo,Mp,Mq,Mr,Ms,Mt,Mu,Mv,Mw⟩:=cf8_ Ad))
 have H:=Bt.out;clear Bt
 by_cases c9:Am=Au
 ·rw [if_pos c9] at H;have Ak:=bqi c9;have Al:=bnf c9;clear c9
  (first | rw [Ak] | rw [Al] | (simp only [i64_w,i32_w];first | rw [Ak] | rw [Al]) | skip)
  by_cases c10:An=Av
  ·rw [if_pos c10] at H;have Bi:=bqi c10;have Bj:=bnf c10;clear c10
   by_cases c11:Ao=Aw
   ·rw [if_pos c11] at H;have Bk:=bqi c11;have Bl:=bnf c11;clear c11
    by_cases c12:Ap=Ax
    ·rw [if_pos c12] at H;have Bm:=bqi c12;have Bn:=bnf c12;clear c12
     by_cases c13:Aq=Ay
     ·rw [if_pos c13] at H;have Bo:=bqi c13;have Bp:=bnf c13
      clear c13;replace H:=bsi H;obtain ⟨Bc,A140,H⟩:=H
      (try dsimp only at H)
      have A14:=ak A140;clear A140;have Bd:=ak H;clear H;have Nb:=Aa.out;have Nc:=Ab.out;obtain ⟨Bu,Bv,Bw,Bx,By,Bz,Ca,Cb,Cc,Cd,Ce,Cf,Cg,Ch,Ci,Cj⟩:=cf8_ Ac;obtain ⟨Ck,Cl,Cm,Cn,Co,Cp,Cq,Cr,Cs,Ct,Cu,Cv,Cw,Cx,Cy,Cz⟩:=cf8_ Ad
      go_upto_if 35 with (first | ((with_reducible refine gC_ 109 ?_);refine gL_ 34 Try.func109 #[.slice Ar Ag.length As,.slice Az Ah.length Ba] ?_;(with_reducible refine (laws_eqNearS.calls k _ _ Ag _ _ Ah Bc _ ?_ ?_ ?_ ?_ A14.out).mono ?_);exact ch_ Be HB;exact Bf.out;exact ch_ Bg HB;exact Bh.out;rintro e w19 ⟨rfl,hb⟩;refine ⟨_,rfl,?_⟩;replace Ac:=bb_ Ac hb;replace Ad:=bb_ Ad hb;replace HB:=hB_ HB hb))
      have H:=Bd.out;clear Bd
      by_cases c20:Bc=true
      ·subst c20;rw [if_pos rfl] at H
       by_cases c21:At=Bb
       ·rw [if_pos c21] at H;have Ai:=bqi c21;have Aj:=bnf c21;clear c21
        (first | rw [Ai] | rw [Aj] | (simp only [i64_w,i32_w];first | rw [Ai] | rw [Aj]) | skip)
        by_cases c22:(Ae !=Af)=true
        ·rw [if_pos c22] at H
         have Bq:(Ae !=Af)=true:=c22
         (try (have Br:decide (Ae=Af)=false:=by simpa using c22))
         (try (have Bs:(Ae==Af)=false:=by simpa using c22))
         (try (have Nd:¬(Ae=Af):=by simpa using c22))
         clear c22;obtain rfl:=Option.some.inj H;have Ne:=Aa.out;have Nf:=Ab.out;obtain ⟨Da,Db,Dc,Dd,De,Df,Dg,Dh,Di,Dj,Dk,Dl,Dm,Dn,Do,Dp⟩:=cf8_ Ac;obtain ⟨Dq,Dr,Ds,Dt,Du,Dv,Dw,Dx,Dy,Dz,Ea,Eb,Ec,Ed,Ee,Ef⟩:=cf8_ Ad
         go_wp2
         go_ret
         exact ⟨er_q,bw_q HB⟩
        ·rw [if_neg c22] at H
         have Bq:(Ae !=Af)=false:=by simpa using c22
         (try (have Br:decide (Ae=Af)=true:=by simpa using c22))
         (try (have Bs:(Ae==Af)=true:=by simpa using c22))
         clear c22;obtain rfl:=Option.some.inj H;have Ng:=Aa.out;have Nh:=Ab.out;obtain ⟨Eg,Eh,Ei,Ej,Ek,El,Em,En,Eo,Ep,Eq,Er,Es,Et,Eu,Ev⟩:=cf8_ Ac;obtain ⟨Ew,Ex,Ey,Ez,Fa,Fb,Fc,Fd,Fe,Ff,Fg,Fh,Fi,Fj,Fk,Fl⟩:=cf8_ Ad
         go_wp2
         go_ret
         exact ⟨er_q,bw_q HB⟩
       ·rw [if_neg c21] at H;have Ai:=bqf c21;have Aj:=bni c21
        (first | rw [Ai] | rw [Aj] | (simp only [i64_w,i32_w];first | rw [Ai] | rw [Aj]) | skip)
        obtain rfl:=Option.some.inj H;have Ni:=Aa.out;have Nj:=Ab.out;obtain ⟨Fm,Fn,Fo,Fp,Fq,Fr,Fs,Ft,Fu,Fv,Fw,Fx,Fy,Fz,Ga,Gb⟩:=cf8_ Ac;obtain ⟨Gc,Gd,Ge,Gf,Gg,Gh,Gi,Gj,Gk,Gl,Gm,Gn,Go,Gp,Gq,Gr⟩:=cf8_ Ad
        go_wp2
        go_ret
        exact ⟨er_q,bw_q HB⟩
      ·replace c20:=Bool.eq_false_iff.mpr c20;subst c20
       rw [if_neg (show ¬(false=true) by decide)] at H
       obtain rfl:=Option.some.inj H
       go_wp2
       go_ret
       exact ⟨er_q,bw_q HB⟩
     ·rw [if_neg c13] at H;have Bo:=bqf c13;have Bp:=bni c13;obtain rfl:=Option.some.inj H;have Nk:=Aa.out;have Nl:=Ab.out;obtain ⟨Gs,Gt,Gu,Gv,Gw,Gx,Gy,Gz,Ha,Hb,Hc,Hd,He,Hf,Hg,Hh⟩:=cf8_ Ac;obtain ⟨Hi,Hj,Hk,Hl,Hm,Hn,Ho,Hp,Hq,Hr,Hs,Ht,Hu,Hv,Hw,Hx⟩:=cf8_ Ad
      go_wp2
      go_ret
      exact ⟨er_q,bw_q HB⟩
    ·rw [if_neg c12] at H;have Bm:=bqf c12;have Bn:=bni c12;obtain rfl:=Option.some.inj H;have Nm:=Aa.out;have Nn:=Ab.out;obtain ⟨Hy,Hz,Ia,Ib,Ic,Id,Ie,If,Ig,Ih,Ii,Ij,Ik,Il,Im,In⟩:=cf8_ Ac;obtain ⟨Io,Ip,Iq,Ir,Is,It,Iu,Iv,Iw,Ix,Iy,Iz,Ja,Jb,Jc,Jd⟩:=cf8_ Ad
     go_wp2
     go_ret
     exact ⟨er_q,bw_q HB⟩
   ·rw [if_neg c11] at H;have Bk:=bqf c11;have Bl:=bni c11;obtain rfl:=Option.some.inj H;have No:=Aa.out;have Np:=Ab.out;obtain ⟨Je,Jf,Jg,Jh,Ji,Jj,Jk,Jl,Jm,Jn,Jo,Jp,Jq,Jr,Js,Jt⟩:=cf8_ Ac;obtain ⟨Ju,Jv,Jw,Jx,Jy,Jz,Ka,Kb,Kc,Ke,Kf,Kg,Kh,Ki,Kj,Kk⟩:=cf8_ Ad
    go_wp2
    go_ret
    exact ⟨er_q,bw_q HB⟩
  ·rw [if_neg c10] at H;have Bi:=bqf c10;have Bj:=bni c10;obtain rfl:=Option.some.inj H;have Nq:=Aa.out;have Nr:=Ab.out;obtain ⟨Kl,Km,Kn,Ko,Kp,Kq,Kr,Ks,Kt,Ku,Kv,Kw,Kx,Ky,Kz,La⟩:=cf8_ Ac;obtain ⟨Lb,Lc,Ld,Le,Lf,Lg,Lh,Li,Lj,Lk,Ll,Lm,Ln,Lo,Lp,Lq⟩:=cf8_ Ad
   go_wp2
   go_ret
   exact ⟨er_q,bw_q HB⟩
 ·rw [if_neg c9] at H;have Ak:=bqf c9;have Al:=bni c9
  (first | rw [Ak] | rw [Al] | (simp only [i64_w,i32_w];first | rw [Ak] | rw [Al]) | skip)
  obtain rfl:=Option.some.inj H
  go_wp2
  go_ret
  exact ⟨er_q,bw_q HB⟩

/-! ### laws_eqRecordS: function 29 -/
def laws_eqRecordS.l0:Nat→List (S61)→List (S61)→Int→Option (Bool)
 | 0,_,_,_=> none
 | k+1,b,c,a=> if a<(b.length:Int) then (if 0≤a then (if a<(c.length:Int) then ((laws_eqRecord.f k ((rd_T61 b a).f0) ((rd_T61 b a).f1) ((rd_T61 b a).f2) ((rd_T61 b a).f3) ((rd_T61 b a).f4) ((rd_T61 b a).f5) ((rd_T61 b a).f6) ((rd_T61 b a).f7) ((rd_T61 c a).f0) ((rd_T61 c a).f1) ((rd_T61 c a).f2) ((rd_T61 c a).f3) ((rd_T61 c a).f4) ((rd_T61 c a).f5) ((rd_T61 c a).f6) ((rd_T61 c a).f7)).bind fun d=> (if d=true then (laws_eqRecordS.l0 k b c (wrap64 (a+1))) else (some false))) else (none)) else (none)) else (some true)
def laws_eqRecordS.f (k:Nat) (l0:List (S61)) (l1:List (S61)):Option (Bool):=if (l0.length:Int)=(l1.length:Int) then (laws_eqRecordS.l0 k l0 l1 0) else (some false)
theorem laws_eqRecordS.mono_l:∀k,(∀y0 y1 y2,LeO (laws_eqRecordS.l0 k y0 y1 y2) (laws_eqRecordS.l0 (k+1) y0 y1 y2))
 | 0=> fun _ _ _ r h=> by simp [laws_eqRecordS.l0] at h
 | k+1=> by
  have ih0:=laws_eqRecordS.mono_l k
  ·intro y0 y1 y2
   unfold laws_eqRecordS.l0
   with_reducible repeat' (first | apply ih0 | apply laws_eqRecord.mono | exact LeO.refl _ | exact LeO.none _ | refine LeO.ite ?_ ?_ | refine LeO.bind ?_ (fun _=> ?_))
theorem laws_eqRecordS.mono:∀a0 a1 k,LeO (laws_eqRecordS.f k a0 a1) (laws_eqRecordS.f (k+1) a0 a1):=by
 intro a0 a1 k
 have ih0:=laws_eqRecordS.mono_l k
 unfold laws_eqRecordS.f
 with_reducible repeat' (first | apply ih0 | apply laws_eqRecord.mono | exact LeO.refl _ | exact LeO.none _ | refine LeO.ite ?_ ?_ | refine LeO.bind ?_ (fun _=> ?_))
def laws_eqRecordS.T6:Bool×List (List Nat×List Nat):=(true,[([],[]),([],[]),([0,1],[0,1]),([2],[2]),([],[]),([],[]),([4,5],[4,5]),([6],[6]),([3,7],[3,7]),([8],[8])])
def laws_eqRecordS.B6:List Nat:=[0,0,3,7,0,0,48,112,255,511]
theorem laws_eqRecordS.tab6:rtab .any (opsOf Try.f29 6)=laws_eqRecordS.T6:=by kernel_rfl
theorem laws_eqRecordS.bits6:waitsOk laws_eqRecordS.T6.2 laws_eqRecordS.B6=true:=by kernel_rfl
set_option maxHeartbeats 8000000 in
set_option maxRecDepth 100000 in
theorem laws_eqRecordS.calls (k:Nat) (A0:Option Addr) (c0:Nat) (l0:List (S61)) (A1:Option Addr) (c1:Nat) (l1:List (S61)) (r:Bool) (w:World) (hr0:Kd.C k61 w A0 l0.length l0) (hc0:l0.length≤c0) (hr1:Kd.C k61 w A1 l1.length l1) (hc1:l1.length≤c1) (h:laws_eqRecordS.f k l0 l1=some r):
  Calls Try.prog 29 #[.slice A0 l0.length c0,.slice A1 l1.length c1] w fun e w'=> e=.returned (.bool r)∧Below w.heap.size w w':=by
 have hu61:=Try.underlying61;have HR0:=ak hr0;have Bf:=ak hc0;clear hr0 hc0;have HR1:=ak hr1;have Bg:=ak hc1;clear hr1 hc1;have HB:=ak (Below.refl w.heap.size w);have H:=h
 clear h;unfold laws_eqRecordS.f at H
 by_cases c3:(l0.length:Int)=(l1.length:Int)
 ·rw [if_pos c3] at H;have Av:=bqi c3;have Aw:=bnf c3
  have Ax:(l0.length==l1.length)=true:=by first | simpa using c3 | (simp at c3 ⊢;omega)
  clear c3;have H':=ak H;clear H
  go_enter Try.func29,Try.ntmps29
  go_wp2
  go_loopg [5] k (fun kq v5 w'=> ∃(Aa:Int),v5=.int .i64 Aa∧Aside0 (laws_eqRecordS.l0 kq l0 l1 Aa=some r)∧Aside0 (kq≤k)∧Aside0 (Below w.heap.size w w'))
  case atStart=> exact ⟨(0),rs_q,H',⟨Nat.le_refl _⟩,⟨bw_q HB⟩⟩
  case round=>
   clear H';(try clear c1);(try clear c2);(try clear p2);(try clear c3);(try clear Av);(try clear Aw);(try clear Ax);obtain ⟨Aa,rfl,HA,Bb,HB⟩:=hrel
   cases gk with
   | zero=> exact absurd HA.out (by simp [laws_eqRecordS.l0])
   | succ k1=>
    have H:=HA.out;clear HA
    simp only [laws_eqRecordS.l0] at H
    by_cases c4:Aa<(l0.length:Int)
    ·rw [if_pos c4] at H;have Bc:=decide_eq_true c4;clear c4
     by_cases c5:0≤Aa
     ·rw [if_pos c5] at H;have Bd:=decide_eq_true c5;clear c5
      by_cases c6:Aa<(l1.length:Int)
      ·rw [if_pos c6] at H;have Be:=decide_eq_true c6
       clear c6;replace H:=bsi H;obtain ⟨Ay,A70,H⟩:=H
       (try dsimp only at H)
       have A7:=ak A70;clear A70;have HZ21:=ak H;clear H
       try go_wp2
       replace HB:=ak (below_drew1 HB.out)
       have p370:0≤(Aa:Int):=of_decide_eq_true as_q
       have q370:Aa<(l0.length:Int):=of_decide_eq_true as_q
       obtain ⟨Az,A370_5,c370_5,e370,Ab,Ac,Ad,Ae,Af,Ag,Ah,Ai,hl370_5,hi370_5⟩:=at_T61 HR0.out Aa p370 q370;have hw370_7:=Ai;have hw370_6:=Ah;have hw370_5:=Ag;have hw370_4:=Af;have hw370_3:=Ae;have hw370_2:=Ad;have hw370_1:=Ac;have hw370_0:=Ab
       cases e370
       obtain ⟨Ab,Ac,Ad,Ae,Af,Ag,Ah,Ai⟩:=hb8_ HB Ab Ac Ad Ae Af Ag Ah Ai;have Ar:=ak hi370_5;have At:=ak hl370_5;clear hi370_5 hl370_5;replace p370:=eq_true p370;replace q370:=eq_true q370
       have p371:0≤(Aa:Int):=of_decide_eq_true as_q
       have q371:Aa<(l1.length:Int):=of_decide_eq_true as_q
       obtain ⟨Ba,A371_5,c371_5,e371,Aj,Ak,Al,Am,An,Ao,Ap,Aq,hl371_5,hi371_5⟩:=at_T61 HR1.out Aa p371 q371;have hw371_7:=Aq;have hw371_6:=Ap;have hw371_5:=Ao;have hw371_4:=An;have hw371_3:=Am;have hw371_2:=Al;have hw371_1:=Ak;have hw371_0:=Aj
       cases e371
       obtain ⟨Aj,Ak,Al,Am,An,Ao,Ap,Aq⟩:=hb8_ HB Aj Ak Al Am An Ao Ap Aq;have As:=ak hi371_5;have Au:=ak hl371_5;clear hi371_5 hl371_5;replace p371:=eq_true p371;replace q371:=eq_true q371
       refine start_ (n:=10) (S:=fun w'=> el8 w' (Az.add ((Aa).toNat*8)) (.int .i64 ((rd_T61 l0 Aa).f0)) (.int .i64 ((rd_T61 l0 Aa).f1)) (.int .i64 ((rd_T61 l0 Aa).f2)) (.int .i64 ((rd_T61 l0 Aa).f3)) (.int .i64 ((rd_T61 l0 Aa).f4)) (.slice A370_5 ((rd_T61 l0 Aa).f5).length c370_5) (.int .i64 ((rd_T61 l0 Aa).f6)) (.bool ((rd_T61 l0 Aa).f7))∧el8 w' (Ba.add ((Aa).toNat*8)) (.int .i64 ((rd_T61 l1 Aa).f0)) (.int .i64 ((rd_T61 l1 Aa).f1)) (.int .i64 ((rd_T61 l1 Aa).f2)) (.int .i64 ((rd_T61 l1 Aa).f3)) (.int .i64 ((rd_T61 l1 Aa).f4)) (.slice A371_5 ((rd_T61 l1 Aa).f5).length c371_5) (.int .i64 ((rd_T61 l1 Aa).f6)) (.bool ((rd_T61 l1 Aa).f7))) (ds:=[]) (bL 10 0) (by kernel_rfl) rfl rfl ⟨hb8_ HB hw370_0 hw370_1 hw370_2 hw370_3 hw370_4 hw370_5 hw370_6 hw370_7,hb8_ HB hw371_0 hw371_1 hw371_2 hw371_3 hw371_4 hw371_5 hw371_6 hw371_7⟩ (fun hHeld=> ?_);refine with_tabW laws_eqRecordS.tab6 laws_eqRecordS.bits6 (fun HT_ HW_=> ?_)
       generalize wr.drew=w9 at HB Ar As Ab Ac Ad Ae Af Ag Ah Ai Aj Ak Al Am An Ao Ap Aq hHeld ⊢
       refine pQ_ 0 HT_ ?_
       refine pQ_ 1 HT_ ?_
       refine pQ_ 2 HT_ ?_
       refine pQ_ 4 HT_ ?_
       refine pQ_ 5 HT_ ?_
       refine pQ_ 6 HT_ ?_
       refine take_ (i:=3) (N:=some 20) (v:=?_) (a':=?_) (bL 10 127) rfl rfl (take_ofW HT_.out HW_.out (by kernel_rfl)) (fun _ _ _ h=> h) (Or.inl ⟨by rfl,?_⟩) hHeld ?_ ?_;rotate_left;(rintro w' ⟨s0,s1⟩;go_simp;with_reducible rfl);rotate_left;(exact put_q)
       refine take_ (i:=7) (N:=some 24) (v:=?_) (a':=?_) (bL 10 255) rfl rfl (take_ofW HT_.out HW_.out (by kernel_rfl)) (fun _ _ _ h=> h) (Or.inl ⟨by rfl,?_⟩) hHeld ?_ ?_;rotate_left;(rintro w' ⟨s0,s1⟩;go_simp;with_reducible rfl);rotate_left;(exact put_q)
       refine one_ (i:=8) (N:=some 25) (bL 10 511) rfl rfl (one_of HT_.out (by kernel_rfl)) (by decide) (fun K hK=> ?_)
       refine goes_ Try.func38 (by kernel_rfl) rfl #[.agg #[.int .i64 ((rd_T61 l0 Aa).f0),.int .i64 ((rd_T61 l0 Aa).f1),.int .i64 ((rd_T61 l0 Aa).f2),.int .i64 ((rd_T61 l0 Aa).f3),.int .i64 ((rd_T61 l0 Aa).f4),.slice A370_5 ((rd_T61 l0 Aa).f5).length c370_5,.int .i64 ((rd_T61 l0 Aa).f6),.bool ((rd_T61 l0 Aa).f7)],.agg #[.int .i64 ((rd_T61 l1 Aa).f0),.int .i64 ((rd_T61 l1 Aa).f1),.int .i64 ((rd_T61 l1 Aa).f2),.int .i64 ((rd_T61 l1 Aa).f3),.int .i64 ((rd_T61 l1 Aa).f4),.slice A371_5 ((rd_T61 l1 Aa).f5).length c371_5,.int .i64 ((rd_T61 l1 Aa).f6),.bool ((rd_T61 l1 Aa).f7)]] (by rfl) rfl rfl mp_q ?_
       with_reducible refine (laws_eqRecord.calls k1 ((rd_T61 l0 Aa).f0) ((rd_T61 l0 Aa).f1) ((rd_T61 l0 Aa).f2) ((rd_T61 l0 Aa).f3) ((rd_T61 l0 Aa).f4) _ _ ((rd_T61 l0 Aa).f5) ((rd_T61 l0 Aa).f6) ((rd_T61 l0 Aa).f7) ((rd_T61 l1 Aa).f0) ((rd_T61 l1 Aa).f1) ((rd_T61 l1 Aa).f2) ((rd_T61 l1 Aa).f3) ((rd_T61 l1 Aa).f4) _ _ ((rd_T61 l1 Aa).f5) ((rd_T61 l1 Aa).f6) ((rd_T61 l1 Aa).f7) Ay _ ?_ ?_ ?_ ?_ A7.out).mono ?_
       exact ch_ Ar HB
       exact At.out
       exact ch_ As HB
       exact Au.out
       rintro e w10 ⟨rfl,hb⟩
       refine ⟨_,rfl,?_⟩
       replace HB:=hB_ HB hb
       refine hK.out _ _ ⟨hb8_ HB hw370_0 hw370_1 hw370_2 hw370_3 hw370_4 hw370_5 hw370_6 hw370_7,hb8_ HB hw371_0 hw371_1 hw371_2 hw371_3 hw371_4 hw371_5 hw371_6 hw371_7⟩ (fun hHeld=> ?_)
       clear hK K
       refine norm_ (a':=?_) ?_ ?_;rotate_left;(show Act.put _ (some 25) _=_;simp only [Act.put,List.setIfInBounds_toArray,List.set_cons_zero,List.set_cons_succ,i64_w,i32_w];rfl)
       refine pQ_ 9 HT_ ?_
       have H:=HZ21.out;clear HZ21
       by_cases c8:Ay=true
       ·subst c8;rw [if_pos rfl] at H;have H':=ak H;clear H
        refine done_ (done_of HT_.out (by kernel_rfl)) ?_
        try go_wp2
        go_roundg k1
        case measure=> have:=Bb.out;omega
        case rel=> exact ⟨(wrap64 (Aa+1)),rs_q,H',⟨by have:=Bb.out;omega⟩,⟨bw_q HB⟩⟩
       ·replace c8:=Bool.eq_false_iff.mpr c8;subst c8
        rw [if_neg (show ¬(false=true) by decide)] at H
        obtain rfl:=Option.some.inj H
        refine done_ (done_of HT_.out (by kernel_rfl)) ?_
        try go_wp2
        go_ret
        exact ⟨er_q,bw_q HB⟩
      ·rw [if_neg c6] at H
       exact absurd H (by simp)
     ·rw [if_neg c5] at H
      exact absurd H (by simp)
    ·rw [if_neg c4] at H;have Bc:=decide_eq_false c4
     clear c4;obtain rfl:=Option.some.inj H
     go_wp2
     go_ret
     exact ⟨er_q,bw_q HB⟩
 ·rw [if_neg c3] at H;have Av:=bqf c3;have Aw:=bni c3
  have Ax:(l0.length==l1.length)=false:=by first | simpa using c3 | (simp at c3 ⊢;omega)
  obtain rfl:=Option.some.inj H
  go_enter Try.func29,Try.ntmps29
  go_wp2
  go_ret
  exact ⟨er_q,bw_q HB⟩

/-! ### laws_eqIntS: function 91 -/
def laws_eqIntS.l0:Nat→List Int→List Int→Int→Option (Bool)
 | 0,_,_,_=> none
 | k+1,b,c,a=> if a<(b.length:Int) then (if 0≤a then (if a<(c.length:Int) then (if (rd b a)=(rd c a) then (laws_eqIntS.l0 k b c (wrap64 (a+1))) else (some false)) else (none)) else (none)) else (some true)
def laws_eqIntS.f (k:Nat) (l0:List Int) (l1:List Int):Option (Bool):=if (l0.length:Int)=(l1.length:Int) then (laws_eqIntS.l0 k l0 l1 0) else (some false)
theorem laws_eqIntS.mono_l:∀k,(∀y0 y1 y2,LeO (laws_eqIntS.l0 k y0 y1 y2) (laws_eqIntS.l0 (k+1) y0 y1 y2))
 | 0=> fun _ _ _ r h=> by simp [laws_eqIntS.l0] at h
 | k+1=> by
  have ih0:=laws_eqIntS.mono_l k
  ·intro y0 y1 y2
   unfold laws_eqIntS.l0
   with_reducible repeat' (first | apply ih0 | exact LeO.refl _ | exact LeO.none _ | refine LeO.ite ?_ ?_ | refine LeO.bind ?_ (fun _=> ?_))
theorem laws_eqIntS.mono:∀a0 a1 k,LeO (laws_eqIntS.f k a0 a1) (laws_eqIntS.f (k+1) a0 a1):=by
 intro a0 a1 k
 have ih0:=laws_eqIntS.mono_l k
 unfold laws_eqIntS.f
 with_reducible repeat' (first | apply ih0 | exact LeO.refl _ | exact LeO.none _ | refine LeO.ite ?_ ?_ | refine LeO.bind ?_ (fun _=> ?_))
set_option maxHeartbeats 8000000 in
set_option maxRecDepth 100000 in
theorem laws_eqIntS.calls (k:Nat) (A0:Option Addr) (c0:Nat) (l0:List Int) (A1:Option Addr) (c1:Nat) (l1:List Int) (r:Bool) (w:World) (hr0:Kd.C (Kd.int .i64) w A0 l0.length l0) (hc0:l0.length≤c0) (hr1:Kd.C (Kd.int .i64) w A1 l1.length l1) (hc1:l1.length≤c1) (h:laws_eqIntS.f k l0 l1=some r):
  Calls Try.prog 91 #[.slice A0 l0.length c0,.slice A1 l1.length c1] w fun e w'=> e=.returned (.bool r)∧Drawn0 w w':=by
 have HR0:=ak hr0;have Ap:=ak hc0;clear hr0 hc0;have HR1:=ak hr1;have Aq:=ak hc1;clear hr1 hc1;have H:=h
 clear h;unfold laws_eqIntS.f at H
 by_cases c3:(l0.length:Int)=(l1.length:Int)
 ·rw [if_pos c3] at H;have Af:=bqi c3;have Ag:=bnf c3
  have Ah:(l0.length==l1.length)=true:=by first | simpa using c3 | (simp at c3 ⊢;omega)
  clear c3;have H':=ak H;clear H
  go_enter Try.func91,Try.ntmps91
  go_wp2
  repeat (go_quiet (fail);try go_wp2)
  go_loopg [5] k (fun kq v5 w'=> ∃(Aa:Int),v5=.int .i64 Aa∧Aside0 (laws_eqIntS.l0 kq l0 l1 Aa=some r)∧Aside0 (kq≤k)∧Drawn0 w w')
  case atStart=> exact ⟨(0),rs_q,H',⟨Nat.le_refl _⟩,by repeat (first | exact Drawn0.refl _ | apply Drawn0.step)⟩
  case round=>
   clear H';(try clear c1);(try clear p2);(try clear c3);(try clear Af);(try clear Ag);(try clear Ah);obtain ⟨Aa,rfl,HA,Ai,⟨m1,rfl⟩⟩:=hrel
   cases gk with
   | zero=> exact absurd HA.out (by simp [laws_eqIntS.l0])
   | succ k1=>
    have H:=HA.out;clear HA
    simp only [laws_eqIntS.l0] at H
    by_cases c4:Aa<(l0.length:Int)
    ·rw [if_pos c4] at H;have Ak:=decide_eq_true c4;clear c4
     by_cases c5:0≤Aa
     ·rw [if_pos c5] at H;have An:=decide_eq_true c5;clear c5
      by_cases c6:Aa<(l1.length:Int)
      ·rw [if_pos c6] at H;have Ao:=decide_eq_true c6
       clear c6;have Aj:=ak H;clear H
       have p373:0≤(Aa:Int):=of_decide_eq_true as_q
       have q373:Aa<(l0.length:Int):=of_decide_eq_true as_q
       obtain ⟨Al,e373,Ad⟩:=Kd.at_int HR0.out Aa p373 q373
       cases e373
       replace p373:=eq_true p373;replace q373:=eq_true q373
       have p374:0≤(Aa:Int):=of_decide_eq_true as_q
       have q374:Aa<(l1.length:Int):=of_decide_eq_true as_q
       obtain ⟨Am,e374,Ae⟩:=Kd.at_int HR1.out Aa p374 q374
       cases e374
       replace p374:=eq_true p374;replace q374:=eq_true q374
       go_upto_if 25 with (fail)
       repeat (go_quiet (fail);go_upto_if 25 with (fail))
       (try clear Ad);(try clear Ae);have H:=Aj.out;clear Aj
       by_cases c8:(rd l0 Aa)=(rd l1 Aa)
       ·rw [if_pos c8] at H;have Ab:=bqi c8;have Ac:=bnf c8;clear c8
        (first | rw [Ab] | rw [Ac] | (simp only [i64_w,i32_w];first | rw [Ab] | rw [Ac]) | skip)
        have H':=ak H;clear H
        go_wp2
        repeat (go_quiet (fail);try go_wp2)
        go_roundg k1
        case measure=> have:=Ai.out;omega
        case rel=> exact ⟨(wrap64 (Aa+1)),rs_q,H',⟨by have:=Ai.out;omega⟩,by repeat (first | exact Drawn0.refl _ | apply Drawn0.step)⟩
       ·rw [if_neg c8] at H;have Ab:=bqf c8;have Ac:=bni c8
        (first | rw [Ab] | rw [Ac] | (simp only [i64_w,i32_w];first | rw [Ab] | rw [Ac]) | skip)
        obtain rfl:=Option.some.inj H
        go_wp2
        repeat (go_quiet (fail);try go_wp2)
        go_ret
        exact ⟨rs_q,dr_q⟩
      ·rw [if_neg c6] at H
       exact absurd H (by simp)
     ·rw [if_neg c5] at H
      exact absurd H (by simp)
    ·rw [if_neg c4] at H;have Ak:=decide_eq_false c4
     clear c4;obtain rfl:=Option.some.inj H
     go_wp2
     repeat (go_quiet (fail);try go_wp2)
     go_ret
     exact ⟨rs_q,dr_q⟩
 ·rw [if_neg c3] at H;have Af:=bqf c3;have Ag:=bni c3
  have Ah:(l0.length==l1.length)=false:=by first | simpa using c3 | (simp at c3 ⊢;omega)
  obtain rfl:=Option.some.inj H
  go_enter Try.func91,Try.ntmps91
  go_wp2
  repeat (go_quiet (fail);try go_wp2)
  go_ret
  exact ⟨rs_q,dr_q⟩

/-! ### laws_eqSelf: function 24 -/
def laws_eqSelf.f (k:Nat) (a:Int) (b:Int) (c:Int) (d:List (S93)) (e:List (S102)) (g:List Int) (h:List (S61)) (i:Int) (j:Int) (l:Int) (m:List (S93)) (n:List (S102)) (o:List Int) (p:List (S61)):Option (Bool):=if a=i then (if b=j then ((laws_eqNet.f k c d e l m n).bind fun q=> (if q=true then ((laws_eqIntS.f k g o).bind fun s=> (if s=true then ((laws_eqRecordS.f k h p).bind fun t=> (if t=true then (some true) else (some false))) else (some false))) else (some false))) else (some false)) else (some false)
theorem laws_eqSelf.mono:∀a0 a1 a2 a3 a4 a5 a6 a7 a8 a9 a10 a11 a12 a13 k,LeO (laws_eqSelf.f k a0 a1 a2 a3 a4 a5 a6 a7 a8 a9 a10 a11 a12 a13) (laws_eqSelf.f (k+1) a0 a1 a2 a3 a4 a5 a6 a7 a8 a9 a10 a11 a12 a13):=by
 intro a0 a1 a2 a3 a4 a5 a6 a7 a8 a9 a10 a11 a12 a13 k
 unfold laws_eqSelf.f
 with_reducible repeat' (first | apply laws_eqIntS.mono | apply laws_eqNet.mono | apply laws_eqRecordS.mono | exact LeO.refl _ | exact LeO.none _ | refine LeO.ite ?_ ?_ | refine LeO.bind ?_ (fun _=> ?_))
set_option maxHeartbeats 8000000 in
set_option maxRecDepth 100000 in
theorem laws_eqSelf.calls (k:Nat) (Aq:Int) (Ar:Int) (Am:Int) (As:Option Addr) (At:Nat) (Ae:List (S93)) (Au:Option Addr) (Av:Nat) (Af:List (S102)) (Aw:Option Addr) (Ax:Nat) (Ag:List Int) (Ay:Option Addr) (Az:Nat) (Ah:List (S61)) (Ba:Int) (Bb:Int) (An:Int) (Bc:Option Addr) (Bd:Nat) (Ai:List (S93)) (Be:Option Addr) (Bf:Nat) (Aj:List (S102)) (Bg:Option Addr) (Bh:Nat) (Ak:List Int) (Bi:Option Addr) (Bj:Nat) (Al:List (S61)) (r:Bool) (w:World) (hr0_3:Kd.C k93 w As Ae.length Ae) (hc0_3:Ae.length≤At) (hr0_4:Kd.C k102 w Au Af.length Af) (hc0_4:Af.length≤Av) (hr0_5:Kd.C (Kd.int .i64) w Aw Ag.length Ag) (hc0_5:Ag.length≤Ax) (hr0_6:Kd.C k61 w Ay Ah.length Ah) (hc0_6:Ah.length≤Az) (hr1_3:Kd.C k93 w Bc Ai.length Ai) (hc1_3:Ai.length≤Bd) (hr1_4:Kd.C k102 w Be Aj.length Aj) (hc1_4:Aj.length≤Bf) (hr1_5:Kd.C (Kd.int .i64) w Bg Ak.length Ak) (hc1_5:Ak.length≤Bh) (hr1_6:Kd.C k61 w Bi Al.length Al) (hc1_6:Al.length≤Bj) (h:laws_eqSelf.f k Aq Ar Am Ae Af Ag Ah Ba Bb An Ai Aj Ak Al=some r):
  Calls Try.prog 24 #[.agg #[.int .i64 Aq,.int .i64 Ar,.int .i64 Am,.slice As Ae.length At,.slice Au Af.length Av,.slice Aw Ag.length Ax,.slice Ay Ah.length Az],.agg #[.int .i64 Ba,.int .i64 Bb,.int .i64 An,.slice Bc Ai.length Bd,.slice Be Aj.length Bf,.slice Bg Ak.length Bh,.slice Bi Al.length Bj]] w fun e w'=> e=.returned (.bool r)∧Below w.heap.size w w':=by
 have hu43:=Try.underlying43;have hu31:=Try.underlying31;have Bq:=ak hr0_3;have Br:=ak hc0_3;clear hr0_3 hc0_3;have Bs:=ak hr0_4;have Bt:=ak hc0_4;clear hr0_4 hc0_4;have Bu:=ak hr0_5;have Bv:=ak hc0_5;clear hr0_5 hc0_5;have Bw:=ak hr0_6;have Bx:=ak hc0_6;clear hr0_6 hc0_6;have By:=ak hr1_3;have Bz:=ak hc1_3;clear hr1_3 hc1_3;have Ca:=ak hr1_4;have Cb:=ak hc1_4;clear hr1_4 hc1_4;have Cc:=ak hr1_5;have Cd:=ak hc1_5;clear hr1_5 hc1_5;have Ce:=ak hr1_6;have Cf:=ak hc1_6;clear hr1_6 hc1_6;have HB:=ak (Below.refl w.heap.size w);have H:=h
 clear h;unfold laws_eqSelf.f at H;have Ci:=ak H;clear H
 go_enter Try.func24,Try.ntmps24
 go_upto_if 9 with (first | ((with_reducible refine gate_dst (N:=2) rfl ?_);refine box_q 2 #[.int .i64 Aq,.int .i64 Ar,.int .i64 Am,.slice As Ae.length At,.slice Au Af.length Av,.slice Aw Ag.length Ax,.slice Ay Ah.length Az] 43 ?_;intro Ht hg w4 hbox hb;have Aa:=ak (hbox);have Hu:=gs_ HB hg;replace HB:=hB_ HB hb;clear hb hbox hg) | ((with_reducible refine gate_dst (N:=3) rfl ?_);refine box_q 3 #[.int .i64 Ba,.int .i64 Bb,.int .i64 An,.slice Bc Ai.length Bd,.slice Be Aj.length Bf,.slice Bg Ak.length Bh,.slice Bi Al.length Bj] 43 ?_;intro Hv hg w5 hbox hb;have Ad:=ak (hbox);have Hw:=gs_ HB hg;replace HB:=hB_ HB hb;have Ab:=nb_ Aa hg;have Ac:=nB_ Aa hg;replace Aa:=bb_ Aa hb;clear hb hbox hg;have If:=Ab.out;have Ig:=Ac.out;obtain ⟨Gr,Gs,Gt,Gu,Gv,Gw,Gx,Gy,Gz,Ha,Hb,Hc,Hd,He⟩:=cf7_ Aa;obtain ⟨Hf,Hg,Hh,Hi,Hj,Hk,Hl,Hm,Hn,Ho,Hp,Hq,Hr,Hs⟩:=cf7_ Ad))
 have H:=Ci.out;clear Ci
 by_cases c9:Aq=Ba
 ·rw [if_pos c9] at H;have Ao:=bqi c9;have Ap:=bnf c9;clear c9
  (first | rw [Ao] | rw [Ap] | (simp only [i64_w,i32_w];first | rw [Ao] | rw [Ap]) | skip)
  by_cases c10:Ar=Bb
  ·rw [if_pos c10] at H;have Cg:=bqi c10;have Ch:=bnf c10
   clear c10;replace H:=bsi H;obtain ⟨Bk,A110,H⟩:=H
   (try dsimp only at H)
   have A11:=ak A110;clear A110;have Bl:=ak H;clear H;have Hx:=Ab.out;have Hy:=Ac.out;obtain ⟨Cj,Ck,Cl,Cm,Cn,Co,Cp,Cq,Cr,Cs,Ct,Cu,Cv,Cw⟩:=cf7_ Aa;obtain ⟨Cx,Cy,Cz,Da,Db,Dc,Dd,De,Df,Dg,Dh,Di,Dj,Dk⟩:=cf7_ Ad
   go_upto_if 20 with (first | ((with_reducible refine gC_ 19 ?_);refine gL_ 19 Try.func19 #[.agg #[.int .i64 Am,.slice As Ae.length At,.slice Au Af.length Av],.agg #[.int .i64 An,.slice Bc Ai.length Bd,.slice Be Aj.length Bf]] ?_;(with_reducible refine (laws_eqNet.calls k Am _ _ Ae _ _ Af An _ _ Ai _ _ Aj Bk _ ?_ ?_ ?_ ?_ ?_ ?_ ?_ ?_ A11.out).mono ?_);exact ch_ Bq HB;exact Br.out;exact ch_ Bs HB;exact Bt.out;exact ch_ By HB;exact Bz.out;exact ch_ Ca HB;exact Cb.out;rintro e w16 ⟨rfl,hb⟩;refine ⟨_,rfl,?_⟩;replace Aa:=bb_ Aa hb;replace Ad:=bb_ Ad hb;replace HB:=hB_ HB hb))
   have H:=Bl.out;clear Bl
   by_cases c17:Bk=true
   ·subst c17;rw [if_pos rfl] at H;replace H:=bsi H;obtain ⟨Bm,A180,H⟩:=H
    (try dsimp only at H)
    have A18:=ak A180;clear A180;have Bn:=ak H;clear H;have Hz:=Ab.out;have Ia:=Ac.out;obtain ⟨Dl,Dm,Dn,Do,Dp,Dq,Dr,Ds,Dt,Du,Dv,Dw,Dx,Dy⟩:=cf7_ Aa;obtain ⟨Dz,Ea,Eb,Ec,Ed,Ee,Ef,Eg,Eh,Ei,Ej,Ek,El,Em⟩:=cf7_ Ad
    go_upto_if 26 with (first | ((with_reducible refine gC_ 91 ?_);refine gL_ 25 Try.func91 #[.slice Aw Ag.length Ax,.slice Bg Ak.length Bh] ?_;(with_reducible refine (laws_eqIntS.calls k _ _ Ag _ _ Ak Bm _ ?_ ?_ ?_ ?_ A18.out).mono ?_);exact ch_ Bu HB;exact Bv.out;exact ch_ Cc HB;exact Cd.out;rintro e w' ⟨rfl,⟨nd,rfl⟩⟩;refine ⟨_,rfl,?_⟩))
    have H:=Bn.out;clear Bn
    by_cases c23:Bm=true
    ·subst c23;rw [if_pos rfl] at H;replace H:=bsi H;obtain ⟨Bo,A240,H⟩:=H
     (try dsimp only at H)
     have A24:=ak A240;clear A240;have Bp:=ak H;clear H;have Ib:=Ab.out;have Ic:=Ac.out;obtain ⟨En,Eo,Ep,Eq,Er,Es,Et,Eu,Ev,Ew,Ex,Ey,Ez,Fa⟩:=cf7_ Aa;obtain ⟨Fb,Fc,Fd,Fe,Ff,Fg,Fh,Fi,Fj,Fk,Fl,Fm,Fn,Fo⟩:=cf7_ Ad
     go_upto_if 32 with (first | ((with_reducible refine gC_ 29 ?_);refine gL_ 31 Try.func29 #[.slice Ay Ah.length Az,.slice Bi Al.length Bj] ?_;(with_reducible refine (laws_eqRecordS.calls k _ _ Ah _ _ Al Bo _ ?_ ?_ ?_ ?_ A24.out).mono ?_);exact ch_ Bw HB;exact Bx.out;exact ch_ Ce HB;exact Cf.out;rintro e w29 ⟨rfl,hb⟩;refine ⟨_,rfl,?_⟩;replace Aa:=bb_ Aa hb;replace Ad:=bb_ Ad hb;replace HB:=hB_ HB hb))
     have H:=Bp.out;clear Bp
     by_cases c30:Bo=true
     ·subst c30;rw [if_pos rfl] at H;obtain rfl:=Option.some.inj H
      go_wp2
      go_ret
      exact ⟨er_q,bw_q HB⟩
     ·replace c30:=Bool.eq_false_iff.mpr c30;subst c30
      rw [if_neg (show ¬(false=true) by decide)] at H
      obtain rfl:=Option.some.inj H
      go_wp2
      go_ret
      exact ⟨er_q,bw_q HB⟩
    ·replace c23:=Bool.eq_false_iff.mpr c23;subst c23
     rw [if_neg (show ¬(false=true) by decide)] at H
     obtain rfl:=Option.some.inj H
     go_wp2
     go_ret
     exact ⟨er_q,bw_q HB⟩
   ·replace c17:=Bool.eq_false_iff.mpr c17;subst c17
    rw [if_neg (show ¬(false=true) by decide)] at H
    obtain rfl:=Option.some.inj H
    go_wp2
    go_ret
    exact ⟨er_q,bw_q HB⟩
  ·rw [if_neg c10] at H;have Cg:=bqf c10;have Ch:=bni c10;obtain rfl:=Option.some.inj H;have Id:=Ab.out;have Ie:=Ac.out;obtain ⟨Fp,Fq,Fr,Fs,Ft,Fu,Fv,Fw,Fx,Fy,Fz,Ga,Gb,Gc⟩:=cf7_ Aa;obtain ⟨Gd,Ge,Gf,Gg,Gh,Gi,Gj,Gk,Gl,Gm,Gn,Go,Gp,Gq⟩:=cf7_ Ad
   go_wp2
   go_ret
   exact ⟨er_q,bw_q HB⟩
 ·rw [if_neg c9] at H;have Ao:=bqf c9;have Ap:=bni c9
  (first | rw [Ao] | rw [Ap] | (simp only [i64_w,i32_w];first | rw [Ao] | rw [Ap]) | skip)
  obtain rfl:=Option.some.inj H
  go_wp2
  go_ret
  exact ⟨er_q,bw_q HB⟩

/-! ### laws_markLinkS: function 136 -/
def laws_markLinkS.l0:Nat→List (S93)→Int→Int→Option (Int×(List (S93)))
 | 0,_,_,_=> none
 | k+1,e,g,a=> if a<(e.length:Int) then (if 0≤a then ((some (e.set (a:Int).toNat (⟨g,(rd_T93 e a).f1,(rd_T93 e a).f2,(rd_T93 e a).f3⟩:S93):List (S93))).bind fun b=> ((some (b.set (a:Int).toNat (⟨(rd_T93 b a).f0,wrap64 (g+1),(rd_T93 b a).f2,(rd_T93 b a).f3⟩:S93):List (S93))).bind fun c=> ((some (c.set (a:Int).toNat (⟨(rd_T93 c a).f0,(rd_T93 c a).f1,wrap64 ((wrap64 (g+1))+1),(rd_T93 c a).f3⟩:S93):List (S93))).bind fun d=> (laws_markLinkS.l0 k (d.set (a:Int).toNat (⟨(rd_T93 d a).f0,(rd_T93 d a).f1,(rd_T93 d a).f2,wrap64 ((wrap64 ((wrap64 (g+1))+1))+1)⟩:S93)) (wrap64 ((wrap64 ((wrap64 ((wrap64 (g+1))+1))+1))+1)) (wrap64 (a+1)))))) else (none)) else (some (g,e))
def laws_markLinkS.f (k:Nat) (l0:List (S93)) (a1:Int):Option (Int×(List (S93))):=laws_markLinkS.l0 k l0 a1 0
theorem laws_markLinkS.mono_l:∀k,(∀y0 y1 y2,LeO (laws_markLinkS.l0 k y0 y1 y2) (laws_markLinkS.l0 (k+1) y0 y1 y2))
 | 0=> fun _ _ _ r h=> by simp [laws_markLinkS.l0] at h
 | k+1=> by
  have ih0:=laws_markLinkS.mono_l k
  ·intro y0 y1 y2
   unfold laws_markLinkS.l0
   with_reducible repeat' (first | apply ih0 | exact LeO.refl _ | exact LeO.none _ | refine LeO.ite ?_ ?_ | refine LeO.bind ?_ (fun _=> ?_))
theorem laws_markLinkS.mono:∀a0 a1 k,LeO (laws_markLinkS.f k a0 a1) (laws_markLinkS.f (k+1) a0 a1):=by
 intro a0 a1 k
 have ih0:=laws_markLinkS.mono_l k
 unfold laws_markLinkS.f
 with_reducible repeat' (first | apply ih0 | exact LeO.refl _ | exact LeO.none _ | refine LeO.ite ?_ ?_ | refine LeO.bind ?_ (fun _=> ?_))
set_option maxHeartbeats 8000000 in
set_option maxRecDepth 100000 in
theorem laws_markLinkS.calls (k:Nat) (P0_:Nat→Prop) (u9000_:Value) (l0:List (S93)) (a1:Int) (r1:Int) (r2:List (S93)) (w0 w:World) (hB:Below w0.heap.size w0 w) (ho0:Kd.R k93 93 w w0.heap.size P0_ u9000_ l0) (h:laws_markLinkS.f k l0 a1=some (r1,r2)):
  Calls Try.prog 136 #[u9000_,.int .i64 a1] w fun e w'=> e=.returned (.int .i64 r1)∧Kd.R k93 93 w' w0.heap.size (fun k_=> (P0_ k_∨w.heap.size≤k_)) u9000_ r2∧Below w0.heap.size w0 w'∧Kept w w' (fun k_=> P0_ k_):=by
 have Ax:=ak (show Kd.R k93 93 w w0.heap.size (fun k_=> (P0_ k_∨w.heap.size≤k_)) u9000_ l0 from Kd.R_mono ho0 (fun k_ hk=> (.inl hk)))
 have HK:=ak (Kept.refl w (fun k_=> P0_ k_))
 have HW0:=ak hB.size;have HB:=ak hB;clear hB;have H:=h
 clear h;unfold laws_markLinkS.f at H;have H':=ak H;clear H
 go_enter Try.func136,Try.ntmps136
 go_wp2
 go_loopg [1,5] k (fun kq v1 v5 w'=> ∃(Ab:List (S93)) (Ac:Int) (Aa:Int),v1=.int .i64 Ac∧v5=.int .i64 Aa∧Aside0 (laws_markLinkS.l0 kq Ab Ac Aa=some (r1,r2))∧Aside0 (kq≤k)∧Aside0 (Kd.R k93 93 w' w0.heap.size (fun k_=> (P0_ k_∨w.heap.size≤k_)) u9000_ Ab)∧Aside0 (Kept w w' (fun k_=> P0_ k_))∧Aside0 (Below w0.heap.size w0 w'))
 case atStart=> exact ⟨(l0),(a1),(0),rs_q,rs_q,H',⟨Nat.le_refl _⟩,⟨kR_q Ax⟩,⟨hk_q HK⟩,⟨bw_q HB⟩⟩
 case round=>
  clear H';(try clear c1);(try clear p2);obtain ⟨Ab,Ac,Aa,rfl,rfl,HA,Au,Ad,HK,HB⟩:=hrel
  cases gk with
  | zero=> exact absurd HA.out (by simp [laws_markLinkS.l0])
  | succ k1=>
   have H:=HA.out;clear HA
   simp only [laws_markLinkS.l0] at H
   by_cases c3:Aa<(Ab.length:Int)
   ·rw [if_pos c3] at H;have Aw:=decide_eq_true c3;clear c3
    by_cases c4:0≤Aa
    ·rw [if_pos c4] at H;have Bo:=decide_eq_true c4
     clear c4;obtain ⟨Ag,Ah⟩:∃y_:List (S93),y_=(Ab.set (Aa:Int).toNat (⟨Ac,(rd_T93 Ab Aa).f1,(rd_T93 Ab Aa).f2,(rd_T93 Ab Aa).f3⟩:S93)):=⟨_,rfl⟩
     replace H:((some (Ag.set (Aa:Int).toNat (⟨(rd_T93 Ag Aa).f0,wrap64 (Ac+1),(rd_T93 Ag Aa).f2,(rd_T93 Ag Aa).f3⟩:S93):List (S93))).bind fun Af=> ((some (Af.set (Aa:Int).toNat (⟨(rd_T93 Af Aa).f0,(rd_T93 Af Aa).f1,wrap64 ((wrap64 (Ac+1))+1),(rd_T93 Af Aa).f3⟩:S93):List (S93))).bind fun Ae=> (laws_markLinkS.l0 k1 (Ae.set (Aa:Int).toNat (⟨(rd_T93 Ae Aa).f0,(rd_T93 Ae Aa).f1,(rd_T93 Ae Aa).f2,wrap64 ((wrap64 ((wrap64 (Ac+1))+1))+1)⟩:S93)) (wrap64 ((wrap64 ((wrap64 ((wrap64 (Ac+1))+1))+1))+1)) (wrap64 (Aa+1)))))=some (r1,r2):=by first | (rw [Ah];with_reducible exact H) | (have H2_:=(Option.bind_some _ _).symm.trans H;rw [Ah];with_reducible exact H2_) | (have H2_:=(Option.bind_some _ _).symm.trans H;with_reducible exact H2_) | with_reducible exact H | (rw [Ah];exact H) | exact H
     have Aq:=ak Ah;clear Ah;obtain ⟨Af,Ai⟩:∃y_:List (S93),y_=(Ag.set (Aa:Int).toNat (⟨(rd_T93 Ag Aa).f0,wrap64 (Ac+1),(rd_T93 Ag Aa).f2,(rd_T93 Ag Aa).f3⟩:S93)):=⟨_,rfl⟩
     replace H:((some (Af.set (Aa:Int).toNat (⟨(rd_T93 Af Aa).f0,(rd_T93 Af Aa).f1,wrap64 ((wrap64 (Ac+1))+1),(rd_T93 Af Aa).f3⟩:S93):List (S93))).bind fun Ae=> (laws_markLinkS.l0 k1 (Ae.set (Aa:Int).toNat (⟨(rd_T93 Ae Aa).f0,(rd_T93 Ae Aa).f1,(rd_T93 Ae Aa).f2,wrap64 ((wrap64 ((wrap64 (Ac+1))+1))+1)⟩:S93)) (wrap64 ((wrap64 ((wrap64 ((wrap64 (Ac+1))+1))+1))+1)) (wrap64 (Aa+1))))=some (r1,r2):=by first | (rw [Ai];with_reducible exact H) | (have H2_:=(Option.bind_some _ _).symm.trans H;rw [Ai];with_reducible exact H2_) | (have H2_:=(Option.bind_some _ _).symm.trans H;with_reducible exact H2_) | with_reducible exact H | (rw [Ai];exact H) | exact H
     have Ar:=ak Ai;clear Ai;obtain ⟨Ae,Aj⟩:∃y_:List (S93),y_=(Af.set (Aa:Int).toNat (⟨(rd_T93 Af Aa).f0,(rd_T93 Af Aa).f1,wrap64 ((wrap64 (Ac+1))+1),(rd_T93 Af Aa).f3⟩:S93)):=⟨_,rfl⟩
     replace H:(laws_markLinkS.l0 k1 (Ae.set (Aa:Int).toNat (⟨(rd_T93 Ae Aa).f0,(rd_T93 Ae Aa).f1,(rd_T93 Ae Aa).f2,wrap64 ((wrap64 ((wrap64 (Ac+1))+1))+1)⟩:S93)) (wrap64 ((wrap64 ((wrap64 ((wrap64 (Ac+1))+1))+1))+1)) (wrap64 (Aa+1)))=some (r1,r2):=by first | (rw [Aj];with_reducible exact H) | (have H2_:=(Option.bind_some _ _).symm.trans H;rw [Aj];with_reducible exact H2_) | (have H2_:=(Option.bind_some _ _).symm.trans H;with_reducible exact H2_) | with_reducible exact H | (rw [Aj];exact H) | exact H
     have As:=ak Aj;clear Aj;obtain ⟨Al,Ak⟩:∃y_:List (S93),y_=(Ae.set (Aa:Int).toNat (⟨(rd_T93 Ae Aa).f0,(rd_T93 Ae Aa).f1,(rd_T93 Ae Aa).f2,wrap64 ((wrap64 ((wrap64 (Ac+1))+1))+1)⟩:S93)):=⟨_,rfl⟩
     replace H:(laws_markLinkS.l0 k1 Al (wrap64 ((wrap64 ((wrap64 ((wrap64 (Ac+1))+1))+1))+1)) (wrap64 (Aa+1)))=some (r1,r2):=by first | (rw [Ak];with_reducible exact H) | (have H2_:=(Option.bind_some _ _).symm.trans H;rw [Ak];with_reducible exact H2_) | (have H2_:=(Option.bind_some _ _).symm.trans H;with_reducible exact H2_) | with_reducible exact H | (rw [Ak];exact H) | exact H
     have At:=ak Ak;clear Ak;have H':=ak H;clear H;obtain ⟨Ao9,co9,eo9⟩:=Kd.R_slice Ad.out;subst eo9
     have p5:0≤(Aa:Int):=of_decide_eq_true as_q
     have q5:(Aa:Int)<((Ab.length:Int):Int):=of_decide_eq_true as_q
     obtain ⟨go5,co5,eo5,Av,gl5,cl5,HG5⟩:=Kd.R_form Ad.out (by omega)
     (first | cases eo5 | (injection eo5 with ea_ en_ ec_;(first | subst ea_ | (injection ea_ with ea_;subst ea_));subst ec_;clear en_))
     have GB5:=ak Av;have GG5:=ak HG5;clear Av gl5 HG5
     have HMgo5:=ak (show (P0_ go5∨w.heap.size≤go5) from (Ad.out.1 _ rfl))
     obtain ⟨ce5,hcl5,hM5,hcc5,hfr5⟩:=Kd.R_elem Ad.out z93 (Aa:Int) p5 q5;obtain rfl:=k93_openM hM5
     have Ay:wr.cell? ⟨go5,(Aa:Int).toNat*4,none⟩=some (.int .i64 ((rd_T93 Ab Aa).f0)):=hcc5 0 _ rfl
     have Az:wr.cell? ⟨go5,(Aa:Int).toNat*4+1,none⟩=some (.int .i64 ((rd_T93 Ab Aa).f1)):=hcc5 1 _ rfl
     have Ba:wr.cell? ⟨go5,(Aa:Int).toNat*4+2,none⟩=some (.int .i64 ((rd_T93 Ab Aa).f2)):=hcc5 2 _ rfl
     have Bb:wr.cell? ⟨go5,(Aa:Int).toNat*4+3,none⟩=some (.int .i64 ((rd_T93 Ab Aa).f3)):=hcc5 3 _ rfl
     have hf5_0:wr.frozen? ⟨go5,(Aa:Int).toNat*4,none⟩=false:=hfr5 0
     have hf5_1:wr.frozen? ⟨go5,(Aa:Int).toNat*4+1,none⟩=false:=hfr5 1
     have hf5_2:wr.frozen? ⟨go5,(Aa:Int).toNat*4+2,none⟩=false:=hfr5 2
     have hf5_3:wr.frozen? ⟨go5,(Aa:Int).toNat*4+3,none⟩=false:=hfr5 3
     clear hcl5 hcc5 hfr5 hM5;replace p5:=eq_true p5;replace q5:=eq_true q5
     have HX10:=ak (show Kd.R k93 93 wr w0.heap.size (fun k_=> (P0_ k_∨w.heap.size≤k_)) (.slice (some ⟨go5,0,none⟩) Ab.length co9) Ab from (kR_q Ad))
     obtain ⟨ce10,hcl10,hM10,hcc10,hfr10⟩:=Kd.R_elem HX10.out z93 (Aa:Int) (of_decide_eq_true as_q) (by have h_:(Aa:Int)<((Ab.length:Int):Int):=of_decide_eq_true as_q;first | exact h_ | (have e_:=(Kd.R_reads' Ad.out).1;omega) | simpa using h_)
     obtain rfl:=k93_openM hM10
     have HP10:=Kd.R_seg HX10.out (Aa:Int) (of_decide_eq_true as_q) (by have h_:(Aa:Int)<((Ab.length:Int):Int):=of_decide_eq_true as_q;first | exact h_ | (have e_:=(Kd.R_reads' Ad.out).1;omega) | simpa using h_) (seg:=[.int .i64 Ac]) (j:=0) hcl10 hcc10 (show 1≤4 from by decide) (x':=(⟨Ac,(rd_T93 Ab Aa).f1,(rd_T93 Ab Aa).f2,(rd_T93 Ab Aa).f3⟩:S93)) (k93_mkM _ _ _ (⟨Ac,(rd_T93 Ab Aa).f1,(rd_T93 Ab Aa).f2,(rd_T93 Ab Aa).f3⟩:S93)) (fun _ hk=> hk)
     have Am:=hcc10 0 _ rfl
     (try simp only [show (k93).sz=4 from rfl,Nat.mul_one,Nat.add_zero] at Am)
     have hf10_0:=hfr10 0
     (try simp only [show (k93).sz=4 from rfl,Nat.mul_one,Nat.add_zero] at hf10_0)
     clear hcl10 hcc10 hfr10 hM10
     go_wp2_with (first | ((with_reducible refine gate_store (t:=3) (p:=16) rfl ?_);refine store_event (t:=3) (p:=16) (v:=?vo_w11) (w1:=(wr.setCell ⟨go5,(Aa:Int).toNat*4,none⟩ (.int .i64 Ac))) ?hg ?ho ?hn ?hr ?_;(case ho=> rfl);(case hg=> rfl);(case hn=> rfl);(case hr=> first | (go_simp;done) | (go_simp;rfl));intro w11 hw;have hg:wr.grownBy w11 (some go5):=(by rw [hw];exact HP10.2);have hp_:Kd.R k93 93 w11 w0.heap.size (fun k_=> (P0_ k_∨w.heap.size≤k_)) (.slice (some ⟨go5,0,none⟩) Ab.length co9) Ag:=(by rw [hw,Aq.out];exact HP10.1);clear HP10;replace HB:=ak ((by rw [hw];exact below_set (HB.out) GB5.out:Below w0.heap.size w0 w11));replace HK:=ak (Kept.of_grown (S:=(fun k_=> P0_ k_)) hg (hk_q HK) (fun k_ e_=> (Ad.out.1 k_ e_)));replace Ad:=ak (hp_);clear hg hw hp_;have p6:0≤(Aa:Int):=of_decide_eq_true as_q;have q6:(Aa:Int)<((Ab.length:Int):Int):=of_decide_eq_true as_q;obtain ⟨ce6,hcl6,hM6,hcc6,hfr6⟩:=Kd.R_elem Ad.out z93 (Aa:Int) p6 q6;obtain rfl:=k93_openM hM6;have Bc:w11.cell? ⟨go5,(Aa:Int).toNat*4,none⟩=some (.int .i64 ((rd_T93 Ag Aa).f0)):=hcc6 0 _ rfl;have Bd:w11.cell? ⟨go5,(Aa:Int).toNat*4+1,none⟩=some (.int .i64 ((rd_T93 Ag Aa).f1)):=hcc6 1 _ rfl;have Be:w11.cell? ⟨go5,(Aa:Int).toNat*4+2,none⟩=some (.int .i64 ((rd_T93 Ag Aa).f2)):=hcc6 2 _ rfl;have Bf:w11.cell? ⟨go5,(Aa:Int).toNat*4+3,none⟩=some (.int .i64 ((rd_T93 Ag Aa).f3)):=hcc6 3 _ rfl;have hf6_0:w11.frozen? ⟨go5,(Aa:Int).toNat*4,none⟩=false:=hfr6 0;have hf6_1:w11.frozen? ⟨go5,(Aa:Int).toNat*4+1,none⟩=false:=hfr6 1;have hf6_2:w11.frozen? ⟨go5,(Aa:Int).toNat*4+2,none⟩=false:=hfr6 2;have hf6_3:w11.frozen? ⟨go5,(Aa:Int).toNat*4+3,none⟩=false:=hfr6 3;clear hcl6 hcc6 hfr6 hM6;replace p6:=eq_true p6;replace q6:=eq_true q6;have HX12:=ak (show Kd.R k93 93 w11 w0.heap.size (fun k_=> (P0_ k_∨w.heap.size≤k_)) (.slice (some ⟨go5,0,none⟩) Ab.length co9) Ag from (kR_q Ad));obtain ⟨ce12,hcl12,hM12,hcc12,hfr12⟩:=Kd.R_elem HX12.out z93 (Aa:Int) (of_decide_eq_true as_q) (by have h_:(Aa:Int)<((Ab.length:Int):Int):=of_decide_eq_true as_q;first | exact h_ | (have e_:=(Kd.R_reads' Ad.out).1;omega) | simpa using h_);obtain rfl:=k93_openM hM12;have HP12:=Kd.R_seg HX12.out (Aa:Int) (of_decide_eq_true as_q) (by have h_:(Aa:Int)<((Ab.length:Int):Int):=of_decide_eq_true as_q;first | exact h_ | (have e_:=(Kd.R_reads' Ad.out).1;omega) | simpa using h_) (seg:=[.int .i64 (wrap64 (Ac+1))]) (j:=1) hcl12 hcc12 (show 2≤4 from by decide) (x':=(⟨(rd_T93 Ag Aa).f0,wrap64 (Ac+1),(rd_T93 Ag Aa).f2,(rd_T93 Ag Aa).f3⟩:S93)) (k93_mkM _ _ _ (⟨(rd_T93 Ag Aa).f0,wrap64 (Ac+1),(rd_T93 Ag Aa).f2,(rd_T93 Ag Aa).f3⟩:S93)) (fun _ hk=> hk);have An:=hcc12 1 _ rfl;(try simp only [show (k93).sz=4 from rfl,Nat.mul_one,Nat.add_zero] at An);have hf12_1:=hfr12 1;(try simp only [show (k93).sz=4 from rfl,Nat.mul_one,Nat.add_zero] at hf12_1);clear hcl12 hcc12 hfr12 hM12) | ((with_reducible refine gate_store (t:=3) (p:=23) rfl ?_);refine store_event (t:=3) (p:=23) (v:=?vo_w13) (w1:=(w11.setCell ⟨go5,(Aa:Int).toNat*4+1,none⟩ (.int .i64 (wrap64 (Ac+1))))) ?hg ?ho ?hn ?hr ?_;(case ho=> rfl);(case hg=> rfl);(case hn=> rfl);(case hr=> first | (go_simp;done) | (go_simp;rfl));intro w13 hw;have hg:w11.grownBy w13 (some go5):=(by rw [hw];exact HP12.2);have hp_:Kd.R k93 93 w13 w0.heap.size (fun k_=> (P0_ k_∨w.heap.size≤k_)) (.slice (some ⟨go5,0,none⟩) Ab.length co9) Af:=(by rw [hw,Ar.out];exact HP12.1);clear HP12;replace HB:=ak ((by rw [hw];exact below_set (HB.out) GB5.out:Below w0.heap.size w0 w13));replace HK:=ak (Kept.of_grown (S:=(fun k_=> P0_ k_)) hg (hk_q HK) (fun k_ e_=> (Ad.out.1 k_ e_)));replace Ad:=ak (hp_);clear hg hw hp_;have p7:0≤(Aa:Int):=of_decide_eq_true as_q;have q7:(Aa:Int)<((Ab.length:Int):Int):=of_decide_eq_true as_q;obtain ⟨ce7,hcl7,hM7,hcc7,hfr7⟩:=Kd.R_elem Ad.out z93 (Aa:Int) p7 q7;obtain rfl:=k93_openM hM7;have Bg:w13.cell? ⟨go5,(Aa:Int).toNat*4,none⟩=some (.int .i64 ((rd_T93 Af Aa).f0)):=hcc7 0 _ rfl;have Bh:w13.cell? ⟨go5,(Aa:Int).toNat*4+1,none⟩=some (.int .i64 ((rd_T93 Af Aa).f1)):=hcc7 1 _ rfl;have Bi:w13.cell? ⟨go5,(Aa:Int).toNat*4+2,none⟩=some (.int .i64 ((rd_T93 Af Aa).f2)):=hcc7 2 _ rfl;have Bj:w13.cell? ⟨go5,(Aa:Int).toNat*4+3,none⟩=some (.int .i64 ((rd_T93 Af Aa).f3)):=hcc7 3 _ rfl;have hf7_0:w13.frozen? ⟨go5,(Aa:Int).toNat*4,none⟩=false:=hfr7 0;have hf7_1:w13.frozen? ⟨go5,(Aa:Int).toNat*4+1,none⟩=false:=hfr7 1;have hf7_2:w13.frozen? ⟨go5,(Aa:Int).toNat*4+2,none⟩=false:=hfr7 2;have hf7_3:w13.frozen? ⟨go5,(Aa:Int).toNat*4+3,none⟩=false:=hfr7 3;clear hcl7 hcc7 hfr7 hM7;replace p7:=eq_true p7;replace q7:=eq_true q7;have HX14:=ak (show Kd.R k93 93 w13 w0.heap.size (fun k_=> (P0_ k_∨w.heap.size≤k_)) (.slice (some ⟨go5,0,none⟩) Ab.length co9) Af from (kR_q Ad));obtain ⟨ce14,hcl14,hM14,hcc14,hfr14⟩:=Kd.R_elem HX14.out z93 (Aa:Int) (of_decide_eq_true as_q) (by have h_:(Aa:Int)<((Ab.length:Int):Int):=of_decide_eq_true as_q;first | exact h_ | (have e_:=(Kd.R_reads' Ad.out).1;omega) | simpa using h_);obtain rfl:=k93_openM hM14;have HP14:=Kd.R_seg HX14.out (Aa:Int) (of_decide_eq_true as_q) (by have h_:(Aa:Int)<((Ab.length:Int):Int):=of_decide_eq_true as_q;first | exact h_ | (have e_:=(Kd.R_reads' Ad.out).1;omega) | simpa using h_) (seg:=[.int .i64 (wrap64 ((wrap64 (Ac+1))+1))]) (j:=2) hcl14 hcc14 (show 3≤4 from by decide) (x':=(⟨(rd_T93 Af Aa).f0,(rd_T93 Af Aa).f1,wrap64 ((wrap64 (Ac+1))+1),(rd_T93 Af Aa).f3⟩:S93)) (k93_mkM _ _ _ (⟨(rd_T93 Af Aa).f0,(rd_T93 Af Aa).f1,wrap64 ((wrap64 (Ac+1))+1),(rd_T93 Af Aa).f3⟩:S93)) (fun _ hk=> hk);have Ao:=hcc14 2 _ rfl;(try simp only [show (k93).sz=4 from rfl,Nat.mul_one,Nat.add_zero] at Ao);have hf14_2:=hfr14 2;(try simp only [show (k93).sz=4 from rfl,Nat.mul_one,Nat.add_zero] at hf14_2);clear hcl14 hcc14 hfr14 hM14) | ((with_reducible refine gate_store (t:=3) (p:=30) rfl ?_);refine store_event (t:=3) (p:=30) (v:=?vo_w15) (w1:=(w13.setCell ⟨go5,(Aa:Int).toNat*4+2,none⟩ (.int .i64 (wrap64 ((wrap64 (Ac+1))+1))))) ?hg ?ho ?hn ?hr ?_;(case ho=> rfl);(case hg=> rfl);(case hn=> rfl);(case hr=> first | (go_simp;done) | (go_simp;rfl));intro w15 hw;have hg:w13.grownBy w15 (some go5):=(by rw [hw];exact HP14.2);have hp_:Kd.R k93 93 w15 w0.heap.size (fun k_=> (P0_ k_∨w.heap.size≤k_)) (.slice (some ⟨go5,0,none⟩) Ab.length co9) Ae:=(by rw [hw,As.out];exact HP14.1);clear HP14;replace HB:=ak ((by rw [hw];exact below_set (HB.out) GB5.out:Below w0.heap.size w0 w15));replace HK:=ak (Kept.of_grown (S:=(fun k_=> P0_ k_)) hg (hk_q HK) (fun k_ e_=> (Ad.out.1 k_ e_)));replace Ad:=ak (hp_);clear hg hw hp_;have p8:0≤(Aa:Int):=of_decide_eq_true as_q;have q8:(Aa:Int)<((Ab.length:Int):Int):=of_decide_eq_true as_q;obtain ⟨ce8,hcl8,hM8,hcc8,hfr8⟩:=Kd.R_elem Ad.out z93 (Aa:Int) p8 q8;obtain rfl:=k93_openM hM8;have Bk:w15.cell? ⟨go5,(Aa:Int).toNat*4,none⟩=some (.int .i64 ((rd_T93 Ae Aa).f0)):=hcc8 0 _ rfl;have Bl:w15.cell? ⟨go5,(Aa:Int).toNat*4+1,none⟩=some (.int .i64 ((rd_T93 Ae Aa).f1)):=hcc8 1 _ rfl;have Bm:w15.cell? ⟨go5,(Aa:Int).toNat*4+2,none⟩=some (.int .i64 ((rd_T93 Ae Aa).f2)):=hcc8 2 _ rfl;have Bn:w15.cell? ⟨go5,(Aa:Int).toNat*4+3,none⟩=some (.int .i64 ((rd_T93 Ae Aa).f3)):=hcc8 3 _ rfl;have hf8_0:w15.frozen? ⟨go5,(Aa:Int).toNat*4,none⟩=false:=hfr8 0;have hf8_1:w15.frozen? ⟨go5,(Aa:Int).toNat*4+1,none⟩=false:=hfr8 1;have hf8_2:w15.frozen? ⟨go5,(Aa:Int).toNat*4+2,none⟩=false:=hfr8 2;have hf8_3:w15.frozen? ⟨go5,(Aa:Int).toNat*4+3,none⟩=false:=hfr8 3;clear hcl8 hcc8 hfr8 hM8;replace p8:=eq_true p8;replace q8:=eq_true q8;have HX16:=ak (show Kd.R k93 93 w15 w0.heap.size (fun k_=> (P0_ k_∨w.heap.size≤k_)) (.slice (some ⟨go5,0,none⟩) Ab.length co9) Ae from (kR_q Ad));obtain ⟨ce16,hcl16,hM16,hcc16,hfr16⟩:=Kd.R_elem HX16.out z93 (Aa:Int) (of_decide_eq_true as_q) (by have h_:(Aa:Int)<((Ab.length:Int):Int):=of_decide_eq_true as_q;first | exact h_ | (have e_:=(Kd.R_reads' Ad.out).1;omega) | simpa using h_);obtain rfl:=k93_openM hM16;have HP16:=Kd.R_seg HX16.out (Aa:Int) (of_decide_eq_true as_q) (by have h_:(Aa:Int)<((Ab.length:Int):Int):=of_decide_eq_true as_q;first | exact h_ | (have e_:=(Kd.R_reads' Ad.out).1;omega) | simpa using h_) (seg:=[.int .i64 (wrap64 ((wrap64 ((wrap64 (Ac+1))+1))+1))]) (j:=3) hcl16 hcc16 (show 4≤4 from by decide) (x':=(⟨(rd_T93 Ae Aa).f0,(rd_T93 Ae Aa).f1,(rd_T93 Ae Aa).f2,wrap64 ((wrap64 ((wrap64 (Ac+1))+1))+1)⟩:S93)) (k93_mkM _ _ _ (⟨(rd_T93 Ae Aa).f0,(rd_T93 Ae Aa).f1,(rd_T93 Ae Aa).f2,wrap64 ((wrap64 ((wrap64 (Ac+1))+1))+1)⟩:S93)) (fun _ hk=> hk);have Ap:=hcc16 3 _ rfl;(try simp only [show (k93).sz=4 from rfl,Nat.mul_one,Nat.add_zero] at Ap);have hf16_3:=hfr16 3;(try simp only [show (k93).sz=4 from rfl,Nat.mul_one,Nat.add_zero] at hf16_3);clear hcl16 hcc16 hfr16 hM16) | ((with_reducible refine gate_store (t:=3) (p:=37) rfl ?_);refine store_event (t:=3) (p:=37) (v:=?vo_w17) (w1:=(w15.setCell ⟨go5,(Aa:Int).toNat*4+3,none⟩ (.int .i64 (wrap64 ((wrap64 ((wrap64 (Ac+1))+1))+1))))) ?hg ?ho ?hn ?hr ?_;(case ho=> rfl);(case hg=> rfl);(case hn=> rfl);(case hr=> first | (go_simp;done) | (go_simp;rfl));intro w17 hw;have hg:w15.grownBy w17 (some go5):=(by rw [hw];exact HP16.2);have hp_:Kd.R k93 93 w17 w0.heap.size (fun k_=> (P0_ k_∨w.heap.size≤k_)) (.slice (some ⟨go5,0,none⟩) Ab.length co9) Al:=(by rw [hw,At.out];exact HP16.1);clear HP16;replace HB:=ak ((by rw [hw];exact below_set (HB.out) GB5.out:Below w0.heap.size w0 w17));replace HK:=ak (Kept.of_grown (S:=(fun k_=> P0_ k_)) hg (hk_q HK) (fun k_ e_=> (Ad.out.1 k_ e_)));replace Ad:=ak (hp_);clear hg hw hp_))
     go_roundg k1
     case measure=> have:=Au.out;omega
     case rel=> exact ⟨(Al),(wrap64 ((wrap64 ((wrap64 ((wrap64 (Ac+1))+1))+1))+1)),(wrap64 (Aa+1)),rs_q,rs_q,H',⟨by have:=Au.out;omega⟩,⟨kR_q Ad⟩,⟨hk_q HK⟩,⟨bw_q HB⟩⟩
    ·rw [if_neg c4] at H
     exact absurd H (by simp)
   ·rw [if_neg c3] at H;have Aw:=decide_eq_false c3;clear c3
    simp only [Option.some.injEq,Prod.mk.injEq] at H
    obtain ⟨rfl,rfl⟩:=H;obtain ⟨Ao18,co18,eo18⟩:=Kd.R_slice Ad.out;subst eo18
    go_wp2
    go_ret
    exact ⟨er_q,kR_q Ad,bw_q HB,hk_q HK⟩

end Go.Proofs.Ythjmdiggglkeaaa.Q
