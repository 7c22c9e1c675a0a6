import Derived.Test.YthjmdiggglkeaaaXLearnQlawsszRecordS
import Derived.Test.YthjmdiggglkeaaaXLearnQimplRecordOk
import Derived.Test.YthjmdiggglkeaaaXLearnQimplcopyRecord
import Derived.Test.YthjmdiggglkeaaaXLearnQimplkeyAt
import Derived.Test.YthjmdiggglkeaaaXLearnQimplput
/- The contract of a Go function. -/





namespace Go.Proofs.Ythjmdiggglkeaaa.Q
open Go.RowKit Go.Proofs.YthjmdiggglkeaaaW.PrintWords Go.Proofs.YthjmdiggglkeaaaW.PrintLast Go.Proofs.YthjmdiggglkeaaaW.PrintMore
attribute [local go_sem] max2_int min2_int max_two min_two max_three min_three max_four min_four   -- for this text's walks alone
set_option linter.unusedVariables false
set_option linter.unusedSimpArgs false

/-! ### impl_Install: function 42 -/
def impl_Install.j0:Nat→List (S61)→Bool→Int→Int→Int→Int→Int→List (S127)→Int→Bool→Option ((List (S61))×Bool)
 | 0,_,_,_,_,_,_,_,_,_,_=> none
 | k+1,l,q,b,c,d,e,a,g,h,i=> if q=true then (some (([]:List (S61)),false)) else ((impl_keyAt.f k l b c d e a g h i).bind fun j=> (if j≥0 then (if 0≤j then (if j<(l.length:Int) then (if ((rd_T61 l j).f4)≥a then (some (([]:List (S61)),false)) else (if j<0 then (if (l.length:Int)≥150 then (some (([]:List (S61)),false)) else ((impl_put.f k l b c d e a g h i).bind fun m=> (some (m,true)))) else ((impl_put.f k l b c d e a g h i).bind fun n=> (some (n,true))))) else (none)) else (none)) else (if j<0 then (if (l.length:Int)≥150 then (some (([]:List (S61)),false)) else ((impl_put.f k l b c d e a g h i).bind fun o=> (some (o,true)))) else ((impl_put.f k l b c d e a g h i).bind fun p=> (some (p,true))))))
def impl_Install.f (k:Nat) (l0:List (S61)) (a:Int) (b:Int) (c:Int) (d:Int) (e:Int) (g:List (S127)) (h:Int) (i:Bool):Option ((List (S61))×Bool):=(impl_StoreOk.f k l0).bind fun j=> (if j=true then ((impl_RecordOk.f k a b c d e g h i).bind fun l=> (impl_Install.j0 k l0 (!l) a b c d e g h i)) else (impl_Install.j0 k l0 true a b c d e g h i))
theorem impl_Install.mono_l:∀k,(∀y0 y1 y2 y3 y4 y5 y6 y7 y8 y9,LeO (impl_Install.j0 k y0 y1 y2 y3 y4 y5 y6 y7 y8 y9) (impl_Install.j0 (k+1) y0 y1 y2 y3 y4 y5 y6 y7 y8 y9))
 | 0=> fun _ _ _ _ _ _ _ _ _ _ r h=> by simp [impl_Install.j0] at h
 | k+1=> by
  have ih0:=impl_Install.mono_l k
  ·intro y0 y1 y2 y3 y4 y5 y6 y7 y8 y9
   unfold impl_Install.j0
   with_reducible repeat' (first | apply ih0 | apply impl_RecordOk.mono | apply impl_StoreOk.mono | apply impl_keyAt.mono | apply impl_put.mono | exact LeO.refl _ | exact LeO.none _ | refine LeO.ite ?_ ?_ | refine LeO.bind ?_ (fun _=> ?_))
theorem impl_Install.mono:∀a0 a1 a2 a3 a4 a5 a6 a7 a8 k,LeO (impl_Install.f k a0 a1 a2 a3 a4 a5 a6 a7 a8) (impl_Install.f (k+1) a0 a1 a2 a3 a4 a5 a6 a7 a8):=by
 intro a0 a1 a2 a3 a4 a5 a6 a7 a8 k
 have ih0:=impl_Install.mono_l k
 unfold impl_Install.f
 with_reducible repeat' (first | apply ih0 | apply impl_RecordOk.mono | apply impl_StoreOk.mono | apply impl_keyAt.mono | apply impl_put.mono | exact LeO.refl _ | exact LeO.none _ | refine LeO.ite ?_ ?_ | refine LeO.bind ?_ (fun _=> ?_))
set_option maxHeartbeats 8000000 in
set_option maxRecDepth 100000 in
theorem impl_Install.calls (k:Nat) (A0:Option Addr) (c0:Nat) (l0:List (S61)) (Al:Int) (Am:Int) (An:Int) (Ao:Int) (Ac:Int) (Aw:Option Addr) (Ax:Nat) (Ab:List (S127)) (Ap:Int) (Aq:Bool) (r1:List (S61)) (r2:Bool) (w:World) (hr0:Kd.C k61 w A0 l0.length l0) (hc0:l0.length≤c0) (hr1_5:Kd.C k127 w Aw Ab.length Ab) (hc1_5:Ab.length≤Ax) (h:impl_Install.f k l0 Al Am An Ao Ac Ab Ap Aq=some (r1,r2)):
  Calls Try.prog 42 #[.slice A0 l0.length c0,.agg #[.int .i64 Al,.int .i64 Am,.int .i64 An,.int .i64 Ao,.int .i64 Ac,.slice Aw Ab.length Ax,.int .i64 Ap,.bool Aq]] w fun e w'=> ∃v0_:Value,e=.returned (.tuple #[v0_,.bool r2])∧Kd.S k61 61 w' w.heap.size (fun _=> True) v0_ r1∧Below w.heap.size w w':=by
 have hu61:=Try.underlying61;have HR0:=ak hr0;have Au:=ak hc0;clear hr0 hc0;have As:=ak hr1_5;have At:=ak hc1_5;clear hr1_5 hc1_5;have HB:=ak (Below.refl w.heap.size w);have H:=h
 clear h;unfold impl_Install.f at H;have Ec:=ak H;clear H
 go_enter Try.func42,Try.ntmps42
 go_upto_region 1 with (first | ((with_reducible refine gate_dst (N:=3) rfl ?_);(try (refine gate_guard (by rfl) ?_;dsimp only));refine box_q 3 #[.int .i64 Al,.int .i64 Am,.int .i64 An,.int .i64 Ao,.int .i64 Ac,.slice Aw Ab.length Ax,.int .i64 Ap,.bool Aq] 61 ?_;intro Av hg w4 hbox hb;have Aa:=ak (hbox);have Eb:=gs_ HB hg;replace HB:=hB_ HB hb;clear hb hbox hg))
 repeat (go_quiet (first | ((with_reducible refine gate_dst (N:=3) rfl ?_);(try (refine gate_guard (by rfl) ?_;dsimp only));refine box_q 3 #[.int .i64 Al,.int .i64 Am,.int .i64 An,.int .i64 Ao,.int .i64 Ac,.slice Aw Ab.length Ax,.int .i64 Ap,.bool Aq] 61 ?_;intro Av hg w4 hbox hb;have Aa:=ak (hbox);have Eb:=gs_ HB hg;replace HB:=hB_ HB hb;clear hb hbox hg));go_upto_region 1 with (first | ((with_reducible refine gate_dst (N:=3) rfl ?_);(try (refine gate_guard (by rfl) ?_;dsimp only));refine box_q 3 #[.int .i64 Al,.int .i64 Am,.int .i64 An,.int .i64 Ao,.int .i64 Ac,.slice Aw Ab.length Ax,.int .i64 Ap,.bool Aq] 61 ?_;intro Av hg w4 hbox hb;have Aa:=ak (hbox);have Eb:=gs_ HB hg;replace HB:=hB_ HB hb;clear hb hbox hg)))
 (try simp only [Act.put,List.setIfInBounds_toArray,List.set_cons_zero,List.set_cons_succ])
 go_cut [14] (fun v14 wc=> ∃(kq:Nat) (Bf:Bool),v14=.bool Bf∧Aside0 (impl_Install.j0 kq l0 Bf Al Am An Ao Ac Ab Ap Aq=some (r1,r2))∧Aside0 (kq≤k)∧Aside0 (wc.heap[Av]? =some (.cells #[.int .i64 Al,.int .i64 Am,.int .i64 An,.int .i64 Ao,.int .i64 Ac,(.slice Aw Ab.length Ax),.int .i64 Ap,.bool Aq] 61 (0,0)))∧Aside0 (Below w.heap.size w wc))
 case first=>
  have H:=Ec.out;clear Ec;replace H:=bsi H;obtain ⟨El,A50,H⟩:=H
  (try dsimp only at H)
  have A5:=ak A50;clear A50
  by_cases c6:El=true
  ·subst c6;rw [if_pos rfl] at H;replace H:=bsi H;obtain ⟨Ds,A70,H⟩:=H
   (try dsimp only at H)
   have A7:=ak A70;clear A70;have H':=ak H;clear H
   go_wp2_with (first | (go_at_call 50;(with_reducible refine (impl_StoreOk.calls k _ _ l0 true _ ?_ ?_ A5.out).mono ?_);exact ch_ HR0 HB;exact Au.out;rintro e w8 ⟨rfl,hb⟩;replace Aa:=bb_ Aa hb;replace HB:=hB_ HB hb;obtain ⟨Bg,Bh,Bi,Bj,Bk,Bl,Bm,Bn,Bo,Bp,Bq,Br,Bs,Bt,Bu,Bv⟩:=cf8_ Aa) | (go_at_call 110;(with_reducible refine (impl_RecordOk.calls k Al Am An Ao Ac _ _ Ab Ap Aq Ds _ ?_ ?_ A7.out).mono ?_);exact ch_ As HB;exact At.out;rintro e w10 ⟨rfl,hb⟩;replace Aa:=bb_ Aa hb;replace HB:=hB_ HB hb))
   repeat (go_quiet (first | (go_at_call 50;(with_reducible refine (impl_StoreOk.calls k _ _ l0 true _ ?_ ?_ A5.out).mono ?_);exact ch_ HR0 HB;exact Au.out;rintro e w8 ⟨rfl,hb⟩;replace Aa:=bb_ Aa hb;replace HB:=hB_ HB hb;obtain ⟨Bg,Bh,Bi,Bj,Bk,Bl,Bm,Bn,Bo,Bp,Bq,Br,Bs,Bt,Bu,Bv⟩:=cf8_ Aa) | (go_at_call 110;(with_reducible refine (impl_RecordOk.calls k Al Am An Ao Ac _ _ Ab Ap Aq Ds _ ?_ ?_ A7.out).mono ?_);exact ch_ As HB;exact At.out;rintro e w10 ⟨rfl,hb⟩;replace Aa:=bb_ Aa hb;replace HB:=hB_ HB hb));try go_wp2_with (first | (go_at_call 50;(with_reducible refine (impl_StoreOk.calls k _ _ l0 true _ ?_ ?_ A5.out).mono ?_);exact ch_ HR0 HB;exact Au.out;rintro e w8 ⟨rfl,hb⟩;replace Aa:=bb_ Aa hb;replace HB:=hB_ HB hb;obtain ⟨Bg,Bh,Bi,Bj,Bk,Bl,Bm,Bn,Bo,Bp,Bq,Br,Bs,Bt,Bu,Bv⟩:=cf8_ Aa) | (go_at_call 110;(with_reducible refine (impl_RecordOk.calls k Al Am An Ao Ac _ _ Ab Ap Aq Ds _ ?_ ?_ A7.out).mono ?_);exact ch_ As HB;exact At.out;rintro e w10 ⟨rfl,hb⟩;replace Aa:=bb_ Aa hb;replace HB:=hB_ HB hb)))
   go_meet
   case rel=> exact ⟨_,(!Ds),rs_q,H',⟨by first | omega | exact Nat.le_refl _⟩,⟨bk_q Aa⟩,⟨bw_q HB⟩⟩
  ·replace c6:=Bool.eq_false_iff.mpr c6;subst c6
   rw [if_neg (show ¬(false=true) by decide)] at H
   have H':=ak H;clear H
   go_wp2_with (first | (go_at_call 50;(with_reducible refine (impl_StoreOk.calls k _ _ l0 false _ ?_ ?_ A5.out).mono ?_);exact ch_ HR0 HB;exact Au.out;rintro e w11 ⟨rfl,hb⟩;replace Aa:=bb_ Aa hb;replace HB:=hB_ HB hb))
   repeat (go_quiet (first | (go_at_call 50;(with_reducible refine (impl_StoreOk.calls k _ _ l0 false _ ?_ ?_ A5.out).mono ?_);exact ch_ HR0 HB;exact Au.out;rintro e w11 ⟨rfl,hb⟩;replace Aa:=bb_ Aa hb;replace HB:=hB_ HB hb));try go_wp2_with (first | (go_at_call 50;(with_reducible refine (impl_StoreOk.calls k _ _ l0 false _ ?_ ?_ A5.out).mono ?_);exact ch_ HR0 HB;exact Au.out;rintro e w11 ⟨rfl,hb⟩;replace Aa:=bb_ Aa hb;replace HB:=hB_ HB hb)))
   go_meet
   case rel=> exact ⟨_,(true),rs_q,H',⟨by first | omega | exact Nat.le_refl _⟩,⟨bk_q Aa⟩,⟨bw_q HB⟩⟩
 case rest=>
  clear Ec;(try clear c1);(try clear p2);(try clear c4);(try clear c6)
  try clear Bg Bh Bi Bj Bk Bl Bm Bn
  try clear Bo Bp Bq Br Bs Bt Bu Bv
  obtain ⟨kq,Bf,rfl,HA,HJ2,Aa,HB⟩:=hcut
  cases kq with
  | zero=> exact absurd HA.out (by simp [impl_Install.j0])
  | succ kj2=>
   have H:=HA.out;clear HA
   simp only [impl_Install.j0] at H
   by_cases c12:Bf=true
   ·subst c12;rw [if_pos rfl] at H
    simp only [Option.some.injEq,Prod.mk.injEq] at H
    obtain ⟨rfl,rfl⟩:=H
    go_wp2
    repeat (go_quiet (fail);try go_wp2)
    go_ret2
    exact ⟨_,er_q,by first | exact Kd.S_nil _ _ _ _ _ | exact Kd.N_nil _ _ _ _ _ | exact Kd.V_nil _ _ _ _ _ | exact Kd.Q_nil _ _ _ _ _ | exact Kd.R_nil _ _ _ _ _,bw_q HB⟩
   ·replace c12:=Bool.eq_false_iff.mpr c12;subst c12
    rw [if_neg (show ¬(false=true) by decide)] at H
    replace H:=bsi H;obtain ⟨Ar,A130,H⟩:=H
    (try dsimp only at H)
    have A13:=ak A130;clear A130
    by_cases c14:Ar≥0
    ·rw [if_pos c14] at H;have Eh:=decide_eq_true c14;clear c14
     by_cases c15:0≤Ar
     ·rw [if_pos c15] at H;have Ka:=decide_eq_true c15;clear c15
      by_cases c16:Ar<(l0.length:Int)
      ·rw [if_pos c16] at H;have Kb:=decide_eq_true c16;clear c16
       by_cases c17:((rd_T61 l0 Ar).f4)≥Ac
       ·rw [if_pos c17] at H;have Ei:=decide_eq_true c17;clear c17
        simp only [Option.some.injEq,Prod.mk.injEq] at H
        obtain ⟨rfl,rfl⟩:=H;obtain ⟨Em,En,Eo,Ep,Eq,Er,Es,Et,Eu,Ev,Ew,Ex,Ey,Ez,Fa,Fb⟩:=cf8_ Aa
        go_wp2_with (first | (go_at_call 107;(with_reducible refine (impl_keyAt.calls kj2 _ _ l0 Al Am An Ao Ac _ _ Ab Ap Aq Ar _ ?_ ?_ ?_ ?_ A13.out).mono ?_);exact ch_ HR0 HB;exact Au.out;exact ch_ As HB;exact At.out;rintro e w19 ⟨rfl,hb⟩;replace Aa:=bb_ Aa hb;replace HB:=hB_ HB hb;have p674:0≤(Ar:Int):=of_decide_eq_true as_q;have q674:Ar<(l0.length:Int):=of_decide_eq_true as_q;obtain ⟨Ba,A674_5,c674_5,e674,Ad,Ae,Af,Ag,Ah,Ai,Aj,Ak,hl674_5,hi674_5⟩:=at_T61 HR0.out Ar p674 q674;cases e674;obtain ⟨Ad,Ae,Af,Ag,Ah,Ai,Aj,Ak⟩:=hb8_ HB Ad Ae Af Ag Ah Ai Aj Ak;have Ay:=ak hi674_5;have Az:=ak hl674_5;clear hi674_5 hl674_5;replace p674:=eq_true p674;replace q674:=eq_true q674;obtain ⟨Bw,Bx,By,Bz,Ca,Cb,Cc,Cd,Ce,Cf,Cg,Ch,Ci,Cj,Ck,Cl⟩:=cf8_ Aa))
        repeat (go_quiet (first | (go_at_call 107;(with_reducible refine (impl_keyAt.calls kj2 _ _ l0 Al Am An Ao Ac _ _ Ab Ap Aq Ar _ ?_ ?_ ?_ ?_ A13.out).mono ?_);exact ch_ HR0 HB;exact Au.out;exact ch_ As HB;exact At.out;rintro e w19 ⟨rfl,hb⟩;replace Aa:=bb_ Aa hb;replace HB:=hB_ HB hb;have p674:0≤(Ar:Int):=of_decide_eq_true as_q;have q674:Ar<(l0.length:Int):=of_decide_eq_true as_q;obtain ⟨Ba,A674_5,c674_5,e674,Ad,Ae,Af,Ag,Ah,Ai,Aj,Ak,hl674_5,hi674_5⟩:=at_T61 HR0.out Ar p674 q674;cases e674;obtain ⟨Ad,Ae,Af,Ag,Ah,Ai,Aj,Ak⟩:=hb8_ HB Ad Ae Af Ag Ah Ai Aj Ak;have Ay:=ak hi674_5;have Az:=ak hl674_5;clear hi674_5 hl674_5;replace p674:=eq_true p674;replace q674:=eq_true q674;obtain ⟨Bw,Bx,By,Bz,Ca,Cb,Cc,Cd,Ce,Cf,Cg,Ch,Ci,Cj,Ck,Cl⟩:=cf8_ Aa));try go_wp2_with (first | (go_at_call 107;(with_reducible refine (impl_keyAt.calls kj2 _ _ l0 Al Am An Ao Ac _ _ Ab Ap Aq Ar _ ?_ ?_ ?_ ?_ A13.out).mono ?_);exact ch_ HR0 HB;exact Au.out;exact ch_ As HB;exact At.out;rintro e w19 ⟨rfl,hb⟩;replace Aa:=bb_ Aa hb;replace HB:=hB_ HB hb;have p674:0≤(Ar:Int):=of_decide_eq_true as_q;have q674:Ar<(l0.length:Int):=of_decide_eq_true as_q;obtain ⟨Ba,A674_5,c674_5,e674,Ad,Ae,Af,Ag,Ah,Ai,Aj,Ak,hl674_5,hi674_5⟩:=at_T61 HR0.out Ar p674 q674;cases e674;obtain ⟨Ad,Ae,Af,Ag,Ah,Ai,Aj,Ak⟩:=hb8_ HB Ad Ae Af Ag Ah Ai Aj Ak;have Ay:=ak hi674_5;have Az:=ak hl674_5;clear hi674_5 hl674_5;replace p674:=eq_true p674;replace q674:=eq_true q674;obtain ⟨Bw,Bx,By,Bz,Ca,Cb,Cc,Cd,Ce,Cf,Cg,Ch,Ci,Cj,Ck,Cl⟩:=cf8_ Aa)))
        go_ret2
        exact ⟨_,er_q,by first | exact Kd.S_nil _ _ _ _ _ | exact Kd.N_nil _ _ _ _ _ | exact Kd.V_nil _ _ _ _ _ | exact Kd.Q_nil _ _ _ _ _ | exact Kd.R_nil _ _ _ _ _,bw_q HB⟩
       ·rw [if_neg c17] at H;have Ei:=decide_eq_false c17;clear c17
        by_cases c21:Ar<0
        ·rw [if_pos c21] at H;have Ej:=decide_eq_true c21
         clear c21;have Ed:=ak H;clear H;obtain ⟨Fc,Fd,Fe,Ff,Fg,Fh,Fi,Fj,Fk,Fl,Fm,Fn,Fo,Fp,Fq,Fr⟩:=cf8_ Aa
         go_upto_if 38 with (first | (go_at_call 107;(with_reducible refine (impl_keyAt.calls kj2 _ _ l0 Al Am An Ao Ac _ _ Ab Ap Aq Ar _ ?_ ?_ ?_ ?_ A13.out).mono ?_);exact ch_ HR0 HB;exact Au.out;exact ch_ As HB;exact At.out;rintro e w24 ⟨rfl,hb⟩;replace Aa:=bb_ Aa hb;replace HB:=hB_ HB hb;have p674:0≤(Ar:Int):=of_decide_eq_true as_q;have q674:Ar<(l0.length:Int):=of_decide_eq_true as_q;obtain ⟨Ba,A674_5,c674_5,e674,Ad,Ae,Af,Ag,Ah,Ai,Aj,Ak,hl674_5,hi674_5⟩:=at_T61 HR0.out Ar p674 q674;cases e674;obtain ⟨Ad,Ae,Af,Ag,Ah,Ai,Aj,Ak⟩:=hb8_ HB Ad Ae Af Ag Ah Ai Aj Ak;have Ay:=ak hi674_5;have Az:=ak hl674_5;clear hi674_5 hl674_5;replace p674:=eq_true p674;replace q674:=eq_true q674;obtain ⟨Cm,Cn,Co,Cp,Cq,Cr,Cs,Ct,Cu,Cv,Cw,Cx,Cy,Cz,Da,Db⟩:=cf8_ Aa))
         repeat (go_quiet (first | (go_at_call 107;(with_reducible refine (impl_keyAt.calls kj2 _ _ l0 Al Am An Ao Ac _ _ Ab Ap Aq Ar _ ?_ ?_ ?_ ?_ A13.out).mono ?_);exact ch_ HR0 HB;exact Au.out;exact ch_ As HB;exact At.out;rintro e w24 ⟨rfl,hb⟩;replace Aa:=bb_ Aa hb;replace HB:=hB_ HB hb;have p674:0≤(Ar:Int):=of_decide_eq_true as_q;have q674:Ar<(l0.length:Int):=of_decide_eq_true as_q;obtain ⟨Ba,A674_5,c674_5,e674,Ad,Ae,Af,Ag,Ah,Ai,Aj,Ak,hl674_5,hi674_5⟩:=at_T61 HR0.out Ar p674 q674;cases e674;obtain ⟨Ad,Ae,Af,Ag,Ah,Ai,Aj,Ak⟩:=hb8_ HB Ad Ae Af Ag Ah Ai Aj Ak;have Ay:=ak hi674_5;have Az:=ak hl674_5;clear hi674_5 hl674_5;replace p674:=eq_true p674;replace q674:=eq_true q674;obtain ⟨Cm,Cn,Co,Cp,Cq,Cr,Cs,Ct,Cu,Cv,Cw,Cx,Cy,Cz,Da,Db⟩:=cf8_ Aa));go_upto_if 38 with (first | (go_at_call 107;(with_reducible refine (impl_keyAt.calls kj2 _ _ l0 Al Am An Ao Ac _ _ Ab Ap Aq Ar _ ?_ ?_ ?_ ?_ A13.out).mono ?_);exact ch_ HR0 HB;exact Au.out;exact ch_ As HB;exact At.out;rintro e w24 ⟨rfl,hb⟩;replace Aa:=bb_ Aa hb;replace HB:=hB_ HB hb;have p674:0≤(Ar:Int):=of_decide_eq_true as_q;have q674:Ar<(l0.length:Int):=of_decide_eq_true as_q;obtain ⟨Ba,A674_5,c674_5,e674,Ad,Ae,Af,Ag,Ah,Ai,Aj,Ak,hl674_5,hi674_5⟩:=at_T61 HR0.out Ar p674 q674;cases e674;obtain ⟨Ad,Ae,Af,Ag,Ah,Ai,Aj,Ak⟩:=hb8_ HB Ad Ae Af Ag Ah Ai Aj Ak;have Ay:=ak hi674_5;have Az:=ak hl674_5;clear hi674_5 hl674_5;replace p674:=eq_true p674;replace q674:=eq_true q674;obtain ⟨Cm,Cn,Co,Cp,Cq,Cr,Cs,Ct,Cu,Cv,Cw,Cx,Cy,Cz,Da,Db⟩:=cf8_ Aa)))
         (try clear Ad);(try clear Ae);(try clear Af);(try clear Ag);(try clear Ah);(try clear Ai);(try clear Aj);(try clear Ak);have H:=Ed.out;clear Ed
         by_cases c26:(l0.length:Int)≥150
         ·rw [if_pos c26] at H;have Bb:=decide_eq_true c26
          have Bc:decide (150≤l0.length)=true:=decide_eq_true (by omega)
          clear c26
          (first | rw [Bb] | rw [Bc] | (simp only [i64_w,i32_w];first | rw [Bb] | rw [Bc]) | skip)
          simp only [Option.some.injEq,Prod.mk.injEq] at H
          obtain ⟨rfl,rfl⟩:=H
          go_wp2
          repeat (go_quiet (fail);try go_wp2)
          go_ret2
          exact ⟨_,er_q,by first | exact Kd.S_nil _ _ _ _ _ | exact Kd.N_nil _ _ _ _ _ | exact Kd.V_nil _ _ _ _ _ | exact Kd.Q_nil _ _ _ _ _ | exact Kd.R_nil _ _ _ _ _,bw_q HB⟩
         ·rw [if_neg c26] at H;have Bb:=decide_eq_false c26
          have Bc:decide (150≤l0.length)=false:=decide_eq_false (by omega)
          clear c26
          (first | rw [Bb] | rw [Bc] | (simp only [i64_w,i32_w];first | rw [Bb] | rw [Bc]) | skip)
          replace H:=bsi H;obtain ⟨Dx,A270,H⟩:=H
          (try dsimp only at H)
          have A27:=ak A270;clear A270
          simp only [Option.some.injEq,Prod.mk.injEq] at H
          obtain ⟨rfl,rfl⟩:=H;obtain ⟨Fs,Ft,Fu,Fv,Fw,Fx,Fy,Fz,Ga,Gb,Gc,Gd,Ge,Gf,Gg,Gh⟩:=cf8_ Aa
          go_wp2_with (first | (go_at_call 111;(with_reducible refine (impl_put.calls kj2 _ _ l0 Al Am An Ao Ac _ _ Ab Ap Aq Dx _ ?_ ?_ ?_ ?_ A27.out).mono ?_);exact ch_ HR0 HB;exact Au.out;exact ch_ As HB;exact At.out;rintro e w29 ⟨v676,rfl,ho0,hb⟩;have Dt:=ak (Kd.S_lower (Kd.S_newB ho0 (g:=Av) (o:=.cells #[.int .i64 Al,.int .i64 Am,.int .i64 An,.int .i64 Ao,.int .i64 Ac,.slice Aw Ab.length Ax,.int .i64 Ap,.bool Aq] 61 (0,0)) (bk_q Aa)) (below_size (bw_q HB)));replace Aa:=bb_ Aa hb;replace HB:=hB_ HB hb;(try clear ho0)))
          repeat (go_quiet (first | (go_at_call 111;(with_reducible refine (impl_put.calls kj2 _ _ l0 Al Am An Ao Ac _ _ Ab Ap Aq Dx _ ?_ ?_ ?_ ?_ A27.out).mono ?_);exact ch_ HR0 HB;exact Au.out;exact ch_ As HB;exact At.out;rintro e w29 ⟨v676,rfl,ho0,hb⟩;have Dt:=ak (Kd.S_lower (Kd.S_newB ho0 (g:=Av) (o:=.cells #[.int .i64 Al,.int .i64 Am,.int .i64 An,.int .i64 Ao,.int .i64 Ac,.slice Aw Ab.length Ax,.int .i64 Ap,.bool Aq] 61 (0,0)) (bk_q Aa)) (below_size (bw_q HB)));replace Aa:=bb_ Aa hb;replace HB:=hB_ HB hb;(try clear ho0)));try go_wp2_with (first | (go_at_call 111;(with_reducible refine (impl_put.calls kj2 _ _ l0 Al Am An Ao Ac _ _ Ab Ap Aq Dx _ ?_ ?_ ?_ ?_ A27.out).mono ?_);exact ch_ HR0 HB;exact Au.out;exact ch_ As HB;exact At.out;rintro e w29 ⟨v676,rfl,ho0,hb⟩;have Dt:=ak (Kd.S_lower (Kd.S_newB ho0 (g:=Av) (o:=.cells #[.int .i64 Al,.int .i64 Am,.int .i64 An,.int .i64 Ao,.int .i64 Ac,.slice Aw Ab.length Ax,.int .i64 Ap,.bool Aq] 61 (0,0)) (bk_q Aa)) (below_size (bw_q HB)));replace Aa:=bb_ Aa hb;replace HB:=hB_ HB hb;(try clear ho0))))
          go_ret2
          exact ⟨_,er_q,by (with_reducible repeat (first | apply Kd.S_alloc | apply Kd.S_drewN | apply Kd.S_drew));exact Kd.S_mono Dt.out (fun _ hk=> trivial),bw_q HB⟩
        ·rw [if_neg c21] at H;have Ej:=decide_eq_false c21
         clear c21;have Ee:=ak H;clear H;obtain ⟨Gi,Gj,Gk,Gl,Gm,Gn,Go,Gp,Gq,Gr,Gs,Gt,Gu,Gv,Gw,Gx⟩:=cf8_ Aa
         go_upto_if 38 with (first | (go_at_call 107;(with_reducible refine (impl_keyAt.calls kj2 _ _ l0 Al Am An Ao Ac _ _ Ab Ap Aq Ar _ ?_ ?_ ?_ ?_ A13.out).mono ?_);exact ch_ HR0 HB;exact Au.out;exact ch_ As HB;exact At.out;rintro e w32 ⟨rfl,hb⟩;replace Aa:=bb_ Aa hb;replace HB:=hB_ HB hb;have p674:0≤(Ar:Int):=of_decide_eq_true as_q;have q674:Ar<(l0.length:Int):=of_decide_eq_true as_q;obtain ⟨Ba,A674_5,c674_5,e674,Ad,Ae,Af,Ag,Ah,Ai,Aj,Ak,hl674_5,hi674_5⟩:=at_T61 HR0.out Ar p674 q674;cases e674;obtain ⟨Ad,Ae,Af,Ag,Ah,Ai,Aj,Ak⟩:=hb8_ HB Ad Ae Af Ag Ah Ai Aj Ak;have Ay:=ak hi674_5;have Az:=ak hl674_5;clear hi674_5 hl674_5;replace p674:=eq_true p674;replace q674:=eq_true q674;obtain ⟨Dc,Dd,De,Df,Dg,Dh,Di,Dj,Dk,Dl,Dm,Dn,Do,Dp,Dq,Dr⟩:=cf8_ Aa))
         repeat (go_quiet (first | (go_at_call 107;(with_reducible refine (impl_keyAt.calls kj2 _ _ l0 Al Am An Ao Ac _ _ Ab Ap Aq Ar _ ?_ ?_ ?_ ?_ A13.out).mono ?_);exact ch_ HR0 HB;exact Au.out;exact ch_ As HB;exact At.out;rintro e w32 ⟨rfl,hb⟩;replace Aa:=bb_ Aa hb;replace HB:=hB_ HB hb;have p674:0≤(Ar:Int):=of_decide_eq_true as_q;have q674:Ar<(l0.length:Int):=of_decide_eq_true as_q;obtain ⟨Ba,A674_5,c674_5,e674,Ad,Ae,Af,Ag,Ah,Ai,Aj,Ak,hl674_5,hi674_5⟩:=at_T61 HR0.out Ar p674 q674;cases e674;obtain ⟨Ad,Ae,Af,Ag,Ah,Ai,Aj,Ak⟩:=hb8_ HB Ad Ae Af Ag Ah Ai Aj Ak;have Ay:=ak hi674_5;have Az:=ak hl674_5;clear hi674_5 hl674_5;replace p674:=eq_true p674;replace q674:=eq_true q674;obtain ⟨Dc,Dd,De,Df,Dg,Dh,Di,Dj,Dk,Dl,Dm,Dn,Do,Dp,Dq,Dr⟩:=cf8_ Aa));go_upto_if 38 with (first | (go_at_call 107;(with_reducible refine (impl_keyAt.calls kj2 _ _ l0 Al Am An Ao Ac _ _ Ab Ap Aq Ar _ ?_ ?_ ?_ ?_ A13.out).mono ?_);exact ch_ HR0 HB;exact Au.out;exact ch_ As HB;exact At.out;rintro e w32 ⟨rfl,hb⟩;replace Aa:=bb_ Aa hb;replace HB:=hB_ HB hb;have p674:0≤(Ar:Int):=of_decide_eq_true as_q;have q674:Ar<(l0.length:Int):=of_decide_eq_true as_q;obtain ⟨Ba,A674_5,c674_5,e674,Ad,Ae,Af,Ag,Ah,Ai,Aj,Ak,hl674_5,hi674_5⟩:=at_T61 HR0.out Ar p674 q674;cases e674;obtain ⟨Ad,Ae,Af,Ag,Ah,Ai,Aj,Ak⟩:=hb8_ HB Ad Ae Af Ag Ah Ai Aj Ak;have Ay:=ak hi674_5;have Az:=ak hl674_5;clear hi674_5 hl674_5;replace p674:=eq_true p674;replace q674:=eq_true q674;obtain ⟨Dc,Dd,De,Df,Dg,Dh,Di,Dj,Dk,Dl,Dm,Dn,Do,Dp,Dq,Dr⟩:=cf8_ Aa)))
         (try clear Ad);(try clear Ae);(try clear Af);(try clear Ag);(try clear Ah);(try clear Ai);(try clear Aj);(try clear Ak);have H:=Ee.out;clear Ee;replace H:=bsi H;obtain ⟨Dy,A340,H⟩:=H
         (try dsimp only at H)
         have A34:=ak A340;clear A340
         simp only [Option.some.injEq,Prod.mk.injEq] at H
         obtain ⟨rfl,rfl⟩:=H;obtain ⟨Gy,Gz,Ha,Hb,Hc,Hd,He,Hf,Hg,Hh,Hi,Hj,Hk,Hl,Hm,Hn⟩:=cf8_ Aa
         go_wp2_with (first | (go_at_call 111;(with_reducible refine (impl_put.calls kj2 _ _ l0 Al Am An Ao Ac _ _ Ab Ap Aq Dy _ ?_ ?_ ?_ ?_ A34.out).mono ?_);exact ch_ HR0 HB;exact Au.out;exact ch_ As HB;exact At.out;rintro e w36 ⟨v679,rfl,ho0,hb⟩;have Du:=ak (Kd.S_lower (Kd.S_newB ho0 (g:=Av) (o:=.cells #[.int .i64 Al,.int .i64 Am,.int .i64 An,.int .i64 Ao,.int .i64 Ac,.slice Aw Ab.length Ax,.int .i64 Ap,.bool Aq] 61 (0,0)) (bk_q Aa)) (below_size (bw_q HB)));replace Aa:=bb_ Aa hb;replace HB:=hB_ HB hb;(try clear ho0)))
         repeat (go_quiet (first | (go_at_call 111;(with_reducible refine (impl_put.calls kj2 _ _ l0 Al Am An Ao Ac _ _ Ab Ap Aq Dy _ ?_ ?_ ?_ ?_ A34.out).mono ?_);exact ch_ HR0 HB;exact Au.out;exact ch_ As HB;exact At.out;rintro e w36 ⟨v679,rfl,ho0,hb⟩;have Du:=ak (Kd.S_lower (Kd.S_newB ho0 (g:=Av) (o:=.cells #[.int .i64 Al,.int .i64 Am,.int .i64 An,.int .i64 Ao,.int .i64 Ac,.slice Aw Ab.length Ax,.int .i64 Ap,.bool Aq] 61 (0,0)) (bk_q Aa)) (below_size (bw_q HB)));replace Aa:=bb_ Aa hb;replace HB:=hB_ HB hb;(try clear ho0)));try go_wp2_with (first | (go_at_call 111;(with_reducible refine (impl_put.calls kj2 _ _ l0 Al Am An Ao Ac _ _ Ab Ap Aq Dy _ ?_ ?_ ?_ ?_ A34.out).mono ?_);exact ch_ HR0 HB;exact Au.out;exact ch_ As HB;exact At.out;rintro e w36 ⟨v679,rfl,ho0,hb⟩;have Du:=ak (Kd.S_lower (Kd.S_newB ho0 (g:=Av) (o:=.cells #[.int .i64 Al,.int .i64 Am,.int .i64 An,.int .i64 Ao,.int .i64 Ac,.slice Aw Ab.length Ax,.int .i64 Ap,.bool Aq] 61 (0,0)) (bk_q Aa)) (below_size (bw_q HB)));replace Aa:=bb_ Aa hb;replace HB:=hB_ HB hb;(try clear ho0))))
         go_ret2
         exact ⟨_,er_q,by (with_reducible repeat (first | apply Kd.S_alloc | apply Kd.S_drewN | apply Kd.S_drew));exact Kd.S_mono Du.out (fun _ hk=> trivial),bw_q HB⟩
      ·rw [if_neg c16] at H
       exact absurd H (by simp)
     ·rw [if_neg c15] at H
      exact absurd H (by simp)
    ·rw [if_neg c14] at H;have Eh:=decide_eq_false c14;clear c14
     by_cases c37:Ar<0
     ·rw [if_pos c37] at H;have Ek:=decide_eq_true c37
      clear c37;have Ef:=ak H;clear H;obtain ⟨Ho,Hp,Hq,Hr,Hs,Ht,Hu,Hv,Hw,Hx,Hy,Hz,Ia,Ib,Ic,Id⟩:=cf8_ Aa
      go_upto_if 38 with (first | (go_at_call 107;(with_reducible refine (impl_keyAt.calls kj2 _ _ l0 Al Am An Ao Ac _ _ Ab Ap Aq Ar _ ?_ ?_ ?_ ?_ A13.out).mono ?_);exact ch_ HR0 HB;exact Au.out;exact ch_ As HB;exact At.out;rintro e w40 ⟨rfl,hb⟩;replace Aa:=bb_ Aa hb;replace HB:=hB_ HB hb))
      repeat (go_quiet (first | (go_at_call 107;(with_reducible refine (impl_keyAt.calls kj2 _ _ l0 Al Am An Ao Ac _ _ Ab Ap Aq Ar _ ?_ ?_ ?_ ?_ A13.out).mono ?_);exact ch_ HR0 HB;exact Au.out;exact ch_ As HB;exact At.out;rintro e w40 ⟨rfl,hb⟩;replace Aa:=bb_ Aa hb;replace HB:=hB_ HB hb));go_upto_if 38 with (first | (go_at_call 107;(with_reducible refine (impl_keyAt.calls kj2 _ _ l0 Al Am An Ao Ac _ _ Ab Ap Aq Ar _ ?_ ?_ ?_ ?_ A13.out).mono ?_);exact ch_ HR0 HB;exact Au.out;exact ch_ As HB;exact At.out;rintro e w40 ⟨rfl,hb⟩;replace Aa:=bb_ Aa hb;replace HB:=hB_ HB hb)))
      have H:=Ef.out;clear Ef
      by_cases c41:(l0.length:Int)≥150
      ·rw [if_pos c41] at H;have Bd:=decide_eq_true c41
       have Be:decide (150≤l0.length)=true:=decide_eq_true (by omega)
       clear c41
       (first | rw [Bd] | rw [Be] | (simp only [i64_w,i32_w];first | rw [Bd] | rw [Be]) | skip)
       simp only [Option.some.injEq,Prod.mk.injEq] at H
       obtain ⟨rfl,rfl⟩:=H
       go_wp2
       repeat (go_quiet (fail);try go_wp2)
       go_ret2
       exact ⟨_,er_q,by first | exact Kd.S_nil _ _ _ _ _ | exact Kd.N_nil _ _ _ _ _ | exact Kd.V_nil _ _ _ _ _ | exact Kd.Q_nil _ _ _ _ _ | exact Kd.R_nil _ _ _ _ _,bw_q HB⟩
      ·rw [if_neg c41] at H;have Bd:=decide_eq_false c41
       have Be:decide (150≤l0.length)=false:=decide_eq_false (by omega)
       clear c41
       (first | rw [Bd] | rw [Be] | (simp only [i64_w,i32_w];first | rw [Bd] | rw [Be]) | skip)
       replace H:=bsi H;obtain ⟨Dz,A420,H⟩:=H
       (try dsimp only at H)
       have A42:=ak A420;clear A420
       simp only [Option.some.injEq,Prod.mk.injEq] at H
       obtain ⟨rfl,rfl⟩:=H;obtain ⟨Ie,If,Ig,Ih,Ii,Ij,Ik,Il,Im,In,Io,Ip,Iq,Ir,Is,It⟩:=cf8_ Aa
       go_wp2_with (first | (go_at_call 111;(with_reducible refine (impl_put.calls kj2 _ _ l0 Al Am An Ao Ac _ _ Ab Ap Aq Dz _ ?_ ?_ ?_ ?_ A42.out).mono ?_);exact ch_ HR0 HB;exact Au.out;exact ch_ As HB;exact At.out;rintro e w44 ⟨v682,rfl,ho0,hb⟩;have Dv:=ak (Kd.S_lower (Kd.S_newB ho0 (g:=Av) (o:=.cells #[.int .i64 Al,.int .i64 Am,.int .i64 An,.int .i64 Ao,.int .i64 Ac,.slice Aw Ab.length Ax,.int .i64 Ap,.bool Aq] 61 (0,0)) (bk_q Aa)) (below_size (bw_q HB)));replace Aa:=bb_ Aa hb;replace HB:=hB_ HB hb;(try clear ho0)))
       repeat (go_quiet (first | (go_at_call 111;(with_reducible refine (impl_put.calls kj2 _ _ l0 Al Am An Ao Ac _ _ Ab Ap Aq Dz _ ?_ ?_ ?_ ?_ A42.out).mono ?_);exact ch_ HR0 HB;exact Au.out;exact ch_ As HB;exact At.out;rintro e w44 ⟨v682,rfl,ho0,hb⟩;have Dv:=ak (Kd.S_lower (Kd.S_newB ho0 (g:=Av) (o:=.cells #[.int .i64 Al,.int .i64 Am,.int .i64 An,.int .i64 Ao,.int .i64 Ac,.slice Aw Ab.length Ax,.int .i64 Ap,.bool Aq] 61 (0,0)) (bk_q Aa)) (below_size (bw_q HB)));replace Aa:=bb_ Aa hb;replace HB:=hB_ HB hb;(try clear ho0)));try go_wp2_with (first | (go_at_call 111;(with_reducible refine (impl_put.calls kj2 _ _ l0 Al Am An Ao Ac _ _ Ab Ap Aq Dz _ ?_ ?_ ?_ ?_ A42.out).mono ?_);exact ch_ HR0 HB;exact Au.out;exact ch_ As HB;exact At.out;rintro e w44 ⟨v682,rfl,ho0,hb⟩;have Dv:=ak (Kd.S_lower (Kd.S_newB ho0 (g:=Av) (o:=.cells #[.int .i64 Al,.int .i64 Am,.int .i64 An,.int .i64 Ao,.int .i64 Ac,.slice Aw Ab.length Ax,.int .i64 Ap,.bool Aq] 61 (0,0)) (bk_q Aa)) (below_size (bw_q HB)));replace Aa:=bb_ Aa hb;replace HB:=hB_ HB hb;(try clear ho0))))
       go_ret2
       exact ⟨_,er_q,by (with_reducible repeat (first | apply Kd.S_alloc | apply Kd.S_drewN | apply Kd.S_drew));exact Kd.S_mono Dv.out (fun _ hk=> trivial),bw_q HB⟩
     ·rw [if_neg c37] at H;have Ek:=decide_eq_false c37
      clear c37;have Eg:=ak H;clear H;obtain ⟨Iu,Iv,Iw,Ix,Iy,Iz,Ja,Jb,Jc,Jd,Je,Jf,Jg,Jh,Ji,Jj⟩:=cf8_ Aa
      go_upto_if 38 with (first | (go_at_call 107;(with_reducible refine (impl_keyAt.calls kj2 _ _ l0 Al Am An Ao Ac _ _ Ab Ap Aq Ar _ ?_ ?_ ?_ ?_ A13.out).mono ?_);exact ch_ HR0 HB;exact Au.out;exact ch_ As HB;exact At.out;rintro e w47 ⟨rfl,hb⟩;replace Aa:=bb_ Aa hb;replace HB:=hB_ HB hb))
      repeat (go_quiet (first | (go_at_call 107;(with_reducible refine (impl_keyAt.calls kj2 _ _ l0 Al Am An Ao Ac _ _ Ab Ap Aq Ar _ ?_ ?_ ?_ ?_ A13.out).mono ?_);exact ch_ HR0 HB;exact Au.out;exact ch_ As HB;exact At.out;rintro e w47 ⟨rfl,hb⟩;replace Aa:=bb_ Aa hb;replace HB:=hB_ HB hb));go_upto_if 38 with (first | (go_at_call 107;(with_reducible refine (impl_keyAt.calls kj2 _ _ l0 Al Am An Ao Ac _ _ Ab Ap Aq Ar _ ?_ ?_ ?_ ?_ A13.out).mono ?_);exact ch_ HR0 HB;exact Au.out;exact ch_ As HB;exact At.out;rintro e w47 ⟨rfl,hb⟩;replace Aa:=bb_ Aa hb;replace HB:=hB_ HB hb)))
      have H:=Eg.out;clear Eg;replace H:=bsi H;obtain ⟨Ea,A480,H⟩:=H
      (try dsimp only at H)
      have A48:=ak A480;clear A480
      simp only [Option.some.injEq,Prod.mk.injEq] at H
      obtain ⟨rfl,rfl⟩:=H;obtain ⟨Jk,Jl,Jm,Jn,Jo,Jp,Jq,Jr,Js,Jt,Ju,Jv,Jw,Jx,Jy,Jz⟩:=cf8_ Aa
      go_wp2_with (first | (go_at_call 111;(with_reducible refine (impl_put.calls kj2 _ _ l0 Al Am An Ao Ac _ _ Ab Ap Aq Ea _ ?_ ?_ ?_ ?_ A48.out).mono ?_);exact ch_ HR0 HB;exact Au.out;exact ch_ As HB;exact At.out;rintro e w50 ⟨v685,rfl,ho0,hb⟩;have Dw:=ak (Kd.S_lower (Kd.S_newB ho0 (g:=Av) (o:=.cells #[.int .i64 Al,.int .i64 Am,.int .i64 An,.int .i64 Ao,.int .i64 Ac,.slice Aw Ab.length Ax,.int .i64 Ap,.bool Aq] 61 (0,0)) (bk_q Aa)) (below_size (bw_q HB)));replace Aa:=bb_ Aa hb;replace HB:=hB_ HB hb;(try clear ho0)))
      repeat (go_quiet (first | (go_at_call 111;(with_reducible refine (impl_put.calls kj2 _ _ l0 Al Am An Ao Ac _ _ Ab Ap Aq Ea _ ?_ ?_ ?_ ?_ A48.out).mono ?_);exact ch_ HR0 HB;exact Au.out;exact ch_ As HB;exact At.out;rintro e w50 ⟨v685,rfl,ho0,hb⟩;have Dw:=ak (Kd.S_lower (Kd.S_newB ho0 (g:=Av) (o:=.cells #[.int .i64 Al,.int .i64 Am,.int .i64 An,.int .i64 Ao,.int .i64 Ac,.slice Aw Ab.length Ax,.int .i64 Ap,.bool Aq] 61 (0,0)) (bk_q Aa)) (below_size (bw_q HB)));replace Aa:=bb_ Aa hb;replace HB:=hB_ HB hb;(try clear ho0)));try go_wp2_with (first | (go_at_call 111;(with_reducible refine (impl_put.calls kj2 _ _ l0 Al Am An Ao Ac _ _ Ab Ap Aq Ea _ ?_ ?_ ?_ ?_ A48.out).mono ?_);exact ch_ HR0 HB;exact Au.out;exact ch_ As HB;exact At.out;rintro e w50 ⟨v685,rfl,ho0,hb⟩;have Dw:=ak (Kd.S_lower (Kd.S_newB ho0 (g:=Av) (o:=.cells #[.int .i64 Al,.int .i64 Am,.int .i64 An,.int .i64 Ao,.int .i64 Ac,.slice Aw Ab.length Ax,.int .i64 Ap,.bool Aq] 61 (0,0)) (bk_q Aa)) (below_size (bw_q HB)));replace Aa:=bb_ Aa hb;replace HB:=hB_ HB hb;(try clear ho0))))
      go_ret2
      exact ⟨_,er_q,by (with_reducible repeat (first | apply Kd.S_alloc | apply Kd.S_drewN | apply Kd.S_drew));exact Kd.S_mono Dw.out (fun _ hk=> trivial),bw_q HB⟩

/-! ### impl_learned: function 97 -/
def impl_learned.l0:Nat→List (S61)→List (S61)→List (S61)→Int→Int→Option ((List (S61))×(List (S61)))
 | 0,_,_,_,_,_=> none
 | k+1,h,g,b,e,a=> if a<e then (if 0≤a then (if a<(b.length:Int) then ((impl_Install.f k h ((rd_T61 b a).f0) ((rd_T61 b a).f1) ((rd_T61 b a).f2) ((rd_T61 b a).f3) ((rd_T61 b a).f4) ((rd_T61 b a).f5) ((rd_T61 b a).f6) ((rd_T61 b a).f7)).bind fun d=> (if d.2=true then ((impl_copyRecord.f ((rd_T61 b a).f0) ((rd_T61 b a).f1) ((rd_T61 b a).f2) ((rd_T61 b a).f3) ((rd_T61 b a).f4) ((rd_T61 b a).f5) ((rd_T61 b a).f6) ((rd_T61 b a).f7)).bind fun c=> (if g.length<1759218604441 then (impl_learned.l0 k d.1 (g++[(⟨c.1,c.2.1,c.2.2.1,c.2.2.2.1,c.2.2.2.2.1,c.2.2.2.2.2.1,c.2.2.2.2.2.2.1,c.2.2.2.2.2.2.2⟩:S61)]) b e (wrap64 (a+1))) else (none))) else (impl_learned.l0 k h g b e (wrap64 (a+1))))) else (none)) else (none)) else (some (h,g))
def impl_learned.f (k:Nat) (l0:List (S61)) (l1:List (S61)):Option ((List (S61))×(List (S61))):=(impl_copyRecords.f k l0).bind fun a=> (impl_learned.l0 k a ([]:List (S61)) l1 (l1.length:Int) 0)
theorem impl_learned.mono_l:∀k,(∀y0 y1 y2 y3 y4,LeO (impl_learned.l0 k y0 y1 y2 y3 y4) (impl_learned.l0 (k+1) y0 y1 y2 y3 y4))
 | 0=> fun _ _ _ _ _ r h=> by simp [impl_learned.l0] at h
 | k+1=> by
  have ih0:=impl_learned.mono_l k
  ·intro y0 y1 y2 y3 y4
   unfold impl_learned.l0
   with_reducible repeat' (first | apply ih0 | apply impl_Install.mono | apply impl_copyRecords.mono | exact LeO.refl _ | exact LeO.none _ | refine LeO.ite ?_ ?_ | refine LeO.bind ?_ (fun _=> ?_))
theorem impl_learned.mono:∀a0 a1 k,LeO (impl_learned.f k a0 a1) (impl_learned.f (k+1) a0 a1):=by
 intro a0 a1 k
 have ih0:=impl_learned.mono_l k
 unfold impl_learned.f
 with_reducible repeat' (first | apply ih0 | apply impl_Install.mono | apply impl_copyRecords.mono | exact LeO.refl _ | exact LeO.none _ | refine LeO.ite ?_ ?_ | refine LeO.bind ?_ (fun _=> ?_))
theorem impl_learned.sepN {α:Type} {d:Kd α} {e b:Nat} {w1:World} {ok:Nat→Prop} {v:Value} {xs:List α} (h:Kd.S d e w1 b ok v xs):∃M1:Nat→Prop,(∀k,M1 k→b≤k∧k<w1.heap.size)∧Kd.S d e w1 b M1 v xs:=
 ⟨fun k=> b≤k∧k<w1.heap.size,fun _ h=> h,Kd.S_mono (Kd.S_bound h) (fun _ hk=> ⟨hk.2.1,hk.2.2.1⟩)⟩
theorem impl_learned.sepE {α:Type} {d:Kd α} {e b n:Nat} {W:World} {P Q M1:Nat→Prop} {v:Value} {xs:List α} (h:Kd.S d e W b (fun k=> P k∧Q k) v xs) (hM:∀k,M1 k→W.heap.size≤k∧k<n):Kd.S d e W b (fun k=> (P k∧¬M1 k)∧Q k) v xs:=
 Kd.S_mono (Kd.S_bound h) (fun k hk=> ⟨⟨hk.1.1,fun hm=> absurd (hM k hm).1 (by have:=hk.2.2.1;omega)⟩,hk.1.2⟩)
theorem impl_learned.sepR {α:Type} {d:Kd α} {e n b b0:Nat} {w:World} {ok M1:Nat→Prop} {v:Value} {xs:List α} (h:Kd.R d e w b ok v xs) (hM:∀k,M1 k→b0≤k∧k<n) (hn:n≤b):Kd.R d e w b (fun k=> ¬M1 k) v xs:=
 Kd.R_mono (Kd.R_bound h) (fun k hk hm=> absurd (hM k hm).2 (by have:=hk.2.1;omega))
set_option maxHeartbeats 8000000 in
set_option maxRecDepth 100000 in
theorem impl_learned.calls (k:Nat) (A0:Option Addr) (c0:Nat) (l0:List (S61)) (A1:Option Addr) (c1:Nat) (l1:List (S61)) (r1:List (S61)) (r2:List (S61)) (w:World) (hr0:Kd.C k61 w A0 l0.length l0) (hc0:l0.length≤c0) (hr1:Kd.C k61 w A1 l1.length l1) (hc1:l1.length≤c1) (h:impl_learned.f k l0 l1=some (r1,r2)):
  Calls Try.prog 97 #[.slice A0 l0.length c0,.slice A1 l1.length c1] w fun e w'=> ∃(v0_ v1_:Value) (M:Nat→Prop),e=.returned (.tuple #[v0_,v1_])∧Kd.S k61 61 w' w.heap.size (fun k_=> some k_≠(v1_:Value).ownBlock∧M k_) v0_ r1∧Kd.S k61 61 w' w.heap.size (fun k_=> some k_≠(v0_:Value).ownBlock∧¬M k_) v1_ r2∧Below w.heap.size w w':=by
 have hu61:=Try.underlying61;have HR0:=ak hr0;have Ct:=ak hc0;clear hr0 hc0;have HR1:=ak hr1;have Cy:=ak hc1;clear hr1 hc1;have HB:=ak (Below.refl w.heap.size w);have H:=h
 clear h;unfold impl_learned.f at H;replace H:=bsi H;obtain ⟨Be,A30,H⟩:=H
 (try dsimp only at H)
 have A3:=ak A30;clear A30;have H':=ak H;clear H
 go_enter Try.func97,Try.ntmps97
 go_wp2_with (first | ((with_reducible refine gC_ 135 ?_);refine gL_ 13 Try.func135 #[.slice A0 l0.length c0] ?_;(with_reducible refine (impl_copyRecords.calls k _ _ l0 Be _ ?_ ?_ A3.out).mono ?_);(focus repeat (first | exact HR0.out | (with_reducible refine Kd.C_alloc ?_ _) | (with_reducible refine Kd.C_drewN ?_ _) | (with_reducible refine Kd.C_drew ?_)));exact Ct.out;rintro e w4 ⟨v688,rfl,ho0,hb⟩;refine ⟨_,rfl,?_⟩;have Bh:=ak (Kd.S_lower ho0 (below_size (bw_q HB)));replace HB:=hB_ HB hb;(try clear ho0)))
 go_loopg [6,7,16] k (fun kq v6 v7 v16 w'=> ∃(Af:List (S61)) (Ai:List (S61)) (Aa:Int) (M:Nat→Prop),v16=.int .i64 Aa∧Aside0 (impl_learned.l0 kq Af Ai l1 (l1.length:Int) Aa=some (r1,r2))∧Aside0 (kq≤k)∧Aside0 (Kd.S k61 61 w' w.heap.size (fun k_=> some k_≠(v7:Value).ownBlock∧M k_) v6 Af)∧Aside0 (Kd.S k61 61 w' w.heap.size (fun k_=> some k_≠(v6:Value).ownBlock∧¬M k_) v7 Ai)∧Aside0 (Below w.heap.size w w'))
 case atStart=> exact ⟨(Be),(([]:List (S61))),(0),(fun _=> True),rs_q,H',⟨Nat.le_refl _⟩,⟨by (with_reducible repeat (first | apply Kd.S_alloc | apply Kd.S_drewN | apply Kd.S_drew));exact Kd.S_mono Bh.out (fun _ hk=> (by simp [Value.ownBlock]))⟩,⟨by first | exact Kd.S_nil _ _ _ _ _ | exact Kd.N_nil _ _ _ _ _ | exact Kd.V_nil _ _ _ _ _ | exact Kd.Q_nil _ _ _ _ _ | exact Kd.R_nil _ _ _ _ _⟩,⟨bw_q HB⟩⟩
 case round=>
  clear H';(try clear c1);(try clear p2);obtain ⟨Af,Ai,Aa,M,rfl,HA,Bd,Ab,Ad,HB⟩:=hrel
  cases gk with
  | zero=> exact absurd HA.out (by simp [impl_learned.l0])
  | succ k1=>
   have H:=HA.out;clear HA
   simp only [impl_learned.l0] at H
   by_cases c5:Aa<(l1.length:Int)
   ·rw [if_pos c5] at H;have Bm:=decide_eq_true c5;clear c5
    by_cases c6:0≤Aa
    ·rw [if_pos c6] at H;have Cw:=decide_eq_true c6;clear c6
     by_cases c7:Aa<(l1.length:Int)
     ·rw [if_pos c7] at H;have Cx:=decide_eq_true c7
      clear c7;replace H:=bsi H;obtain ⟨⟨Bc,Bf⟩,A80,H⟩:=H
      (try dsimp only at H)
      have A8:=ak A80;clear A80;have Bl:=ak H;clear H
      have p690:0≤(Aa:Int):=of_decide_eq_true as_q
      have q690:Aa<(l1.length:Int):=of_decide_eq_true as_q
      obtain ⟨Cu,A690_5,c690_5,e690,Ak,Al,Am,An,Ao,Ap,Aq,Ar,hl690_5,hi690_5⟩:=at_T61 HR1.out Aa p690 q690
      cases e690
      obtain ⟨Ak,Al,Am,An,Ao,Ap,Aq,Ar⟩:=hb8_ HB Ak Al Am An Ao Ap Aq Ar;have Ba:=ak hi690_5;have Bb:=ak hl690_5;clear hi690_5 hl690_5;replace p690:=eq_true p690;replace q690:=eq_true q690
      go_upto_if 26 with (first | ((with_reducible refine gate_dst (N:=9) rfl ?_);refine box_q 9 #[.int .i64 0,.int .i64 0,.int .i64 0,.int .i64 0,.int .i64 0,.slice none 0 0,.int .i64 0,.bool false] 61 ?_;intro Ae hg w10 hbox hb;replace Ab:=ak (Kd.S_below (Kd.S_elderB (kS_q Ab) Ae (Nat.le_of_eq hg.symm)) hb);replace Ad:=ak (Kd.S_below (Kd.S_elderB (kS_q Ad) Ae (Nat.le_of_eq hg.symm)) hb);have Ac:=ak (hbox);have Cv:=gs_ HB hg;replace HB:=hB_ HB hb;clear hb hbox hg;obtain ⟨Bn,Bo,Bp,Bq,Br,Bs,Bt,Bu,Bv,Bw,Bx,By,Bz,Ca,Cb,Cc⟩:=cf8_ Ac;obtain ⟨Ao12,co12,eo12⟩:=Kd.S_slice Ab.out;subst eo12) | ((with_reducible refine gC_ 42 ?_);refine gL_ 23 Try.func42 #[.slice Ao12 Af.length co12,.agg #[.int .i64 ((rd_T61 l1 Aa).f0),.int .i64 ((rd_T61 l1 Aa).f1),.int .i64 ((rd_T61 l1 Aa).f2),.int .i64 ((rd_T61 l1 Aa).f3),.int .i64 ((rd_T61 l1 Aa).f4),.slice A690_5 ((rd_T61 l1 Aa).f5).length c690_5,.int .i64 ((rd_T61 l1 Aa).f6),.bool ((rd_T61 l1 Aa).f7)]] ?_;(with_reducible refine (impl_Install.calls k1 _ _ Af ((rd_T61 l1 Aa).f0) ((rd_T61 l1 Aa).f1) ((rd_T61 l1 Aa).f2) ((rd_T61 l1 Aa).f3) ((rd_T61 l1 Aa).f4) _ _ ((rd_T61 l1 Aa).f5) ((rd_T61 l1 Aa).f6) ((rd_T61 l1 Aa).f7) Bc Bf _ ?_ ?_ ?_ ?_ A8.out).mono ?_);(focus refine (Kd.S_reads' (e:=61) (base:=w.heap.size) (ok:=fun k_=> ((some k_≠(u7:Value).ownBlock∧M k_)∧k_≠Ae)) (n:=Af.length) (c:=co12) ?_).2.2;exact (sF_ Ab.out));exact (Kd.S_reads' Ab.out).2.1;exact Kd.C_below Ba.out (bw_q HB);exact Bb.out;rintro e w13 ⟨v693,rfl,ho0,hb⟩;obtain ⟨M1,hM1,ho0⟩:=impl_learned.sepN ho0;refine ⟨_,rfl,?_⟩;have Ag:=ak (Kd.S_lower (Kd.S_newB (Kd.S_new' (Kd.S_new' ho0 (Kd.S_lt (sF_ Ab.out))) (Kd.S_lt (sF_ Ad.out))) (g:=Ae) (o:=.cells #[.int .i64 ((rd_T61 l1 Aa).f0),.int .i64 ((rd_T61 l1 Aa).f1),.int .i64 ((rd_T61 l1 Aa).f2),.int .i64 ((rd_T61 l1 Aa).f3),.int .i64 ((rd_T61 l1 Aa).f4),.slice A690_5 ((rd_T61 l1 Aa).f5).length c690_5,.int .i64 ((rd_T61 l1 Aa).f6),.bool ((rd_T61 l1 Aa).f7)] 61 (0,0)) (bp_ Ac)) (below_size (bw_q HB)));replace Ab:=ak (Kd.S_elder' (sF_ Ab.out) (Kd.S_base ho0) hb);replace Ad:=ak (Kd.S_elder' (impl_learned.sepE (sF_ Ad.out) hM1) (Kd.S_base ho0) hb);replace Ac:=bB_ #[.int .i64 ((rd_T61 l1 Aa).f0),.int .i64 ((rd_T61 l1 Aa).f1),.int .i64 ((rd_T61 l1 Aa).f2),.int .i64 ((rd_T61 l1 Aa).f3),.int .i64 ((rd_T61 l1 Aa).f4),.slice A690_5 ((rd_T61 l1 Aa).f5).length c690_5,.int .i64 ((rd_T61 l1 Aa).f6),.bool ((rd_T61 l1 Aa).f7)] Ac hb;replace HB:=hB_ HB hb;(try clear ho0)))
      (try clear Ak);(try clear Al);(try clear Am);(try clear An);(try clear Ao);(try clear Ap);(try clear Aq);(try clear Ar);have H:=Bl.out;clear Bl
      by_cases c14:Bf=true
      ·subst c14;rw [if_pos rfl] at H;replace H:=bsi H;obtain ⟨⟨At,Au,Av,Aw,Ax,Ah,Ay,Az⟩,A150,H⟩:=H
       (try dsimp only at H)
       have A15:=ak A150;clear A150
       by_cases c16:Ai.length<1759218604441
       ·rw [if_pos c16] at H;have Bi:=ak c16;clear c16;obtain ⟨Bg,Aj⟩:∃y_:List (S61),y_=(Ai++[(⟨At,Au,Av,Aw,Ax,Ah,Ay,Az⟩:S61)]):=⟨_,rfl⟩
        replace H:(impl_learned.l0 k1 Bc Bg l1 (l1.length:Int) (wrap64 (Aa+1)))=some (r1,r2):=by first | (rw [Aj];with_reducible exact H) | (have H2_:=(Option.bind_some _ _).symm.trans H;rw [Aj];with_reducible exact H2_) | (have H2_:=(Option.bind_some _ _).symm.trans H;with_reducible exact H2_) | with_reducible exact H | (rw [Aj];exact H) | exact H
        have Bj:=ak Aj;clear Aj;have H':=ak H;clear H;obtain ⟨Cd,Ce,Cf,Cg,Ch,Ci,Cj,Ck,Cl,Cm,Cn,Co,Cp,Cq,Cr,Cs⟩:=cf8_ Ac
        go_wp2_with (first | ((with_reducible refine gC_ 108 ?_);refine gL_ 30 Try.func108 #[.agg #[.int .i64 ((rd_T61 l1 Aa).f0),.int .i64 ((rd_T61 l1 Aa).f1),.int .i64 ((rd_T61 l1 Aa).f2),.int .i64 ((rd_T61 l1 Aa).f3),.int .i64 ((rd_T61 l1 Aa).f4),.slice A690_5 ((rd_T61 l1 Aa).f5).length c690_5,.int .i64 ((rd_T61 l1 Aa).f6),.bool ((rd_T61 l1 Aa).f7)]] ?_;(with_reducible refine (impl_copyRecord.calls ((rd_T61 l1 Aa).f0) ((rd_T61 l1 Aa).f1) ((rd_T61 l1 Aa).f2) ((rd_T61 l1 Aa).f3) ((rd_T61 l1 Aa).f4) _ _ ((rd_T61 l1 Aa).f5) ((rd_T61 l1 Aa).f6) ((rd_T61 l1 Aa).f7) At Au Av Aw Ax Ah Ay Az _ ?_ ?_ A15.out).mono ?_);exact ch_ Ba HB;exact Bb.out;rintro e w18 ⟨v702,rfl,ho0,hb⟩;have LMB:=ak (Below.refl w18.heap.size w18);have LM13:Aside0 (w13.heap.size≤w18.heap.size):=⟨by have:=hb.size;omega⟩;refine ⟨_,rfl,?_⟩;have hs_v702:(v702:Value).oneCell'=true:=(by first | (have h_:=Kd.R_slice ho0;obtain ⟨A_,c_,e_⟩:=h_;simp [e_,Value.oneCell']) | (have h_:=Kd.S_slice ho0;obtain ⟨A_,c_,e_⟩:=h_;simp [e_,Value.oneCell']) | (have h_:=Kd.N_slice ho0;obtain ⟨A_,c_,e_⟩:=h_;simp [e_,Value.oneCell']) | (have h_:=Kd.V_slice ho0;obtain ⟨A_,c_,e_⟩:=h_;simp [e_,Value.oneCell']));have hst_v702:=fun (w_:World) (a_:Addr) m_=> run_store Try.prog w_ a_ v702 m_ hs_v702;replace Ab:=ak (Kd.S_elder' (kS_q Ab) (Kd.R_base ho0) hb);replace Ad:=ak (Kd.S_elder' (kS_q Ad) (Kd.R_base ho0) hb);replace Ag:=ak (Kd.S_elder' (kS_q Ag) (Kd.R_base ho0) hb);have As:=ak (Kd.R_lower (impl_learned.sepR ho0 hM1 (by omega)) (below_size (bw_q HB)));replace Ac:=bb_ Ac hb;replace HB:=hB_ HB hb;(try clear ho0);obtain ⟨Ao20,co20,eo20⟩:=Kd.R_slice As.out;subst eo20) | ((with_reducible refine gate_builtin (b:=.append) (xs:=#[.tmp 28,.tmp 31]) rfl ?_);at_builtin;refine Kd.S_append k61 (w0:=w) w.heap.size rfl (.tmp 28) (.tmp 31) 41 61 (.agg #[(.int .i64 0),(.int .i64 0),(.int .i64 0),(.int .i64 0),(.int .i64 0),(.slice none 0 0),(.int .i64 0),(.bool false)]) 80 rfl Try.underlying41 info61 rfl (by decide) (by omega) u7 Ai (⟨At,Au,Av,Aw,Ax,Ah,Ay,Az⟩:S61) [.int .i64 At,.int .i64 Au,.int .i64 Av,.int .i64 Aw,.int .i64 Ax,.slice Ao20 Ah.length co20,.int .i64 Ay,.bool Az] (fun k_=> some k_≠(.slice Ao12 Af.length co12:Value).ownBlock∧some k_≠(v693:Value).ownBlock∧k_≠Ae∧¬M1 k_) (fun k_=> some k_=(.slice Ao20 Ah.length co20:Value).ownBlock) rfl rfl ?_ (fun k_ hk_=> ((Kd.R_mono (ok':=fun k_=> ((fun k_=> some k_≠(.slice Ao12 Af.length co12:Value).ownBlock∧some k_≠(v693:Value).ownBlock∧k_≠Ae∧¬M1 k_)) k_∧some k_≠(u7:Value).ownBlock) (Kd.R_types (Kd.R_apart' (Kd.R_apart' (Kd.R_apart' (As.out) (Kd.S_typed Ab.out) (by decide)) (Kd.S_typed Ag.out) (by decide)) (Kd.S_typed Ad.out) (by decide)) Ac.out (by decide)) (fun k_ hk=> ⟨⟨hk.1.1.1.2,⟨hk.1.1.2,hk.2,hk.1.1.1.1⟩⟩,hk.1.2⟩))).1 k_ hk_.symm) ?_ ?_ ?_ ?_ ?_ ?_;exact k61_mkM _ _ _ (⟨At,Au,Av,Aw,Ax,Ah,Ay,Az⟩:S61) (Kd.R_mono (Kd.R_tight rfl (Kd.R_mono (ok':=fun k_=> ((fun k_=> some k_≠(.slice Ao12 Af.length co12:Value).ownBlock∧some k_≠(v693:Value).ownBlock∧k_≠Ae∧¬M1 k_)) k_∧some k_≠(u7:Value).ownBlock) (Kd.R_types (Kd.R_apart' (Kd.R_apart' (Kd.R_apart' (As.out) (Kd.S_typed Ab.out) (by decide)) (Kd.S_typed Ag.out) (by decide)) (Kd.S_typed Ad.out) (by decide)) Ac.out (by decide)) (fun k_ hk=> ⟨⟨hk.1.1.1.2,⟨hk.1.1.2,hk.2,hk.1.1.1.1⟩⟩,hk.1.2⟩))) (fun _ h_=> h_));(focus exact (fun k_ hk=> ⟨Kd.fresh' (Kd.S_lt (kS_q Ab)) k_ hk,Kd.fresh' (Kd.S_lt (kS_q Ag)) k_ hk,Kd.freshB (g:=Ae) (o:=.cells #[.int .i64 ((rd_T61 l1 Aa).f0),.int .i64 ((rd_T61 l1 Aa).f1),.int .i64 ((rd_T61 l1 Aa).f2),.int .i64 ((rd_T61 l1 Aa).f3),.int .i64 ((rd_T61 l1 Aa).f4),.slice A690_5 ((rd_T61 l1 Aa).f5).length c690_5,.int .i64 ((rd_T61 l1 Aa).f6),.bool ((rd_T61 l1 Aa).f7)] 61 (0,0)) (bk_q Ac) k_ hk,fun hm=> absurd (hM1 k_ hm).2 (by have h_:=Nat.le_trans (below_size (bw_q LMB)) hk;have h1:=LM13.out;omega)⟩));(focus exact (by (with_reducible repeat (first | apply Kd.S_alloc | apply Kd.S_drewN | apply Kd.S_drew));exact Kd.S_mono Ad.out (fun k_ hk=> ⟨⟨hk.1.1.1.1.1,⟨hk.1.2,hk.1.1.2,hk.1.1.1.2⟩⟩,fun e_=> hk.2 e_⟩)));exact (bw_q HB);exact (below_size (bw_q HB));(focus have:=Bi.out;omega);intro v707 w19 ho hb hg hat;rw [←Bj.out] at ho;replace Ab:=ak (Kd.S_after (ok:=(fun k_=> some k_≠(v693:Value).ownBlock∧some k_≠(.slice Ao20 Ah.length co20:Value).ownBlock∧k_≠Ae)) (by (with_reducible repeat (first | apply Kd.S_alloc | apply Kd.S_drewN | apply Kd.S_drew));exact Kd.S_mono Ab.out (fun _ hk=> ⟨⟨hk.1.2,⟨hk.2,hk.1.1.2⟩⟩,hk.1.1.1.1⟩)) hg hat);replace Ac:=bG_ Ac hg (Kd.S_away Ad.out (fun _ hk=> hk.1.1.2));replace Ag:=ak (Kd.S_after (ok:=(fun k_=> some k_≠(.slice Ao12 Af.length co12:Value).ownBlock∧some k_≠(.slice Ao20 Ah.length co20:Value).ownBlock∧k_≠Ae∧M1 k_)) (by (with_reducible repeat (first | apply Kd.S_alloc | apply Kd.S_drewN | apply Kd.S_drew));exact Kd.S_mono Ag.out (fun _ hk=> ⟨⟨hk.1.1.1.2,⟨hk.2,hk.1.2,hk.1.1.1.1⟩⟩,hk.1.1.2⟩)) hg hat);replace HB:=ak (hb);have Bk:=ak (ho);clear Ad As;clear ho hb hg hat))
        go_roundg k1
        case measure=> have:=Bd.out;omega
        case rel=> exact ⟨(Bc),(Bg),(wrap64 (Aa+1)),M1,rs_q,H',⟨by have:=Bd.out;omega⟩,⟨by (with_reducible repeat (first | apply Kd.S_alloc | apply Kd.S_drewN | apply Kd.S_drew));exact Kd.S_mono Ag.out (fun _ hk=> ⟨hk.2,hk.1.2.2.2⟩)⟩,⟨by (with_reducible repeat (first | apply Kd.S_alloc | apply Kd.S_drewN | apply Kd.S_drew));exact Kd.S_mono Bk.out (fun _ hk=> ⟨hk.2.1,hk.2.2.2⟩)⟩,⟨bw_q HB⟩⟩
       ·rw [if_neg c16] at H
        exact absurd H (by simp)
      ·replace c14:=Bool.eq_false_iff.mpr c14;subst c14
       rw [if_neg (show ¬(false=true) by decide)] at H
       have H':=ak H;clear H
       go_wp2
       go_roundg k1
       case measure=> have:=Bd.out;omega
       case rel=> exact ⟨(Af),(Ai),(wrap64 (Aa+1)),M,rs_q,H',⟨by have:=Bd.out;omega⟩,⟨by (with_reducible repeat (first | apply Kd.S_alloc | apply Kd.S_drewN | apply Kd.S_drew));exact Kd.S_mono Ab.out (fun _ hk=> hk.1.1)⟩,⟨by (with_reducible repeat (first | apply Kd.S_alloc | apply Kd.S_drewN | apply Kd.S_drew));exact Kd.S_mono Ad.out (fun _ hk=> hk.1.1.1)⟩,⟨bw_q HB⟩⟩
     ·rw [if_neg c7] at H
      exact absurd H (by simp)
    ·rw [if_neg c6] at H
     exact absurd H (by simp)
   ·rw [if_neg c5] at H;have Bm:=decide_eq_false c5;clear c5
    simp only [Option.some.injEq,Prod.mk.injEq] at H
    obtain ⟨rfl,rfl⟩:=H
    go_wp2
    go_ret2
    exact ⟨_,_,_,er_q,kS_q Ab,kS_q Ad,bw_q HB⟩

/-! ### impl_Learn: function 28 -/
def impl_Learn.f (k:Nat) (d:Int) (e:Int) (g:Int) (h:List (S93)) (i:List (S102)) (j:List Int) (b:List (S61)) (l1:List (S61)):Option (Int×Int×Int×(List (S93))×(List (S102))×List Int×(List (S61))×(List (S61))):=(impl_copySelf.f k d e g h i j b).bind fun a=> ((impl_SelfOk.f k d e g h i j b).bind fun l=> (if l=true then ((impl_learned.f k b l1).bind fun c=> (some (a.1,a.2.1,a.2.2.1,a.2.2.2.1,a.2.2.2.2.1,a.2.2.2.2.2.1,c.1,c.2))) else (some (a.1,a.2.1,a.2.2.1,a.2.2.2.1,a.2.2.2.2.1,a.2.2.2.2.2.1,a.2.2.2.2.2.2,([]:List (S61))))))
theorem impl_Learn.mono:∀a0 a1 a2 a3 a4 a5 a6 a7 k,LeO (impl_Learn.f k a0 a1 a2 a3 a4 a5 a6 a7) (impl_Learn.f (k+1) a0 a1 a2 a3 a4 a5 a6 a7):=by
 intro a0 a1 a2 a3 a4 a5 a6 a7 k
 unfold impl_Learn.f
 with_reducible repeat' (first | apply impl_SelfOk.mono | apply impl_copySelf.mono | apply impl_learned.mono | exact LeO.refl _ | exact LeO.none _ | refine LeO.ite ?_ ?_ | refine LeO.bind ?_ (fun _=> ?_))
theorem impl_Learn.sepT {α:Type} {d:Kd α} {e b:Nat} {w:World} {ok C:Nat→Prop} {v:Value} {xs:List α} (h:Kd.R d e w b ok v xs) (hq:∀q,q∈e::d.E→∀p,p∈61::k61.E→q≠p):Kd.R d e w b (fun k=> ¬(C k∧∃p,p∈61::k61.E∧∃cells,w.heap[k]? =some (.cells cells p (0,0)))) v xs:=
 Kd.R_mono (Kd.R_bound h) (fun k hk hB=> by
  obtain ⟨_,_,_,q,h1,c1,h2⟩:=hk;obtain ⟨_,p,h3,c2,h4⟩:=hB
  rw [h2] at h4;injection h4 with h4;injection h4 with _ h4
  exact hq q h1 p h3 h4)
theorem impl_Learn.sepL {e:Ending} {w w':World} {r1 r2 r3:Int} {r4:List S93} {r5:List S102} {r6:List Int} {r7 r8:List S61}
  (h:∃(v3_ v4_ v5_ v6_ v7_:Value) (M:Nat→Prop),e=.returned (.tuple #[.agg #[.int .i64 r1,.int .i64 r2,.int .i64 r3,v3_,v4_,v5_,v6_],v7_])∧Kd.R k93 93 w' w.heap.size (fun _=> True) v3_ r4∧Kd.R k102 102 w' w.heap.size (fun _=> True) v4_ r5∧Kd.R (Kd.int .i64) 3 w' w.heap.size (fun _=> True) v5_ r6∧Kd.S k61 61 w' w.heap.size M v6_ r7∧Kd.S k61 61 w' w.heap.size (fun k=> ¬M k) v7_ r8∧Below w.heap.size w w'):
  ∃(v3_ v4_ v5_ v6_ v7_:Value) (M:Nat→Prop),e=.returned (.tuple #[.agg #[.int .i64 r1,.int .i64 r2,.int .i64 r3,v3_,v4_,v5_,v6_],v7_])∧Kd.R k93 93 w' w.heap.size M v3_ r4∧Kd.R k102 102 w' w.heap.size M v4_ r5∧Kd.R (Kd.int .i64) 3 w' w.heap.size M v5_ r6∧Kd.S k61 61 w' w.heap.size M v6_ r7∧Kd.S k61 61 w' w.heap.size (fun k=> ¬M k) v7_ r8∧Below w.heap.size w w':=by
 obtain ⟨v3,v4,v5,v6,v7,M,he,h3,h4,h5,h6,h7,hb⟩:=h
 exact ⟨v3,v4,v5,v6,v7,_,he,impl_Learn.sepT (C:=fun k=> ¬M k) h3 (by decide),impl_Learn.sepT h4 (by decide),impl_Learn.sepT h5 (by decide),Kd.S_mono h6 (fun _ hk hB=> hB.1 hk),Kd.S_mono (Kd.S_bound h7) (fun _ hk hn=> hn ⟨hk.1,hk.2.2.2⟩),hb⟩
set_option maxHeartbeats 8000000 in
set_option maxRecDepth 100000 in
theorem impl_Learn.calls (k:Nat) (Ar:Int) (As:Int) (At:Int) (Aw:Option Addr) (Ax:Nat) (Ai:List (S93)) (Ay:Option Addr) (Az:Nat) (Aj:List (S102)) (Ba:Option Addr) (Bb:Nat) (Ak:List Int) (Au:Option Addr) (Av:Nat) (Ae:List (S61)) (A1:Option Addr) (c1:Nat) (l1:List (S61)) (r1:Int) (r2:Int) (r3:Int) (r4:List (S93)) (r5:List (S102)) (r6:List Int) (r7:List (S61)) (r8:List (S61)) (w:World) (hr0_3:Kd.C k93 w Aw Ai.length Ai) (hc0_3:Ai.length≤Ax) (hr0_4:Kd.C k102 w Ay Aj.length Aj) (hc0_4:Aj.length≤Az) (hr0_5:Kd.C (Kd.int .i64) w Ba Ak.length Ak) (hc0_5:Ak.length≤Bb) (hr0_6:Kd.C k61 w Au Ae.length Ae) (hc0_6:Ae.length≤Av) (hr1:Kd.C k61 w A1 l1.length l1) (hc1:l1.length≤c1) (h:impl_Learn.f k Ar As At Ai Aj Ak Ae l1=some (r1,r2,r3,r4,r5,r6,r7,r8)):
  Calls Try.prog 28 #[.agg #[.int .i64 Ar,.int .i64 As,.int .i64 At,.slice Aw Ai.length Ax,.slice Ay Aj.length Az,.slice Ba Ak.length Bb,.slice Au Ae.length Av],.slice A1 l1.length c1] w fun e w'=> ∃(v3_ v4_ v5_ v6_ v7_:Value) (M:Nat→Prop),e=.returned (.tuple #[.agg #[.int .i64 r1,.int .i64 r2,.int .i64 r3,v3_,v4_,v5_,v6_],v7_])∧Kd.R k93 93 w' w.heap.size M v3_ r4∧Kd.R k102 102 w' w.heap.size M v4_ r5∧Kd.R (Kd.int .i64) 3 w' w.heap.size M v5_ r6∧Kd.S k61 61 w' w.heap.size M v6_ r7∧Kd.S k61 61 w' w.heap.size (fun k_=> ¬M k_) v7_ r8∧Below w.heap.size w w':=by
 have hu43:=Try.underlying43;have Bl:=ak hr0_3;have Bm:=ak hc0_3;clear hr0_3 hc0_3;have Bn:=ak hr0_4;have Bo:=ak hc0_4;clear hr0_4 hc0_4;have Bp:=ak hr0_5;have Bq:=ak hc0_5;clear hr0_5 hc0_5;have Bc:=ak hr0_6;have Bd:=ak hc0_6;clear hr0_6 hc0_6;have HR1:=ak hr1;have Fs:=ak hc1;clear hr1 hc1;have HB:=ak (Below.refl w.heap.size w);have H:=h
 clear h;unfold impl_Learn.f at H;replace H:=bsi H;obtain ⟨⟨Be,Bf,Bg,Bh,Bi,Bj,Bk⟩,A30,H⟩:=H
 (try dsimp only at H)
 have A3:=ak A30;clear A30;replace H:=bsi H;obtain ⟨Bt,A40,H⟩:=H
 (try dsimp only at H)
 have A4:=ak A40;clear A40;have Bw:=ak H;clear H
 go_enter Try.func28,Try.ntmps28
 go_upto_if 13 with (first | ((with_reducible refine gate_dst (N:=2) rfl ?_);refine box_q 2 #[.int .i64 Ar,.int .i64 As,.int .i64 At,.slice Aw Ai.length Ax,.slice Ay Aj.length Az,.slice Ba Ak.length Bb,.slice Au Ae.length Av] 43 ?_;intro Gh hg w6 hbox hb;have Ab:=ak (hbox);have Gi:=gs_ HB hg;replace HB:=hB_ HB hb;clear hb hbox hg) | ((with_reducible refine gate_dst (N:=4) rfl ?_);refine box_q 4 #[.int .i64 0,.int .i64 0,.int .i64 0,.slice none 0 0,.slice none 0 0,.slice none 0 0,.slice none 0 0] 43 ?_;intro Br hg w7 hbox hb;have Aa:=ak (hbox);have Gj:=gs_ HB hg;replace HB:=hB_ HB hb;have Al:=nb_ Ab hg;have Am:=nB_ Ab hg;replace Ab:=bb_ Ab hb;clear hb hbox hg;have Hc:=Al.out;have Hd:=Am.out;obtain ⟨Ft,Fu,Fv,Fw,Fx,Fy,Fz,Ga,Gb,Gc,Gd,Ge,Gf,Gg⟩:=cf7_ Ab) | ((with_reducible refine gC_ 96 ?_);refine gL_ 10 Try.func96 #[.agg #[.int .i64 Ar,.int .i64 As,.int .i64 At,.slice Aw Ai.length Ax,.slice Ay Aj.length Az,.slice Ba Ak.length Bb,.slice Au Ae.length Av]] ?_;(with_reducible refine (impl_copySelf.calls k Ar As At _ _ Ai _ _ Aj _ _ Ak _ _ Ae Be Bf Bg Bh Bi Bj Bk _ ?_ ?_ ?_ ?_ ?_ ?_ ?_ ?_ A3.out).mono ?_);exact ch_ Bl HB;exact Bm.out;exact ch_ Bn HB;exact Bo.out;exact ch_ Bp HB;exact Bq.out;exact ch_ Bc HB;exact Bd.out;rintro e w10 ⟨v715,v718,v721,v724,rfl,ho0,ho1,ho2,ho3,hb⟩;refine ⟨_,rfl,?_⟩;have hs_v715:(v715:Value).oneCell'=true:=(by first | (have h_:=Kd.R_slice ho0;obtain ⟨A_,c_,e_⟩:=h_;simp [e_,Value.oneCell']) | (have h_:=Kd.S_slice ho0;obtain ⟨A_,c_,e_⟩:=h_;simp [e_,Value.oneCell']) | (have h_:=Kd.N_slice ho0;obtain ⟨A_,c_,e_⟩:=h_;simp [e_,Value.oneCell']) | (have h_:=Kd.V_slice ho0;obtain ⟨A_,c_,e_⟩:=h_;simp [e_,Value.oneCell']));have hst_v715:=fun (w_:World) (a_:Addr) m_=> run_store Try.prog w_ a_ v715 m_ hs_v715;have hs_v718:(v718:Value).oneCell'=true:=(by first | (have h_:=Kd.R_slice ho1;obtain ⟨A_,c_,e_⟩:=h_;simp [e_,Value.oneCell']) | (have h_:=Kd.S_slice ho1;obtain ⟨A_,c_,e_⟩:=h_;simp [e_,Value.oneCell']) | (have h_:=Kd.N_slice ho1;obtain ⟨A_,c_,e_⟩:=h_;simp [e_,Value.oneCell']) | (have h_:=Kd.V_slice ho1;obtain ⟨A_,c_,e_⟩:=h_;simp [e_,Value.oneCell']));have hst_v718:=fun (w_:World) (a_:Addr) m_=> run_store Try.prog w_ a_ v718 m_ hs_v718;have hs_v721:(v721:Value).oneCell'=true:=(by first | (have h_:=Kd.R_slice ho2;obtain ⟨A_,c_,e_⟩:=h_;simp [e_,Value.oneCell']) | (have h_:=Kd.S_slice ho2;obtain ⟨A_,c_,e_⟩:=h_;simp [e_,Value.oneCell']) | (have h_:=Kd.N_slice ho2;obtain ⟨A_,c_,e_⟩:=h_;simp [e_,Value.oneCell']) | (have h_:=Kd.V_slice ho2;obtain ⟨A_,c_,e_⟩:=h_;simp [e_,Value.oneCell']));have hst_v721:=fun (w_:World) (a_:Addr) m_=> run_store Try.prog w_ a_ v721 m_ hs_v721;have hs_v724:(v724:Value).oneCell'=true:=(by first | (have h_:=Kd.R_slice ho3;obtain ⟨A_,c_,e_⟩:=h_;simp [e_,Value.oneCell']) | (have h_:=Kd.S_slice ho3;obtain ⟨A_,c_,e_⟩:=h_;simp [e_,Value.oneCell']) | (have h_:=Kd.N_slice ho3;obtain ⟨A_,c_,e_⟩:=h_;simp [e_,Value.oneCell']) | (have h_:=Kd.V_slice ho3;obtain ⟨A_,c_,e_⟩:=h_;simp [e_,Value.oneCell']));have hst_v724:=fun (w_:World) (a_:Addr) m_=> run_store Try.prog w_ a_ v724 m_ hs_v724;have Af:=ak (Kd.R_lower ho0 (below_size (bw_q HB)));have Ag:=ak (Kd.R_lower ho1 (below_size (bw_q HB)));have Ah:=ak (Kd.R_lower ho2 (below_size (bw_q HB)));have Ad:=ak (Kd.S_lower ho3 (below_size (bw_q HB)));replace Ab:=bb_ Ab hb;replace Aa:=bb_ Aa hb;replace HB:=hB_ HB hb;(try clear ho0);(try clear ho1);(try clear ho2);(try clear ho3)) | ((with_reducible refine gate_dst (N:=6) rfl ?_);refine box_q 6 #[.int .i64 0,.int .i64 0,.int .i64 0,.slice none 0 0,.slice none 0 0,.slice none 0 0,.slice none 0 0] 43 ?_;intro Gk hg w11 hbox hb;replace Af:=rb_ Af hb;replace Ag:=rb_ Ag hb;replace Ah:=rb_ Ah hb;replace Ad:=sb_ Ad hb;have Ac:=ak (hbox);have Gl:=gs_ HB hg;replace HB:=hB_ HB hb;have An:=nb_ Ab hg;have Ao:=nB_ Ab hg;replace Ab:=bb_ Ab hb;have Ap:=nb_ Aa hg;have Aq:=nB_ Aa hg;replace Aa:=bb_ Aa hb;clear hb hbox hg;have Gm:=Ao.out;have Gn:=An.out;have Go:=Aq.out;have Gp:=Ap.out;obtain ⟨By,Bz,Ca,Cb,Cc,Cd,Ce,Cf,Cg,Ch,Ci,Cj,Ck,Cl⟩:=cf7_ Ac;obtain ⟨Ao15,co15,eo15⟩:=Kd.R_slice Af.out;subst eo15;obtain ⟨Ao16,co16,eo16⟩:=Kd.R_slice Ag.out;subst eo16;obtain ⟨Ao17,co17,eo17⟩:=Kd.R_slice Ah.out;subst eo17;obtain ⟨Ao18,co18,eo18⟩:=Kd.S_slice Ad.out;subst eo18;obtain ⟨Cm,Cn,Co,Cp,Cq,Cr,Cs,Ct,Cu,Cv,Cw,Cx,Cy,Cz⟩:=cf7_ Ab) | ((with_reducible refine gC_ 23 ?_);refine gL_ 12 Try.func23 #[.agg #[.int .i64 Ar,.int .i64 As,.int .i64 At,.slice Aw Ai.length Ax,.slice Ay Aj.length Az,.slice Ba Ak.length Bb,.slice Au Ae.length Av]] ?_;(with_reducible refine (impl_SelfOk.calls k Ar As At _ _ Ai _ _ Aj _ _ Ak _ _ Ae Bt _ ?_ ?_ ?_ ?_ ?_ ?_ ?_ ?_ A4.out).mono ?_);exact Kd.C_below Bl.out (bw_q HB);exact Bm.out;exact Kd.C_below Bn.out (bw_q HB);exact Bo.out;exact Kd.C_below Bp.out (bw_q HB);exact Bq.out;exact Kd.C_below Bc.out (bw_q HB);exact Bd.out;rintro e w20 ⟨rfl,hb⟩;refine ⟨_,rfl,?_⟩;replace Af:=ak (Kd.R_below (by exact (Kd.R_mono (rF_ (Kd.R_types Af.out Ac.out (by decide))) (fun _ h_=> h_.1))) hb);replace Ag:=ak (Kd.R_below (by exact (Kd.R_mono (rF_ (Kd.R_types Ag.out Ac.out (by decide))) (fun _ h_=> h_.1))) hb);replace Ah:=ak (Kd.R_below (by exact (Kd.R_mono (rF_ (Kd.R_types Ah.out Ac.out (by decide))) (fun _ h_=> h_.1))) hb);replace Ad:=ak (Kd.S_below (by exact (Kd.S_mono (sF_ (Kd.S_types Ad.out Ac.out (by decide))) (fun _ h_=> h_.1))) hb);replace Ab:=bF_ Ab hb;replace Aa:=bF_ Aa hb;replace Ac:=bB_ #[.int .i64 Be,.int .i64 Bf,.int .i64 Bg,.slice Ao15 Bh.length co15,.slice Ao16 Bi.length co16,.slice Ao17 Bj.length co17,.slice Ao18 Bk.length co18] Ac hb;replace HB:=hB_ HB hb))
 have H:=Bw.out;clear Bw
 by_cases c21:Bt=true
 ·subst c21;rw [if_pos rfl] at H;replace H:=bsi H;obtain ⟨⟨Bu,Bx⟩,A220,H⟩:=H
  (try dsimp only at H)
  have A22:=ak A220;clear A220
  simp only [Option.some.injEq,Prod.mk.injEq] at H
  obtain ⟨rfl,rfl,rfl,rfl,rfl,rfl,rfl,rfl⟩:=H;have Gq:=Al.out;have Gr:=Am.out;have Gs:=An.out;have Gt:=Ao.out;obtain ⟨Da,Db,Dc,Dd,De,Df,Dg,Dh,Di,Dj,Dk,Dl,Dm,Dn⟩:=cf7_ Ab
  go_wp2_with (first | ((with_reducible refine gC_ 97 ?_);refine gL_ 19 Try.func97 #[.slice Au Ae.length Av,.slice A1 l1.length c1] ?_;(with_reducible refine (impl_learned.calls k _ _ Ae _ _ l1 Bu Bx _ ?_ ?_ ?_ ?_ A22.out).mono ?_);exact ch_ Bc HB;exact Bd.out;exact ch_ HR1 HB;exact Fs.out;rintro e w26 ⟨v730,v732,M,rfl,ho0,ho1,hb⟩;refine ⟨_,rfl,?_⟩;replace Af:=rb_ Af hb;replace Ag:=rb_ Ag hb;replace Ah:=rb_ Ah hb;have Bs:=ak (Kd.S_lower (Kd.S_new' ho0 (Kd.S_lt (kS_q Ad))) (below_size (bw_q HB)));have Bv:=ak (Kd.S_lower (Kd.S_new' ho1 (Kd.S_lt (kS_q Ad))) (below_size (bw_q HB)));replace Ad:=ak (Kd.S_mono (Kd.S_told (Kd.S_told (Kd.S_old (kS_q Ad) hb) (Kd.S_base ho0)) (Kd.S_base ho1)) (fun _ h_=> h_.1));replace Ab:=bb_ Ab hb;replace Aa:=bb_ Aa hb;replace Ac:=bb_ Ac hb;replace HB:=hB_ HB hb;(try clear ho0);(try clear ho1);obtain ⟨Ao27,co27,eo27⟩:=Kd.S_slice Bs.out;subst eo27;have Gu:=Aq.out;have Gv:=Ap.out;obtain ⟨Do,Dp,Dq,Dr,Ds,Dt,Du,Dv,Dw,Dx,Dy,Dz,Ea,Eb⟩:=cf7_ Ac;obtain ⟨Ec,Ed,Ee,Ef,Eg,Eh,Ei,Ej,Ek,El,Em,En,Eo,Ep⟩:=cf7_ Aa))
  refine bodyPost_ret (results_ct rfl _ _ Br 43 #[.int .i64 Be,.int .i64 Bf,.int .i64 Bg,.slice Ao15 Bh.length co15,.slice Ao16 Bi.length co16,.slice Ao17 Bj.length co17,.slice Ao27 Bu.length co27] (0,0) _ rfl (bp_ Aa) Try.underlying43 rfl (by kernel_rfl)) rfl ?_
  exact impl_Learn.sepL ⟨_,_,_,_,_,M,er_q,by exact Kd.R_mono (rF_ (Kd.R_types (Kd.R_types Af.out Ac.out (by decide)) Aa.out (by decide))) (fun _ hk=> trivial),by exact Kd.R_mono (rF_ (Kd.R_types (Kd.R_types Ag.out Ac.out (by decide)) Aa.out (by decide))) (fun _ hk=> trivial),by exact Kd.R_mono (rF_ (Kd.R_types (Kd.R_types Ah.out Ac.out (by decide)) Aa.out (by decide))) (fun _ hk=> trivial),by exact Kd.S_mono (sF_ (Kd.S_types (Kd.S_types Bs.out Ac.out (by decide)) Aa.out (by decide))) (fun _ hk=> hk.1.1.1.2),by exact Kd.S_mono (sF_ (Kd.S_types (Kd.S_types Bv.out Ac.out (by decide)) Aa.out (by decide))) (fun _ hk=> hk.1.1.1.2),bw_q HB⟩
 ·replace c21:=Bool.eq_false_iff.mpr c21;subst c21
  rw [if_neg (show ¬(false=true) by decide)] at H
  simp only [Option.some.injEq,Prod.mk.injEq] at H
  obtain ⟨rfl,rfl,rfl,rfl,rfl,rfl,rfl,rfl⟩:=H;have Gw:=Ao.out;have Gx:=An.out;have Gy:=Aq.out;have Gz:=Ap.out;obtain ⟨Eq,Er,Es,Et,Eu,Ev,Ew,Ex,Ey,Ez,Fa,Fb,Fc,Fd⟩:=cf7_ Ac;have Ha:=Am.out;have Hb:=Al.out;obtain ⟨Fe,Ff,Fg,Fh,Fi,Fj,Fk,Fl,Fm,Fn,Fo,Fp,Fq,Fr⟩:=cf7_ Aa
  go_wp2
  refine bodyPost_ret (results_ct rfl _ _ Br 43 #[.int .i64 Be,.int .i64 Bf,.int .i64 Bg,.slice Ao15 Bh.length co15,.slice Ao16 Bi.length co16,.slice Ao17 Bj.length co17,.slice Ao18 Bk.length co18] (0,0) _ rfl (bp_ Aa) Try.underlying43 rfl (by kernel_rfl)) rfl ?_
  exact impl_Learn.sepL ⟨_,_,_,_,_,fun _=> True,er_q,by exact Kd.R_mono (rF_ (Kd.R_types Af.out Aa.out (by decide))) (fun _ hk=> trivial),by exact Kd.R_mono (rF_ (Kd.R_types Ag.out Aa.out (by decide))) (fun _ hk=> trivial),by exact Kd.R_mono (rF_ (Kd.R_types Ah.out Aa.out (by decide))) (fun _ hk=> trivial),by exact Kd.S_mono (sF_ (Kd.S_types Ad.out Aa.out (by decide))) (fun _ hk=> trivial),by first | exact Kd.S_nil _ _ _ _ _ | exact Kd.N_nil _ _ _ _ _ | exact Kd.V_nil _ _ _ _ _ | exact Kd.Q_nil _ _ _ _ _ | exact Kd.R_nil _ _ _ _ _,bw_q HB⟩

/-! ### laws_eqLink: function 128 -/
def laws_eqLink.f (a:Int) (b:Int) (c:Int) (d:Int) (e:Int) (g:Int) (h:Int) (i:Int):Option (Bool):=if a=e then (if b=g then (if c=h then (if d=i then (some true) else (some false)) else (some false)) else (some false)) else (some false)
set_option maxHeartbeats 8000000 in
set_option maxRecDepth 100000 in
theorem laws_eqLink.calls (Ag:Int) (Ah:Int) (Ai:Int) (Aj:Int) (Ak:Int) (Al:Int) (Am:Int) (An:Int) (r:Bool) (w:World) (h:laws_eqLink.f Ag Ah Ai Aj Ak Al Am An=some r):
  Calls Try.prog 128 #[.agg #[.int .i64 Ag,.int .i64 Ah,.int .i64 Ai,.int .i64 Aj],.agg #[.int .i64 Ak,.int .i64 Al,.int .i64 Am,.int .i64 An]] w fun e w'=> e=.returned (.bool r)∧Below w.heap.size w w':=by
 have hu93:=Try.underlying93;have HB:=ak (Below.refl w.heap.size w);have H:=h
 clear h;unfold laws_eqLink.f at H;have Au:=ak H;clear H
 go_enter Try.func128,Try.ntmps128
 go_upto_if 9 with (first | ((with_reducible refine gate_dst (N:=2) rfl ?_);refine box_q 2 #[.int .i64 Ag,.int .i64 Ah,.int .i64 Ai,.int .i64 Aj] 93 ?_;intro Dx hg w4 hbox hb;have Ac:=ak (hbox);have Dy:=gs_ HB hg;replace HB:=hB_ HB hb;clear hb hbox hg) | ((with_reducible refine gate_dst (N:=3) rfl ?_);refine box_q 3 #[.int .i64 Ak,.int .i64 Al,.int .i64 Am,.int .i64 An] 93 ?_;intro Dz hg w5 hbox hb;have Ad:=ak (hbox);have Ea:=gs_ HB hg;replace HB:=hB_ HB hb;have Aa:=nb_ Ac hg;have Ab:=nB_ Ac hg;replace Ac:=bb_ Ac hb;clear hb hbox hg;have Ej:=Aa.out;have Ek:=Ab.out;obtain ⟨Dh,Di,Dj,Dk,Dl,Dm,Dn,Do⟩:=cf4_ Ac;obtain ⟨Dp,Dq,Dr,Ds,Dt,Du,Dv,Dw⟩:=cf4_ Ad))
 have H:=Au.out;clear Au
 by_cases c9:Ag=Ak
 ·rw [if_pos c9] at H;have Ae:=bqi c9;have Af:=bnf c9;clear c9
  (first | rw [Ae] | rw [Af] | (simp only [i64_w,i32_w];first | rw [Ae] | rw [Af]) | skip)
  by_cases c10:Ah=Al
  ·rw [if_pos c10] at H;have Ao:=bqi c10;have Ap:=bnf c10;clear c10
   by_cases c11:Ai=Am
   ·rw [if_pos c11] at H;have Aq:=bqi c11;have Ar:=bnf c11;clear c11
    by_cases c12:Aj=An
    ·rw [if_pos c12] at H;have As:=bqi c12;have At:=bnf c12
     clear c12;obtain rfl:=Option.some.inj H;have Eb:=Aa.out;have Ec:=Ab.out;obtain ⟨Av,Aw,Ax,Ay,Az,Ba,Bb,Bc⟩:=cf4_ Ac;obtain ⟨Bd,Be,Bf,Bg,Bh,Bi,Bj,Bk⟩:=cf4_ Ad
     go_wp2
     go_ret
     exact ⟨er_q,bw_q HB⟩
    ·rw [if_neg c12] at H;have As:=bqf c12;have At:=bni c12;obtain rfl:=Option.some.inj H;have Ed:=Aa.out;have Ee:=Ab.out;obtain ⟨Bl,Bm,Bn,Bo,Bp,Bq,Br,Bs⟩:=cf4_ Ac;obtain ⟨Bt,Bu,Bv,Bw,Bx,By,Bz,Ca⟩:=cf4_ Ad
     go_wp2
     go_ret
     exact ⟨er_q,bw_q HB⟩
   ·rw [if_neg c11] at H;have Aq:=bqf c11;have Ar:=bni c11;obtain rfl:=Option.some.inj H;have Ef:=Aa.out;have Eg:=Ab.out;obtain ⟨Cb,Cc,Cd,Ce,Cf,Cg,Ch,Ci⟩:=cf4_ Ac;obtain ⟨Cj,Ck,Cl,Cm,Cn,Co,Cp,Cq⟩:=cf4_ Ad
    go_wp2
    go_ret
    exact ⟨er_q,bw_q HB⟩
  ·rw [if_neg c10] at H;have Ao:=bqf c10;have Ap:=bni c10;obtain rfl:=Option.some.inj H;have Eh:=Aa.out;have Ei:=Ab.out;obtain ⟨Cr,Cs,Ct,Cu,Cv,Cw,Cx,Cy⟩:=cf4_ Ac;obtain ⟨Cz,Da,Db,Dc,Dd,De,Df,Dg⟩:=cf4_ Ad
   go_wp2
   go_ret
   exact ⟨er_q,bw_q HB⟩
 ·rw [if_neg c9] at H;have Ae:=bqf c9;have Af:=bni c9
  (first | rw [Ae] | rw [Af] | (simp only [i64_w,i32_w];first | rw [Ae] | rw [Af]) | skip)
  obtain rfl:=Option.some.inj H
  go_wp2
  go_ret
  exact ⟨er_q,bw_q HB⟩

/-! ### laws_eqLinkS: function 84 -/
def laws_eqLinkS.l0:Nat→List (S93)→List (S93)→Int→Option (Bool)
 | 0,_,_,_=> none
 | k+1,b,c,a=> if a<(b.length:Int) then (if 0≤a then (if a<(c.length:Int) then ((laws_eqLink.f ((rd_T93 b a).f0) ((rd_T93 b a).f1) ((rd_T93 b a).f2) ((rd_T93 b a).f3) ((rd_T93 c a).f0) ((rd_T93 c a).f1) ((rd_T93 c a).f2) ((rd_T93 c a).f3)).bind fun d=> (if d=true then (laws_eqLinkS.l0 k b c (wrap64 (a+1))) else (some false))) else (none)) else (none)) else (some true)
def laws_eqLinkS.f (k:Nat) (l0:List (S93)) (l1:List (S93)):Option (Bool):=if (l0.length:Int)=(l1.length:Int) then (laws_eqLinkS.l0 k l0 l1 0) else (some false)
theorem laws_eqLinkS.mono_l:∀k,(∀y0 y1 y2,LeO (laws_eqLinkS.l0 k y0 y1 y2) (laws_eqLinkS.l0 (k+1) y0 y1 y2))
 | 0=> fun _ _ _ r h=> by simp [laws_eqLinkS.l0] at h
 | k+1=> by
  have ih0:=laws_eqLinkS.mono_l k
  ·intro y0 y1 y2
   unfold laws_eqLinkS.l0
   with_reducible repeat' (first | apply ih0 | exact LeO.refl _ | exact LeO.none _ | refine LeO.ite ?_ ?_ | refine LeO.bind ?_ (fun _=> ?_))
theorem laws_eqLinkS.mono:∀a0 a1 k,LeO (laws_eqLinkS.f k a0 a1) (laws_eqLinkS.f (k+1) a0 a1):=by
 intro a0 a1 k
 have ih0:=laws_eqLinkS.mono_l k
 unfold laws_eqLinkS.f
 with_reducible repeat' (first | apply ih0 | exact LeO.refl _ | exact LeO.none _ | refine LeO.ite ?_ ?_ | refine LeO.bind ?_ (fun _=> ?_))
def laws_eqLinkS.T6:Bool×List (List Nat×List Nat):=(true,[([],[]),([],[]),([0,1],[0,1]),([2],[2]),([],[]),([],[]),([4,5],[4,5]),([6],[6]),([3,7],[3,7]),([8],[8])])
def laws_eqLinkS.B6:List Nat:=[0,0,3,7,0,0,48,112,255,511]
theorem laws_eqLinkS.tab6:rtab .any (opsOf Try.f84 6)=laws_eqLinkS.T6:=by kernel_rfl
theorem laws_eqLinkS.bits6:waitsOk laws_eqLinkS.T6.2 laws_eqLinkS.B6=true:=by kernel_rfl
set_option maxHeartbeats 8000000 in
set_option maxRecDepth 100000 in
theorem laws_eqLinkS.calls (k:Nat) (A0:Option Addr) (c0:Nat) (l0:List (S93)) (A1:Option Addr) (c1:Nat) (l1:List (S93)) (r:Bool) (w:World) (hr0:Kd.C k93 w A0 l0.length l0) (hc0:l0.length≤c0) (hr1:Kd.C k93 w A1 l1.length l1) (hc1:l1.length≤c1) (h:laws_eqLinkS.f k l0 l1=some r):
  Calls Try.prog 84 #[.slice A0 l0.length c0,.slice A1 l1.length c1] w fun e w'=> e=.returned (.bool r)∧Below w.heap.size w w':=by
 have hu93:=Try.underlying93;have HR0:=ak hr0;have At:=ak hc0;clear hr0 hc0;have HR1:=ak hr1;have Au:=ak hc1;clear hr1 hc1;have HB:=ak (Below.refl w.heap.size w);have H:=h
 clear h;unfold laws_eqLinkS.f at H
 by_cases c3:(l0.length:Int)=(l1.length:Int)
 ·rw [if_pos c3] at H;have Aj:=bqi c3;have Ak:=bnf c3
  have Al:(l0.length==l1.length)=true:=by first | simpa using c3 | (simp at c3 ⊢;omega)
  clear c3;have H':=ak H;clear H
  go_enter Try.func84,Try.ntmps84
  go_wp2
  go_loopg [5] k (fun kq v5 w'=> ∃(Aa:Int),v5=.int .i64 Aa∧Aside0 (laws_eqLinkS.l0 kq l0 l1 Aa=some r)∧Aside0 (kq≤k)∧Aside0 (Below w.heap.size w w'))
  case atStart=> exact ⟨(0),rs_q,H',⟨Nat.le_refl _⟩,⟨bw_q HB⟩⟩
  case round=>
   clear H';(try clear c1);(try clear p2);(try clear c3);(try clear Aj);(try clear Ak);(try clear Al);obtain ⟨Aa,rfl,HA,Ap,HB⟩:=hrel
   cases gk with
   | zero=> exact absurd HA.out (by simp [laws_eqLinkS.l0])
   | succ k1=>
    have H:=HA.out;clear HA
    simp only [laws_eqLinkS.l0] at H
    by_cases c4:Aa<(l0.length:Int)
    ·rw [if_pos c4] at H;have Aq:=decide_eq_true c4;clear c4
     by_cases c5:0≤Aa
     ·rw [if_pos c5] at H;have Ar:=decide_eq_true c5;clear c5
      by_cases c6:Aa<(l1.length:Int)
      ·rw [if_pos c6] at H;have As:=decide_eq_true c6
       clear c6;replace H:=bsi H;obtain ⟨Am,A70,H⟩:=H
       (try dsimp only at H)
       have A7:=ak A70;clear A70;have HZ19:=ak H;clear H
       try go_wp2
       replace HB:=ak (below_drew1 HB.out)
       have p186:0≤(Aa:Int):=of_decide_eq_true as_q
       have q186:Aa<(l0.length:Int):=of_decide_eq_true as_q
       obtain ⟨An,e186,Ab,Ac,Ad,Ae⟩:=at_T93 HR0.out Aa p186 q186;have hw186_3:=Ae;have hw186_2:=Ad;have hw186_1:=Ac;have hw186_0:=Ab
       cases e186
       obtain ⟨Ab,Ac,Ad,Ae⟩:=hb4_ HB Ab Ac Ad Ae;replace p186:=eq_true p186;replace q186:=eq_true q186
       have p187:0≤(Aa:Int):=of_decide_eq_true as_q
       have q187:Aa<(l1.length:Int):=of_decide_eq_true as_q
       obtain ⟨Ao,e187,Af,Ag,Ah,Ai⟩:=at_T93 HR1.out Aa p187 q187;have hw187_3:=Ai;have hw187_2:=Ah;have hw187_1:=Ag;have hw187_0:=Af
       cases e187
       obtain ⟨Af,Ag,Ah,Ai⟩:=hb4_ HB Af Ag Ah Ai;replace p187:=eq_true p187;replace q187:=eq_true q187
       refine start_ (n:=10) (S:=fun w'=> el4 w' (An.add ((Aa).toNat*4)) (.int .i64 ((rd_T93 l0 Aa).f0)) (.int .i64 ((rd_T93 l0 Aa).f1)) (.int .i64 ((rd_T93 l0 Aa).f2)) (.int .i64 ((rd_T93 l0 Aa).f3))∧el4 w' (Ao.add ((Aa).toNat*4)) (.int .i64 ((rd_T93 l1 Aa).f0)) (.int .i64 ((rd_T93 l1 Aa).f1)) (.int .i64 ((rd_T93 l1 Aa).f2)) (.int .i64 ((rd_T93 l1 Aa).f3))) (ds:=[]) (bL 10 0) (by kernel_rfl) rfl rfl ⟨hb4_ HB hw186_0 hw186_1 hw186_2 hw186_3,hb4_ HB hw187_0 hw187_1 hw187_2 hw187_3⟩ (fun hHeld=> ?_);refine with_tabW laws_eqLinkS.tab6 laws_eqLinkS.bits6 (fun HT_ HW_=> ?_)
       generalize wr.drew=w9 at HB Ab Ac Ad Ae Af Ag Ah Ai hHeld ⊢
       refine pQ_ 0 HT_ ?_
       refine pQ_ 1 HT_ ?_
       refine pQ_ 2 HT_ ?_
       refine pQ_ 4 HT_ ?_
       refine pQ_ 5 HT_ ?_
       refine pQ_ 6 HT_ ?_
       refine take_ (i:=3) (N:=some 20) (v:=?_) (a':=?_) (bL 10 127) rfl rfl (take_ofW HT_.out HW_.out (by kernel_rfl)) (fun _ _ _ h=> h) (Or.inl ⟨by rfl,?_⟩) hHeld ?_ ?_;rotate_left;(rintro w' ⟨s0,s1⟩;go_simp;with_reducible rfl);rotate_left;(exact put_q)
       refine take_ (i:=7) (N:=some 24) (v:=?_) (a':=?_) (bL 10 255) rfl rfl (take_ofW HT_.out HW_.out (by kernel_rfl)) (fun _ _ _ h=> h) (Or.inl ⟨by rfl,?_⟩) hHeld ?_ ?_;rotate_left;(rintro w' ⟨s0,s1⟩;go_simp;with_reducible rfl);rotate_left;(exact put_q)
       refine one_ (i:=8) (N:=some 25) (bL 10 511) rfl rfl (one_of HT_.out (by kernel_rfl)) (by decide) (fun K hK=> ?_)
       refine goes_ Try.func128 (by kernel_rfl) rfl #[.agg #[.int .i64 ((rd_T93 l0 Aa).f0),.int .i64 ((rd_T93 l0 Aa).f1),.int .i64 ((rd_T93 l0 Aa).f2),.int .i64 ((rd_T93 l0 Aa).f3)],.agg #[.int .i64 ((rd_T93 l1 Aa).f0),.int .i64 ((rd_T93 l1 Aa).f1),.int .i64 ((rd_T93 l1 Aa).f2),.int .i64 ((rd_T93 l1 Aa).f3)]] (by rfl) rfl rfl mp_q ?_
       with_reducible refine (laws_eqLink.calls ((rd_T93 l0 Aa).f0) ((rd_T93 l0 Aa).f1) ((rd_T93 l0 Aa).f2) ((rd_T93 l0 Aa).f3) ((rd_T93 l1 Aa).f0) ((rd_T93 l1 Aa).f1) ((rd_T93 l1 Aa).f2) ((rd_T93 l1 Aa).f3) Am _ A7.out).mono ?_
       rintro e w10 ⟨rfl,hb⟩
       refine ⟨_,rfl,?_⟩
       replace HB:=hB_ HB hb
       refine hK.out _ _ ⟨hb4_ HB hw186_0 hw186_1 hw186_2 hw186_3,hb4_ HB hw187_0 hw187_1 hw187_2 hw187_3⟩ (fun hHeld=> ?_)
       clear hK K
       refine norm_ (a':=?_) ?_ ?_;rotate_left;(show Act.put _ (some 25) _=_;simp only [Act.put,List.setIfInBounds_toArray,List.set_cons_zero,List.set_cons_succ,i64_w,i32_w];rfl)
       refine pQ_ 9 HT_ ?_
       have H:=HZ19.out;clear HZ19
       by_cases c8:Am=true
       ·subst c8;rw [if_pos rfl] at H;have H':=ak H;clear H
        refine done_ (done_of HT_.out (by kernel_rfl)) ?_
        try go_wp2
        go_roundg k1
        case measure=> have:=Ap.out;omega
        case rel=> exact ⟨(wrap64 (Aa+1)),rs_q,H',⟨by have:=Ap.out;omega⟩,⟨bw_q HB⟩⟩
       ·replace c8:=Bool.eq_false_iff.mpr c8;subst c8
        rw [if_neg (show ¬(false=true) by decide)] at H
        obtain rfl:=Option.some.inj H
        refine done_ (done_of HT_.out (by kernel_rfl)) ?_
        try go_wp2
        go_ret
        exact ⟨er_q,bw_q HB⟩
      ·rw [if_neg c6] at H
       exact absurd H (by simp)
     ·rw [if_neg c5] at H
      exact absurd H (by simp)
    ·rw [if_neg c4] at H;have Aq:=decide_eq_false c4
     clear c4;obtain rfl:=Option.some.inj H
     go_wp2
     go_ret
     exact ⟨er_q,bw_q HB⟩
 ·rw [if_neg c3] at H;have Aj:=bqf c3;have Ak:=bni c3
  have Al:(l0.length==l1.length)=false:=by first | simpa using c3 | (simp at c3 ⊢;omega)
  obtain rfl:=Option.some.inj H
  go_enter Try.func84,Try.ntmps84
  go_wp2
  go_ret
  exact ⟨er_q,bw_q HB⟩

/-! ### laws_eqThing: function 129 -/
def laws_eqThing.f (a:Int) (b:Int) (c:Int) (d:Bool) (e:Int) (g:Int) (h:Int) (i:Bool):Option (Bool):=if a=e then (if b=g then (if c=h then (if (d !=i)=true then (some false) else (some true)) else (some false)) else (some false)) else (some false)
set_option maxHeartbeats 8000000 in
set_option maxRecDepth 100000 in
theorem laws_eqThing.calls (Ai:Int) (Aj:Int) (Ak:Int) (Ad:Bool) (Al:Int) (Am:Int) (An:Int) (Ae:Bool) (r:Bool) (w:World) (h:laws_eqThing.f Ai Aj Ak Ad Al Am An Ae=some r):
  Calls Try.prog 129 #[.agg #[.int .i64 Ai,.int .i64 Aj,.int .i64 Ak,.bool Ad],.agg #[.int .i64 Al,.int .i64 Am,.int .i64 An,.bool Ae]] w fun e w'=> e=.returned (.bool r)∧Below w.heap.size w w':=by
 have hu102:=Try.underlying102;have HB:=ak (Below.refl w.heap.size w);have H:=h
 clear h;unfold laws_eqThing.f at H;have Av:=ak H;clear H
 go_enter Try.func129,Try.ntmps129
 go_upto_if 9 with (first | ((with_reducible refine gate_dst (N:=2) rfl ?_);refine box_q 2 #[.int .i64 Ai,.int .i64 Aj,.int .i64 Ak,.bool Ad] 102 ?_;intro Dy hg w4 hbox hb;have Ac:=ak (hbox);have Dz:=gs_ HB hg;replace HB:=hB_ HB hb;clear hb hbox hg) | ((with_reducible refine gate_dst (N:=3) rfl ?_);refine box_q 3 #[.int .i64 Al,.int .i64 Am,.int .i64 An,.bool Ae] 102 ?_;intro Ea hg w5 hbox hb;have Af:=ak (hbox);have Eb:=gs_ HB hg;replace HB:=hB_ HB hb;have Aa:=nb_ Ac hg;have Ab:=nB_ Ac hg;replace Ac:=bb_ Ac hb;clear hb hbox hg;have El:=Aa.out;have Em:=Ab.out;obtain ⟨Di,Dj,Dk,Dl,Dm,Dn,Do,Dp⟩:=cf4_ Ac;obtain ⟨Dq,Dr,Ds,Dt,Du,Dv,Dw,Dx⟩:=cf4_ Af))
 have H:=Av.out;clear Av
 by_cases c9:Ai=Al
 ·rw [if_pos c9] at H;have Ag:=bqi c9;have Ah:=bnf c9;clear c9
  (first | rw [Ag] | rw [Ah] | (simp only [i64_w,i32_w];first | rw [Ag] | rw [Ah]) | skip)
  by_cases c10:Aj=Am
  ·rw [if_pos c10] at H;have Ao:=bqi c10;have Ap:=bnf c10;clear c10
   by_cases c11:Ak=An
   ·rw [if_pos c11] at H;have Aq:=bqi c11;have Ar:=bnf c11;clear c11
    by_cases c12:(Ad !=Ae)=true
    ·rw [if_pos c12] at H
     have As:(Ad !=Ae)=true:=c12
     (try (have At:decide (Ad=Ae)=false:=by simpa using c12))
     (try (have Au:(Ad==Ae)=false:=by simpa using c12))
     (try (have Ec:¬(Ad=Ae):=by simpa using c12))
     clear c12;obtain rfl:=Option.some.inj H;have Ed:=Aa.out;have Ee:=Ab.out;obtain ⟨Aw,Ax,Ay,Az,Ba,Bb,Bc,Bd⟩:=cf4_ Ac;obtain ⟨Be,Bf,Bg,Bh,Bi,Bj,Bk,Bl⟩:=cf4_ Af
     go_wp2
     go_ret
     exact ⟨er_q,bw_q HB⟩
    ·rw [if_neg c12] at H
     have As:(Ad !=Ae)=false:=by simpa using c12
     (try (have At:decide (Ad=Ae)=true:=by simpa using c12))
     (try (have Au:(Ad==Ae)=true:=by simpa using c12))
     clear c12;obtain rfl:=Option.some.inj H;have Ef:=Aa.out;have Eg:=Ab.out;obtain ⟨Bm,Bn,Bo,Bp,Bq,Br,Bs,Bt⟩:=cf4_ Ac;obtain ⟨Bu,Bv,Bw,Bx,By,Bz,Ca,Cb⟩:=cf4_ Af
     go_wp2
     go_ret
     exact ⟨er_q,bw_q HB⟩
   ·rw [if_neg c11] at H;have Aq:=bqf c11;have Ar:=bni c11;obtain rfl:=Option.some.inj H;have Eh:=Aa.out;have Ei:=Ab.out;obtain ⟨Cc,Cd,Ce,Cf,Cg,Ch,Ci,Cj⟩:=cf4_ Ac;obtain ⟨Ck,Cl,Cm,Cn,Co,Cp,Cq,Cr⟩:=cf4_ Af
    go_wp2
    go_ret
    exact ⟨er_q,bw_q HB⟩
  ·rw [if_neg c10] at H;have Ao:=bqf c10;have Ap:=bni c10;obtain rfl:=Option.some.inj H;have Ej:=Aa.out;have Ek:=Ab.out;obtain ⟨Cs,Ct,Cu,Cv,Cw,Cx,Cy,Cz⟩:=cf4_ Ac;obtain ⟨Da,Db,Dc,Dd,De,Df,Dg,Dh⟩:=cf4_ Af
   go_wp2
   go_ret
   exact ⟨er_q,bw_q HB⟩
 ·rw [if_neg c9] at H;have Ag:=bqf c9;have Ah:=bni c9
  (first | rw [Ag] | rw [Ah] | (simp only [i64_w,i32_w];first | rw [Ag] | rw [Ah]) | skip)
  obtain rfl:=Option.some.inj H
  go_wp2
  go_ret
  exact ⟨er_q,bw_q HB⟩

end Go.Proofs.Ythjmdiggglkeaaa.Q
