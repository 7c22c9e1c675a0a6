import Derived.Test.YthjmdiggglkeaaaXLearnQlawsszRecordS
import Derived.Test.YthjmdiggglkeaaaXLearnQlawsheldNearS
/- The contract of a Go function. -/


namespace Go.Proofs.Ythjmdiggglkeaaa.Q
open Go.RowKit Go.Proofs.YthjmdiggglkeaaaW.PrintWords Go.Proofs.YthjmdiggglkeaaaW.PrintLast Go.Proofs.YthjmdiggglkeaaaW.PrintMore
attribute [local go_sem] max2_int min2_int max_two min_two max_three min_three max_four min_four   -- for this text's walks alone
set_option linter.unusedVariables false
set_option linter.unusedSimpArgs false

/-! ### laws_heldRecordS: function 33 -/
def laws_heldRecordS.l0:Nat→List (S61)→Int→Int→Option (Int)
 | 0,_,_,_=> none
 | k+1,b,d,a=> if a<(b.length:Int) then (if 0≤a then (if ((rd_T61 b a).f0)=d then (if ((rd_T61 b a).f1)=(wrap64 (d+1)) then (if ((rd_T61 b a).f2)=(wrap64 ((wrap64 (d+1))+1)) then (if ((rd_T61 b a).f3)=(wrap64 ((wrap64 ((wrap64 (d+1))+1))+1)) then (if ((rd_T61 b a).f4)=(wrap64 ((wrap64 ((wrap64 ((wrap64 (d+1))+1))+1))+1)) then ((laws_heldNearS.f k ((rd_T61 b a).f5) (wrap64 ((wrap64 ((wrap64 ((wrap64 ((wrap64 (d+1))+1))+1))+1))+1))).bind fun c=> (if c<0 then (some (-1)) else (if ((rd_T61 b a).f6)=c then (if (((rd_T61 b a).f7) !=((Int.tmod (wrap64 (c+1)) 3)==0))=true then (some (-1)) else (laws_heldRecordS.l0 k b (wrap64 ((wrap64 (c+1))+1)) (wrap64 (a+1)))) else (some (-1))))) else (some (-1))) else (some (-1))) else (some (-1))) else (some (-1))) else (some (-1))) else (none)) else (some d)
def laws_heldRecordS.f (k:Nat) (l0:List (S61)) (a1:Int):Option (Int):=laws_heldRecordS.l0 k l0 a1 0
theorem laws_heldRecordS.mono_l:∀k,(∀y0 y1 y2,LeO (laws_heldRecordS.l0 k y0 y1 y2) (laws_heldRecordS.l0 (k+1) y0 y1 y2))
 | 0=> fun _ _ _ r h=> by simp [laws_heldRecordS.l0] at h
 | k+1=> by
  have ih0:=laws_heldRecordS.mono_l k
  ·intro y0 y1 y2
   unfold laws_heldRecordS.l0
   with_reducible repeat' (first | apply ih0 | apply laws_heldNearS.mono | exact LeO.refl _ | exact LeO.none _ | refine LeO.ite ?_ ?_ | refine LeO.bind ?_ (fun _=> ?_))
theorem laws_heldRecordS.mono:∀a0 a1 k,LeO (laws_heldRecordS.f k a0 a1) (laws_heldRecordS.f (k+1) a0 a1):=by
 intro a0 a1 k
 have ih0:=laws_heldRecordS.mono_l k
 unfold laws_heldRecordS.f
 with_reducible repeat' (first | apply ih0 | apply laws_heldNearS.mono | exact LeO.refl _ | exact LeO.none _ | refine LeO.ite ?_ ?_ | refine LeO.bind ?_ (fun _=> ?_))
set_option maxHeartbeats 8000000 in
set_option maxRecDepth 100000 in
theorem laws_heldRecordS.calls (k:Nat) (A0:Option Addr) (c0:Nat) (l0:List (S61)) (a1:Int) (r:Int) (w:World) (hr0:Kd.C k61 w A0 l0.length l0) (hc0:l0.length≤c0) (h:laws_heldRecordS.f k l0 a1=some r):
  Calls Try.prog 33 #[.slice A0 l0.length c0,.int .i64 a1] w fun e w'=> e=.returned (.int .i64 r)∧Drawn0 w w':=by
 have HR0:=ak hr0;have Ep:=ak hc0;clear hr0 hc0;have H:=h
 clear h;unfold laws_heldRecordS.f at H;have H':=ak H;clear H
 go_enter Try.func33,Try.ntmps33
 go_wp2
 go_loopg [1,5] k (fun kq v1 v5 w'=> ∃(Ab:Int) (Aa:Int),v1=.int .i64 Ab∧v5=.int .i64 Aa∧Aside0 (laws_heldRecordS.l0 kq l0 Ab Aa=some r)∧Aside0 (kq≤k)∧Drawn0 w w')
 case atStart=> exact ⟨(a1),(0),rs_q,rs_q,H',⟨Nat.le_refl _⟩,by repeat (first | exact Drawn0.refl _ | apply Drawn0.step)⟩
 case round=>
  clear H';(try clear p2);obtain ⟨Ab,Aa,rfl,rfl,HA,Dw,⟨m1,rfl⟩⟩:=hrel
  cases gk with
  | zero=> exact absurd HA.out (by simp [laws_heldRecordS.l0])
  | succ k1=>
   have H:=HA.out;clear HA
   simp only [laws_heldRecordS.l0] at H
   by_cases c3:Aa<(l0.length:Int)
   ·rw [if_pos c3] at H;have Ea:=decide_eq_true c3;clear c3
    by_cases c4:0≤Aa
    ·rw [if_pos c4] at H;have Eo:=decide_eq_true c4
     clear c4;have Dx:=ak H;clear H
     have p758:0≤(Aa:Int):=of_decide_eq_true as_q
     have q758:Aa<(l0.length:Int):=of_decide_eq_true as_q
     obtain ⟨Ad,A758_5,c758_5,e758,At,Au,Av,Aw,Ax,Ay,Az,Ba,hl758_5,hi758_5⟩:=at_T61 HR0.out Aa p758 q758
     cases e758
     have Eb:=ak hi758_5;have Ec:=ak hl758_5;clear hi758_5 hl758_5;replace p758:=eq_true p758;replace q758:=eq_true q758
     go_upto_if 18 with (fail)
     (try clear At);(try clear Au);(try clear Av);(try clear Aw);(try clear Ax);(try clear Ay);(try clear Az);(try clear Ba);have H:=Dx.out;clear Dx
     by_cases c6:((rd_T61 l0 Aa).f0)=Ab
     ·rw [if_pos c6] at H;have An:=bqi c6;have Ao:=bnf c6;clear c6
      (first | rw [An] | rw [Ao] | (simp only [i64_w,i32_w];first | rw [An] | rw [Ao]) | skip)
      have Dy:=ak H;clear H
      have p759:0≤(Aa:Int):=of_decide_eq_true as_q
      have q759:Aa<(l0.length:Int):=of_decide_eq_true as_q
      obtain ⟨Dn,A759_5,c759_5,e759,Bb,Bc,Bd,Be,Bf,Bg,Bh,Bi,hl759_5,hi759_5⟩:=at_T61 HR0.out Aa p759 q759
      obtain rfl:Ad=Dn:=(by injection e759)
      have Ed:=ak hi759_5;have Ee:=ak hl759_5;clear hi759_5 hl759_5;replace p759:=eq_true p759;replace q759:=eq_true q759
      go_upto_if 27 with (fail)
      (try clear Bb);(try clear Bc);(try clear Bd);(try clear Be);(try clear Bf);(try clear Bg);(try clear Bh);(try clear Bi);have H:=Dy.out;clear Dy
      by_cases c8:((rd_T61 l0 Aa).f1)=(wrap64 (Ab+1))
      ·rw [if_pos c8] at H;have Ap:=bqi c8;have Aq:=bnf c8;clear c8
       (first | rw [Ap] | rw [Aq] | (simp only [i64_w,i32_w];first | rw [Ap] | rw [Aq]) | skip)
       have Dz:=ak H;clear H
       have p760:0≤(Aa:Int):=of_decide_eq_true as_q
       have q760:Aa<(l0.length:Int):=of_decide_eq_true as_q
       obtain ⟨Do,A760_5,c760_5,e760,Bj,Bk,Bl,Bm,Bn,Bo,Bp,Bq,hl760_5,hi760_5⟩:=at_T61 HR0.out Aa p760 q760
       obtain rfl:Ad=Do:=(by injection e760)
       have Ef:=ak hi760_5;have Eg:=ak hl760_5;clear hi760_5 hl760_5;replace p760:=eq_true p760;replace q760:=eq_true q760
       go_upto_if 36 with (fail)
       (try clear Bj);(try clear Bk);(try clear Bl);(try clear Bm);(try clear Bn);(try clear Bo);(try clear Bp);(try clear Bq);have H:=Dz.out;clear Dz
       by_cases c10:((rd_T61 l0 Aa).f2)=(wrap64 ((wrap64 (Ab+1))+1))
       ·rw [if_pos c10] at H
        have Ae:(((rd_T61 l0 Aa).f2)==(wrap64 ((wrap64 (Ab+1))+1)))=true:=bqi c10
        have Af:(((rd_T61 l0 Aa).f2) !=(wrap64 ((wrap64 (Ab+1))+1)))=false:=bnf c10
        clear c10
        (first | rw [Ae] | rw [Af] | (simp only [i64_w,i32_w];first | rw [Ae] | rw [Af]) | skip)
        have Dj:=ak H;clear H
        have p761:0≤(Aa:Int):=of_decide_eq_true as_q
        have q761:Aa<(l0.length:Int):=of_decide_eq_true as_q
        obtain ⟨Dp,A761_5,c761_5,e761,Br,Bs,Bt,Bu,Bv,Bw,Bx,By,hl761_5,hi761_5⟩:=at_T61 HR0.out Aa p761 q761
        obtain rfl:Ad=Dp:=(by injection e761)
        have Eh:=ak hi761_5;have Ei:=ak hl761_5;clear hi761_5 hl761_5;replace p761:=eq_true p761;replace q761:=eq_true q761
        go_upto_if 45 with (fail)
        (try clear Br);(try clear Bs);(try clear Bt);(try clear Bu);(try clear Bv);(try clear Bw);(try clear Bx);(try clear By);have H:=Dj.out;clear Dj
        by_cases c12:((rd_T61 l0 Aa).f3)=(wrap64 ((wrap64 ((wrap64 (Ab+1))+1))+1))
        ·rw [if_pos c12] at H
         have Ag:(((rd_T61 l0 Aa).f3)==(wrap64 ((wrap64 ((wrap64 (Ab+1))+1))+1)))=true:=bqi c12
         have Ah:(((rd_T61 l0 Aa).f3) !=(wrap64 ((wrap64 ((wrap64 (Ab+1))+1))+1)))=false:=bnf c12
         clear c12
         (first | rw [Ag] | rw [Ah] | (simp only [i64_w,i32_w];first | rw [Ag] | rw [Ah]) | skip)
         have Dk:=ak H;clear H
         have p762:0≤(Aa:Int):=of_decide_eq_true as_q
         have q762:Aa<(l0.length:Int):=of_decide_eq_true as_q
         obtain ⟨Dq,A762_5,c762_5,e762,Bz,Ca,Cb,Cc,Cd,Ce,Cf,Cg,hl762_5,hi762_5⟩:=at_T61 HR0.out Aa p762 q762
         obtain rfl:Ad=Dq:=(by injection e762)
         have Ej:=ak hi762_5;have Ek:=ak hl762_5;clear hi762_5 hl762_5;replace p762:=eq_true p762;replace q762:=eq_true q762
         go_upto_if 54 with (fail)
         (try clear Bz);(try clear Ca);(try clear Cb);(try clear Cc);(try clear Cd);(try clear Ce);(try clear Cf);(try clear Cg);have H:=Dk.out;clear Dk
         by_cases c14:((rd_T61 l0 Aa).f4)=(wrap64 ((wrap64 ((wrap64 ((wrap64 (Ab+1))+1))+1))+1))
         ·rw [if_pos c14] at H
          have Ai:(((rd_T61 l0 Aa).f4)==(wrap64 ((wrap64 ((wrap64 ((wrap64 (Ab+1))+1))+1))+1)))=true:=bqi c14
          have Aj:(((rd_T61 l0 Aa).f4) !=(wrap64 ((wrap64 ((wrap64 ((wrap64 (Ab+1))+1))+1))+1)))=false:=bnf c14
          clear c14
          (first | rw [Ai] | rw [Aj] | (simp only [i64_w,i32_w];first | rw [Ai] | rw [Aj]) | skip)
          replace H:=bsi H;obtain ⟨Ac,A150,H⟩:=H
          (try dsimp only at H)
          have A15:=ak A150;clear A150;have Dl:=ak H;clear H
          have p763:0≤(Aa:Int):=of_decide_eq_true as_q
          have q763:Aa<(l0.length:Int):=of_decide_eq_true as_q
          obtain ⟨Dr,A763_5,c763_5,e763,Ch,Ci,Cj,Ck,Cl,Cm,Cn,Co,hl763_5,hi763_5⟩:=at_T61 HR0.out Aa p763 q763
          obtain rfl:Ad=Dr:=(by injection e763)
          have Cp:=ak hi763_5;have Cq:=ak hl763_5;clear hi763_5 hl763_5;replace p763:=eq_true p763;replace q763:=eq_true q763
          go_upto_if 65 with (first | ((with_reducible refine gC_ 103 ?_);refine gL_ 63 Try.func103 #[.slice A763_5 ((rd_T61 l0 Aa).f5).length c763_5,.int .i64 (wrap64 ((wrap64 ((wrap64 ((wrap64 ((wrap64 (Ab+1))+1))+1))+1))+1))] ?_;(with_reducible refine (laws_heldNearS.calls k1 _ _ ((rd_T61 l0 Aa).f5) (wrap64 ((wrap64 ((wrap64 ((wrap64 ((wrap64 (Ab+1))+1))+1))+1))+1)) Ac _ ?_ ?_ A15.out).mono ?_);(focus repeat (first | exact Cp.out | (with_reducible refine Kd.C_alloc ?_ _) | (with_reducible refine Kd.C_drewN ?_ _) | (with_reducible refine Kd.C_drew ?_)));exact Cq.out;rintro e w' ⟨rfl,⟨nd,rfl⟩⟩;refine ⟨_,rfl,?_⟩))
          (try clear Ch);(try clear Ci);(try clear Cj);(try clear Ck);(try clear Cl);(try clear Cm);(try clear Cn);(try clear Co);have H:=Dl.out;clear Dl
          by_cases c17:Ac<0
          ·rw [if_pos c17] at H;have Ak:=decide_eq_true c17;clear c17
           (first | rw [Ak] | rw [Ar] | (simp only [i64_w,i32_w];first | rw [Ak] | rw [Ar]) | skip)
           obtain rfl:=Option.some.inj H
           go_wp2
           go_ret
           exact ⟨rs_q,dr_q⟩
          ·rw [if_neg c17] at H;have Ak:=decide_eq_false c17;clear c17
           (first | rw [Ak] | rw [Ar] | (simp only [i64_w,i32_w];first | rw [Ak] | rw [Ar]) | skip)
           have Dm:=ak H;clear H
           have p765:0≤(Aa:Int):=of_decide_eq_true as_q
           have q765:Aa<(l0.length:Int):=of_decide_eq_true as_q
           obtain ⟨Ds,A765_5,c765_5,e765,Cr,Cs,Ct,Cu,Cv,Cw,Cx,Cy,hl765_5,hi765_5⟩:=at_T61 HR0.out Aa p765 q765
           obtain rfl:Ad=Ds:=(by injection e765)
           have El:=ak hi765_5;have Em:=ak hl765_5;clear hi765_5 hl765_5;replace p765:=eq_true p765;replace q765:=eq_true q765
           go_upto_if 72 with (fail)
           (try clear Cr);(try clear Cs);(try clear Ct);(try clear Cu);(try clear Cv);(try clear Cw);(try clear Cx);(try clear Cy);have H:=Dm.out;clear Dm
           by_cases c19:((rd_T61 l0 Aa).f6)=Ac
           ·rw [if_pos c19] at H;have Al:=bqi c19;have Am:=bnf c19;clear c19
            (first | rw [Al] | rw [Am] | (simp only [i64_w,i32_w];first | rw [Al] | rw [Am]) | skip)
            by_cases c20:(((rd_T61 l0 Aa).f7) !=((Int.tmod (wrap64 (Ac+1)) 3)==0))=true
            ·rw [if_pos c20] at H
             have Dt:(((rd_T61 l0 Aa).f7) !=((Int.tmod (wrap64 (Ac+1)) 3)==0))=true:=c20
             (try (have Du:decide (((rd_T61 l0 Aa).f7)=((Int.tmod (wrap64 (Ac+1)) 3)==0))=false:=by simpa using c20))
             (try (have Dv:(((rd_T61 l0 Aa).f7)==((Int.tmod (wrap64 (Ac+1)) 3)==0))=false:=by simpa using c20))
             (try (have En:¬(((rd_T61 l0 Aa).f7)=((Int.tmod (wrap64 (Ac+1)) 3)==0)):=by simpa using c20))
             clear c20;obtain rfl:=Option.some.inj H
             have p766:0≤(Aa:Int):=of_decide_eq_true as_q
             have q766:Aa<(l0.length:Int):=of_decide_eq_true as_q
             obtain ⟨As,A766_5,c766_5,e766,Cz,Da,Db,Dc,Dd,De,Df,Dg,hl766_5,hi766_5⟩:=at_T61 HR0.out Aa p766 q766
             obtain rfl:Ad=As:=(by injection e766)
             have Dh:=ak hi766_5;have Di:=ak hl766_5;clear hi766_5 hl766_5;replace p766:=eq_true p766;replace q766:=eq_true q766
             go_wp2
             go_ret
             exact ⟨rs_q,dr_q⟩
            ·rw [if_neg c20] at H
             have Dt:(((rd_T61 l0 Aa).f7) !=((Int.tmod (wrap64 (Ac+1)) 3)==0))=false:=by simpa using c20
             (try (have Du:decide (((rd_T61 l0 Aa).f7)=((Int.tmod (wrap64 (Ac+1)) 3)==0))=true:=by simpa using c20))
             (try (have Dv:(((rd_T61 l0 Aa).f7)==((Int.tmod (wrap64 (Ac+1)) 3)==0))=true:=by simpa using c20))
             clear c20;have H':=ak H;clear H
             have p766:0≤(Aa:Int):=of_decide_eq_true as_q
             have q766:Aa<(l0.length:Int):=of_decide_eq_true as_q
             obtain ⟨As,A766_5,c766_5,e766,Cz,Da,Db,Dc,Dd,De,Df,Dg,hl766_5,hi766_5⟩:=at_T61 HR0.out Aa p766 q766
             obtain rfl:Ad=As:=(by injection e766)
             have Dh:=ak hi766_5;have Di:=ak hl766_5;clear hi766_5 hl766_5;replace p766:=eq_true p766;replace q766:=eq_true q766
             go_wp2
             go_roundg k1
             case measure=> have:=Dw.out;omega
             case rel=> exact ⟨(wrap64 ((wrap64 (Ac+1))+1)),(wrap64 (Aa+1)),rs_q,rs_q,H',⟨by have:=Dw.out;omega⟩,by repeat (first | exact Drawn0.refl _ | apply Drawn0.step)⟩
           ·rw [if_neg c19] at H;have Al:=bqf c19;have Am:=bni c19
            (first | rw [Al] | rw [Am] | (simp only [i64_w,i32_w];first | rw [Al] | rw [Am]) | skip)
            obtain rfl:=Option.some.inj H
            go_wp2
            go_ret
            exact ⟨rs_q,dr_q⟩
         ·rw [if_neg c14] at H
          have Ai:(((rd_T61 l0 Aa).f4)==(wrap64 ((wrap64 ((wrap64 ((wrap64 (Ab+1))+1))+1))+1)))=false:=bqf c14
          have Aj:(((rd_T61 l0 Aa).f4) !=(wrap64 ((wrap64 ((wrap64 ((wrap64 (Ab+1))+1))+1))+1)))=true:=bni c14
          (first | rw [Ai] | rw [Aj] | (simp only [i64_w,i32_w];first | rw [Ai] | rw [Aj]) | skip)
          obtain rfl:=Option.some.inj H
          go_wp2
          go_ret
          exact ⟨rs_q,dr_q⟩
        ·rw [if_neg c12] at H
         have Ag:(((rd_T61 l0 Aa).f3)==(wrap64 ((wrap64 ((wrap64 (Ab+1))+1))+1)))=false:=bqf c12
         have Ah:(((rd_T61 l0 Aa).f3) !=(wrap64 ((wrap64 ((wrap64 (Ab+1))+1))+1)))=true:=bni c12
         (first | rw [Ag] | rw [Ah] | (simp only [i64_w,i32_w];first | rw [Ag] | rw [Ah]) | skip)
         obtain rfl:=Option.some.inj H
         go_wp2
         go_ret
         exact ⟨rs_q,dr_q⟩
       ·rw [if_neg c10] at H
        have Ae:(((rd_T61 l0 Aa).f2)==(wrap64 ((wrap64 (Ab+1))+1)))=false:=bqf c10
        have Af:(((rd_T61 l0 Aa).f2) !=(wrap64 ((wrap64 (Ab+1))+1)))=true:=bni c10
        (first | rw [Ae] | rw [Af] | (simp only [i64_w,i32_w];first | rw [Ae] | rw [Af]) | skip)
        obtain rfl:=Option.some.inj H
        go_wp2
        go_ret
        exact ⟨rs_q,dr_q⟩
      ·rw [if_neg c8] at H;have Ap:=bqf c8;have Aq:=bni c8
       (first | rw [Ap] | rw [Aq] | (simp only [i64_w,i32_w];first | rw [Ap] | rw [Aq]) | skip)
       obtain rfl:=Option.some.inj H
       go_wp2
       go_ret
       exact ⟨rs_q,dr_q⟩
     ·rw [if_neg c6] at H;have An:=bqf c6;have Ao:=bni c6
      (first | rw [An] | rw [Ao] | (simp only [i64_w,i32_w];first | rw [An] | rw [Ao]) | skip)
      obtain rfl:=Option.some.inj H
      go_wp2
      go_ret
      exact ⟨rs_q,dr_q⟩
    ·rw [if_neg c4] at H
     exact absurd H (by simp)
   ·rw [if_neg c3] at H;have Ea:=decide_eq_false c3
    clear c3;obtain rfl:=Option.some.inj H
    go_wp2
    go_ret
    exact ⟨rs_q,dr_q⟩

/-! ### laws_heldLinkS: function 138 -/
def laws_heldLinkS.l0:Nat→List (S93)→Int→Int→Option (Int)
 | 0,_,_,_=> none
 | k+1,b,c,a=> if a<(b.length:Int) then (if 0≤a then (if ((rd_T93 b a).f0)=c then (if ((rd_T93 b a).f1)=(wrap64 (c+1)) then (if ((rd_T93 b a).f2)=(wrap64 ((wrap64 (c+1))+1)) then (if ((rd_T93 b a).f3)=(wrap64 ((wrap64 ((wrap64 (c+1))+1))+1)) then (laws_heldLinkS.l0 k b (wrap64 ((wrap64 ((wrap64 ((wrap64 (c+1))+1))+1))+1)) (wrap64 (a+1))) else (some (-1))) else (some (-1))) else (some (-1))) else (some (-1))) else (none)) else (some c)
def laws_heldLinkS.f (k:Nat) (l0:List (S93)) (a1:Int):Option (Int):=laws_heldLinkS.l0 k l0 a1 0
theorem laws_heldLinkS.mono_l:∀k,(∀y0 y1 y2,LeO (laws_heldLinkS.l0 k y0 y1 y2) (laws_heldLinkS.l0 (k+1) y0 y1 y2))
 | 0=> fun _ _ _ r h=> by simp [laws_heldLinkS.l0] at h
 | k+1=> by
  have ih0:=laws_heldLinkS.mono_l k
  ·intro y0 y1 y2
   unfold laws_heldLinkS.l0
   with_reducible repeat' (first | apply ih0 | exact LeO.refl _ | exact LeO.none _ | refine LeO.ite ?_ ?_ | refine LeO.bind ?_ (fun _=> ?_))
theorem laws_heldLinkS.mono:∀a0 a1 k,LeO (laws_heldLinkS.f k a0 a1) (laws_heldLinkS.f (k+1) a0 a1):=by
 intro a0 a1 k
 have ih0:=laws_heldLinkS.mono_l k
 unfold laws_heldLinkS.f
 with_reducible repeat' (first | apply ih0 | exact LeO.refl _ | exact LeO.none _ | refine LeO.ite ?_ ?_ | refine LeO.bind ?_ (fun _=> ?_))
set_option maxHeartbeats 8000000 in
set_option maxRecDepth 100000 in
theorem laws_heldLinkS.calls (k:Nat) (A0:Option Addr) (c0:Nat) (l0:List (S93)) (a1:Int) (r:Int) (w:World) (hr0:Kd.C k93 w A0 l0.length l0) (hc0:l0.length≤c0) (h:laws_heldLinkS.f k l0 a1=some r):
  Calls Try.prog 138 #[.slice A0 l0.length c0,.int .i64 a1] w fun e w'=> e=.returned (.int .i64 r)∧Drawn0 w w':=by
 have HR0:=ak hr0;have Bl:=ak hc0;clear hr0 hc0;have H:=h
 clear h;unfold laws_heldLinkS.f at H;have H':=ak H;clear H
 go_enter Try.func138,Try.ntmps138
 go_wp2
 go_loopg [1,5] k (fun kq v1 v5 w'=> ∃(Ab:Int) (Aa:Int),v1=.int .i64 Ab∧v5=.int .i64 Aa∧Aside0 (laws_heldLinkS.l0 kq l0 Ab Aa=some r)∧Aside0 (kq≤k)∧Drawn0 w w')
 case atStart=> exact ⟨(a1),(0),rs_q,rs_q,H',⟨Nat.le_refl _⟩,by repeat (first | exact Drawn0.refl _ | apply Drawn0.step)⟩
 case round=>
  clear H';(try clear c1);(try clear p2);obtain ⟨Ab,Aa,rfl,rfl,HA,Bf,⟨m1,rfl⟩⟩:=hrel
  cases gk with
  | zero=> exact absurd HA.out (by simp [laws_heldLinkS.l0])
  | succ k1=>
   have H:=HA.out;clear HA
   simp only [laws_heldLinkS.l0] at H
   by_cases c3:Aa<(l0.length:Int)
   ·rw [if_pos c3] at H;have Bj:=decide_eq_true c3;clear c3
    by_cases c4:0≤Aa
    ·rw [if_pos c4] at H;have Bk:=decide_eq_true c4
     clear c4;have Bg:=ak H;clear H
     have p767:0≤(Aa:Int):=of_decide_eq_true as_q
     have q767:Aa<(l0.length:Int):=of_decide_eq_true as_q
     obtain ⟨Ak,e767,Al,Am,An,Ao⟩:=at_T93 HR0.out Aa p767 q767
     cases e767
     replace p767:=eq_true p767;replace q767:=eq_true q767
     go_upto_if 18 with (fail)
     (try clear Al);(try clear Am);(try clear An);(try clear Ao);have H:=Bg.out;clear Bg
     by_cases c6:((rd_T93 l0 Aa).f0)=Ab
     ·rw [if_pos c6] at H;have Ag:=bqi c6;have Ah:=bnf c6;clear c6
      (first | rw [Ag] | rw [Ah] | (simp only [i64_w,i32_w];first | rw [Ag] | rw [Ah]) | skip)
      have Bh:=ak H;clear H
      have p768:0≤(Aa:Int):=of_decide_eq_true as_q
      have q768:Aa<(l0.length:Int):=of_decide_eq_true as_q
      obtain ⟨Bc,e768,Ap,Aq,Ar,As⟩:=at_T93 HR0.out Aa p768 q768
      obtain rfl:Ak=Bc:=(by injection e768)
      replace p768:=eq_true p768;replace q768:=eq_true q768
      go_upto_if 27 with (fail)
      (try clear Ap);(try clear Aq);(try clear Ar);(try clear As);have H:=Bh.out;clear Bh
      by_cases c8:((rd_T93 l0 Aa).f1)=(wrap64 (Ab+1))
      ·rw [if_pos c8] at H;have Ai:=bqi c8;have Aj:=bnf c8;clear c8
       (first | rw [Ai] | rw [Aj] | (simp only [i64_w,i32_w];first | rw [Ai] | rw [Aj]) | skip)
       have Bi:=ak H;clear H
       have p769:0≤(Aa:Int):=of_decide_eq_true as_q
       have q769:Aa<(l0.length:Int):=of_decide_eq_true as_q
       obtain ⟨Bd,e769,At,Au,Av,Aw⟩:=at_T93 HR0.out Aa p769 q769
       obtain rfl:Ak=Bd:=(by injection e769)
       replace p769:=eq_true p769;replace q769:=eq_true q769
       go_upto_if 36 with (fail)
       (try clear At);(try clear Au);(try clear Av);(try clear Aw);have H:=Bi.out;clear Bi
       by_cases c10:((rd_T93 l0 Aa).f2)=(wrap64 ((wrap64 (Ab+1))+1))
       ·rw [if_pos c10] at H
        have Ac:(((rd_T93 l0 Aa).f2)==(wrap64 ((wrap64 (Ab+1))+1)))=true:=bqi c10
        have Ad:(((rd_T93 l0 Aa).f2) !=(wrap64 ((wrap64 (Ab+1))+1)))=false:=bnf c10
        clear c10
        (first | rw [Ac] | rw [Ad] | (simp only [i64_w,i32_w];first | rw [Ac] | rw [Ad]) | skip)
        have Bb:=ak H;clear H
        have p770:0≤(Aa:Int):=of_decide_eq_true as_q
        have q770:Aa<(l0.length:Int):=of_decide_eq_true as_q
        obtain ⟨Be,e770,Ax,Ay,Az,Ba⟩:=at_T93 HR0.out Aa p770 q770
        obtain rfl:Ak=Be:=(by injection e770)
        replace p770:=eq_true p770;replace q770:=eq_true q770
        go_upto_if 45 with (fail)
        (try clear Ax);(try clear Ay);(try clear Az);(try clear Ba);have H:=Bb.out;clear Bb
        by_cases c12:((rd_T93 l0 Aa).f3)=(wrap64 ((wrap64 ((wrap64 (Ab+1))+1))+1))
        ·rw [if_pos c12] at H
         have Ae:(((rd_T93 l0 Aa).f3)==(wrap64 ((wrap64 ((wrap64 (Ab+1))+1))+1)))=true:=bqi c12
         have Af:(((rd_T93 l0 Aa).f3) !=(wrap64 ((wrap64 ((wrap64 (Ab+1))+1))+1)))=false:=bnf c12
         clear c12
         (first | rw [Ae] | rw [Af] | (simp only [i64_w,i32_w];first | rw [Ae] | rw [Af]) | skip)
         have H':=ak H;clear H
         go_wp2
         go_roundg k1
         case measure=> have:=Bf.out;omega
         case rel=> exact ⟨(wrap64 ((wrap64 ((wrap64 ((wrap64 (Ab+1))+1))+1))+1)),(wrap64 (Aa+1)),rs_q,rs_q,H',⟨by have:=Bf.out;omega⟩,by repeat (first | exact Drawn0.refl _ | apply Drawn0.step)⟩
        ·rw [if_neg c12] at H
         have Ae:(((rd_T93 l0 Aa).f3)==(wrap64 ((wrap64 ((wrap64 (Ab+1))+1))+1)))=false:=bqf c12
         have Af:(((rd_T93 l0 Aa).f3) !=(wrap64 ((wrap64 ((wrap64 (Ab+1))+1))+1)))=true:=bni c12
         (first | rw [Ae] | rw [Af] | (simp only [i64_w,i32_w];first | rw [Ae] | rw [Af]) | skip)
         obtain rfl:=Option.some.inj H
         go_wp2
         go_ret
         exact ⟨rs_q,dr_q⟩
       ·rw [if_neg c10] at H
        have Ac:(((rd_T93 l0 Aa).f2)==(wrap64 ((wrap64 (Ab+1))+1)))=false:=bqf c10
        have Ad:(((rd_T93 l0 Aa).f2) !=(wrap64 ((wrap64 (Ab+1))+1)))=true:=bni c10
        (first | rw [Ac] | rw [Ad] | (simp only [i64_w,i32_w];first | rw [Ac] | rw [Ad]) | skip)
        obtain rfl:=Option.some.inj H
        go_wp2
        go_ret
        exact ⟨rs_q,dr_q⟩
      ·rw [if_neg c8] at H;have Ai:=bqf c8;have Aj:=bni c8
       (first | rw [Ai] | rw [Aj] | (simp only [i64_w,i32_w];first | rw [Ai] | rw [Aj]) | skip)
       obtain rfl:=Option.some.inj H
       go_wp2
       go_ret
       exact ⟨rs_q,dr_q⟩
     ·rw [if_neg c6] at H;have Ag:=bqf c6;have Ah:=bni c6
      (first | rw [Ag] | rw [Ah] | (simp only [i64_w,i32_w];first | rw [Ag] | rw [Ah]) | skip)
      obtain rfl:=Option.some.inj H
      go_wp2
      go_ret
      exact ⟨rs_q,dr_q⟩
    ·rw [if_neg c4] at H
     exact absurd H (by simp)
   ·rw [if_neg c3] at H;have Bj:=decide_eq_false c3
    clear c3;obtain rfl:=Option.some.inj H
    go_wp2
    go_ret
    exact ⟨rs_q,dr_q⟩

/-! ### laws_heldThingS: function 139 -/
def laws_heldThingS.l0:Nat→List (S102)→Int→Int→Option (Int)
 | 0,_,_,_=> none
 | k+1,b,c,a=> if a<(b.length:Int) then (if 0≤a then (if ((rd_T102 b a).f0)=c then (if ((rd_T102 b a).f1)=(wrap64 (c+1)) then (if ((rd_T102 b a).f2)=(wrap64 ((wrap64 (c+1))+1)) then (if (((rd_T102 b a).f3) !=((Int.tmod (wrap64 ((wrap64 ((wrap64 (c+1))+1))+1)) 3)==0))=true then (some (-1)) else (laws_heldThingS.l0 k b (wrap64 ((wrap64 ((wrap64 ((wrap64 (c+1))+1))+1))+1)) (wrap64 (a+1)))) else (some (-1))) else (some (-1))) else (some (-1))) else (none)) else (some c)
def laws_heldThingS.f (k:Nat) (l0:List (S102)) (a1:Int):Option (Int):=laws_heldThingS.l0 k l0 a1 0
theorem laws_heldThingS.mono_l:∀k,(∀y0 y1 y2,LeO (laws_heldThingS.l0 k y0 y1 y2) (laws_heldThingS.l0 (k+1) y0 y1 y2))
 | 0=> fun _ _ _ r h=> by simp [laws_heldThingS.l0] at h
 | k+1=> by
  have ih0:=laws_heldThingS.mono_l k
  ·intro y0 y1 y2
   unfold laws_heldThingS.l0
   with_reducible repeat' (first | apply ih0 | exact LeO.refl _ | exact LeO.none _ | refine LeO.ite ?_ ?_ | refine LeO.bind ?_ (fun _=> ?_))
theorem laws_heldThingS.mono:∀a0 a1 k,LeO (laws_heldThingS.f k a0 a1) (laws_heldThingS.f (k+1) a0 a1):=by
 intro a0 a1 k
 have ih0:=laws_heldThingS.mono_l k
 unfold laws_heldThingS.f
 with_reducible repeat' (first | apply ih0 | exact LeO.refl _ | exact LeO.none _ | refine LeO.ite ?_ ?_ | refine LeO.bind ?_ (fun _=> ?_))
set_option maxHeartbeats 8000000 in
set_option maxRecDepth 100000 in
theorem laws_heldThingS.calls (k:Nat) (A0:Option Addr) (c0:Nat) (l0:List (S102)) (a1:Int) (r:Int) (w:World) (hr0:Kd.C k102 w A0 l0.length l0) (hc0:l0.length≤c0) (h:laws_heldThingS.f k l0 a1=some r):
  Calls Try.prog 139 #[.slice A0 l0.length c0,.int .i64 a1] w fun e w'=> e=.returned (.int .i64 r)∧Drawn0 w w':=by
 have HR0:=ak hr0;have Bm:=ak hc0;clear hr0 hc0;have H:=h
 clear h;unfold laws_heldThingS.f at H;have H':=ak H;clear H
 go_enter Try.func139,Try.ntmps139
 go_wp2
 go_loopg [1,5] k (fun kq v1 v5 w'=> ∃(Ab:Int) (Aa:Int),v1=.int .i64 Ab∧v5=.int .i64 Aa∧Aside0 (laws_heldThingS.l0 kq l0 Ab Aa=some r)∧Aside0 (kq≤k)∧Drawn0 w w')
 case atStart=> exact ⟨(a1),(0),rs_q,rs_q,H',⟨Nat.le_refl _⟩,by repeat (first | exact Drawn0.refl _ | apply Drawn0.step)⟩
 case round=>
  clear H';(try clear c1);(try clear p2);obtain ⟨Ab,Aa,rfl,rfl,HA,Bf,⟨m1,rfl⟩⟩:=hrel
  cases gk with
  | zero=> exact absurd HA.out (by simp [laws_heldThingS.l0])
  | succ k1=>
   have H:=HA.out;clear HA
   simp only [laws_heldThingS.l0] at H
   by_cases c3:Aa<(l0.length:Int)
   ·rw [if_pos c3] at H;have Bj:=decide_eq_true c3;clear c3
    by_cases c4:0≤Aa
    ·rw [if_pos c4] at H;have Bl:=decide_eq_true c4
     clear c4;have Bg:=ak H;clear H
     have p771:0≤(Aa:Int):=of_decide_eq_true as_q
     have q771:Aa<(l0.length:Int):=of_decide_eq_true as_q
     obtain ⟨Ae,e771,Ak,Al,Am,An⟩:=at_T102 HR0.out Aa p771 q771
     cases e771
     replace p771:=eq_true p771;replace q771:=eq_true q771
     go_upto_if 18 with (fail)
     (try clear Ak);(try clear Al);(try clear Am);(try clear An);have H:=Bg.out;clear Bg
     by_cases c6:((rd_T102 l0 Aa).f0)=Ab
     ·rw [if_pos c6] at H;have Af:=bqi c6;have Ag:=bnf c6;clear c6
      (first | rw [Af] | rw [Ag] | (simp only [i64_w,i32_w];first | rw [Af] | rw [Ag]) | skip)
      have Bh:=ak H;clear H
      have p772:0≤(Aa:Int):=of_decide_eq_true as_q
      have q772:Aa<(l0.length:Int):=of_decide_eq_true as_q
      obtain ⟨Ba,e772,Ao,Ap,Aq,Ar⟩:=at_T102 HR0.out Aa p772 q772
      obtain rfl:Ae=Ba:=(by injection e772)
      replace p772:=eq_true p772;replace q772:=eq_true q772
      go_upto_if 27 with (fail)
      (try clear Ao);(try clear Ap);(try clear Aq);(try clear Ar);have H:=Bh.out;clear Bh
      by_cases c8:((rd_T102 l0 Aa).f1)=(wrap64 (Ab+1))
      ·rw [if_pos c8] at H;have Ah:=bqi c8;have Ai:=bnf c8;clear c8
       (first | rw [Ah] | rw [Ai] | (simp only [i64_w,i32_w];first | rw [Ah] | rw [Ai]) | skip)
       have Bi:=ak H;clear H
       have p773:0≤(Aa:Int):=of_decide_eq_true as_q
       have q773:Aa<(l0.length:Int):=of_decide_eq_true as_q
       obtain ⟨Bb,e773,As,At,Au,Av⟩:=at_T102 HR0.out Aa p773 q773
       obtain rfl:Ae=Bb:=(by injection e773)
       replace p773:=eq_true p773;replace q773:=eq_true q773
       go_upto_if 36 with (fail)
       (try clear As);(try clear At);(try clear Au);(try clear Av);have H:=Bi.out;clear Bi
       by_cases c10:((rd_T102 l0 Aa).f2)=(wrap64 ((wrap64 (Ab+1))+1))
       ·rw [if_pos c10] at H
        have Ac:(((rd_T102 l0 Aa).f2)==(wrap64 ((wrap64 (Ab+1))+1)))=true:=bqi c10
        have Ad:(((rd_T102 l0 Aa).f2) !=(wrap64 ((wrap64 (Ab+1))+1)))=false:=bnf c10
        clear c10
        (first | rw [Ac] | rw [Ad] | (simp only [i64_w,i32_w];first | rw [Ac] | rw [Ad]) | skip)
        by_cases c11:(((rd_T102 l0 Aa).f3) !=((Int.tmod (wrap64 ((wrap64 ((wrap64 (Ab+1))+1))+1)) 3)==0))=true
        ·rw [if_pos c11] at H
         have Bc:(((rd_T102 l0 Aa).f3) !=((Int.tmod (wrap64 ((wrap64 ((wrap64 (Ab+1))+1))+1)) 3)==0))=true:=c11
         (try (have Bd:decide (((rd_T102 l0 Aa).f3)=((Int.tmod (wrap64 ((wrap64 ((wrap64 (Ab+1))+1))+1)) 3)==0))=false:=by simpa using c11))
         (try (have Be:(((rd_T102 l0 Aa).f3)==((Int.tmod (wrap64 ((wrap64 ((wrap64 (Ab+1))+1))+1)) 3)==0))=false:=by simpa using c11))
         (try (have Bk:¬(((rd_T102 l0 Aa).f3)=((Int.tmod (wrap64 ((wrap64 ((wrap64 (Ab+1))+1))+1)) 3)==0)):=by simpa using c11))
         clear c11;obtain rfl:=Option.some.inj H
         have p774:0≤(Aa:Int):=of_decide_eq_true as_q
         have q774:Aa<(l0.length:Int):=of_decide_eq_true as_q
         obtain ⟨Aj,e774,Aw,Ax,Ay,Az⟩:=at_T102 HR0.out Aa p774 q774
         obtain rfl:Ae=Aj:=(by injection e774)
         replace p774:=eq_true p774;replace q774:=eq_true q774
         go_wp2
         go_ret
         exact ⟨rs_q,dr_q⟩
        ·rw [if_neg c11] at H
         have Bc:(((rd_T102 l0 Aa).f3) !=((Int.tmod (wrap64 ((wrap64 ((wrap64 (Ab+1))+1))+1)) 3)==0))=false:=by simpa using c11
         (try (have Bd:decide (((rd_T102 l0 Aa).f3)=((Int.tmod (wrap64 ((wrap64 ((wrap64 (Ab+1))+1))+1)) 3)==0))=true:=by simpa using c11))
         (try (have Be:(((rd_T102 l0 Aa).f3)==((Int.tmod (wrap64 ((wrap64 ((wrap64 (Ab+1))+1))+1)) 3)==0))=true:=by simpa using c11))
         clear c11;have H':=ak H;clear H
         have p774:0≤(Aa:Int):=of_decide_eq_true as_q
         have q774:Aa<(l0.length:Int):=of_decide_eq_true as_q
         obtain ⟨Aj,e774,Aw,Ax,Ay,Az⟩:=at_T102 HR0.out Aa p774 q774
         obtain rfl:Ae=Aj:=(by injection e774)
         replace p774:=eq_true p774;replace q774:=eq_true q774
         go_wp2
         go_roundg k1
         case measure=> have:=Bf.out;omega
         case rel=> exact ⟨(wrap64 ((wrap64 ((wrap64 ((wrap64 (Ab+1))+1))+1))+1)),(wrap64 (Aa+1)),rs_q,rs_q,H',⟨by have:=Bf.out;omega⟩,by repeat (first | exact Drawn0.refl _ | apply Drawn0.step)⟩
       ·rw [if_neg c10] at H
        have Ac:(((rd_T102 l0 Aa).f2)==(wrap64 ((wrap64 (Ab+1))+1)))=false:=bqf c10
        have Ad:(((rd_T102 l0 Aa).f2) !=(wrap64 ((wrap64 (Ab+1))+1)))=true:=bni c10
        (first | rw [Ac] | rw [Ad] | (simp only [i64_w,i32_w];first | rw [Ac] | rw [Ad]) | skip)
        obtain rfl:=Option.some.inj H
        go_wp2
        go_ret
        exact ⟨rs_q,dr_q⟩
      ·rw [if_neg c8] at H;have Ah:=bqf c8;have Ai:=bni c8
       (first | rw [Ah] | rw [Ai] | (simp only [i64_w,i32_w];first | rw [Ah] | rw [Ai]) | skip)
       obtain rfl:=Option.some.inj H
       go_wp2
       go_ret
       exact ⟨rs_q,dr_q⟩
     ·rw [if_neg c6] at H;have Af:=bqf c6;have Ag:=bni c6
      (first | rw [Af] | rw [Ag] | (simp only [i64_w,i32_w];first | rw [Af] | rw [Ag]) | skip)
      obtain rfl:=Option.some.inj H
      go_wp2
      go_ret
      exact ⟨rs_q,dr_q⟩
    ·rw [if_neg c4] at H
     exact absurd H (by simp)
   ·rw [if_neg c3] at H;have Bj:=decide_eq_false c3
    clear c3;obtain rfl:=Option.some.inj H
    go_wp2
    go_ret
    exact ⟨rs_q,dr_q⟩

/-! ### laws_heldNet: function 101 -/
def laws_heldNet.f (k:Nat) (e:Int) (c:List (S93)) (d:List (S102)) (a1:Int):Option (Int):=(laws_heldLinkS.f k c a1).bind fun a=> (if a<0 then (some (-1)) else ((laws_heldThingS.f k d a).bind fun b=> (if b<0 then (some (-1)) else (some b))))
theorem laws_heldNet.mono:∀a0 a1 a2 a3 k,LeO (laws_heldNet.f k a0 a1 a2 a3) (laws_heldNet.f (k+1) a0 a1 a2 a3):=by
 intro a0 a1 a2 a3 k
 unfold laws_heldNet.f
 with_reducible repeat' (first | apply laws_heldLinkS.mono | apply laws_heldThingS.mono | exact LeO.refl _ | exact LeO.none _ | refine LeO.ite ?_ ?_ | refine LeO.bind ?_ (fun _=> ?_))
set_option maxHeartbeats 8000000 in
set_option maxRecDepth 100000 in
theorem laws_heldNet.calls (k:Nat) (Ak:Int) (Ae:Option Addr) (Af:Nat) (Aa:List (S93)) (Ag:Option Addr) (Ah:Nat) (Ab:List (S102)) (a1:Int) (r:Int) (w:World) (hr0_1:Kd.C k93 w Ae Aa.length Aa) (hc0_1:Aa.length≤Af) (hr0_2:Kd.C k102 w Ag Ab.length Ab) (hc0_2:Ab.length≤Ah) (h:laws_heldNet.f k Ak Aa Ab a1=some r):
  Calls Try.prog 101 #[.agg #[.int .i64 Ak,.slice Ae Aa.length Af,.slice Ag Ab.length Ah],.int .i64 a1] w fun e w'=> e=.returned (.int .i64 r)∧Below w.heap.size w w':=by
 have hu31:=Try.underlying31;have Ao:=ak hr0_1;have Ap:=ak hc0_1;clear hr0_1 hc0_1;have Aq:=ak hr0_2;have Ar:=ak hc0_2;clear hr0_2 hc0_2;have HB:=ak (Below.refl w.heap.size w);have H:=h
 clear h;unfold laws_heldNet.f at H;replace H:=bsi H;obtain ⟨Ai,A30,H⟩:=H
 (try dsimp only at H)
 have A3:=ak A30;clear A30;have As:=ak H;clear H
 go_enter Try.func101,Try.ntmps101
 go_upto_if 10 with (first | ((with_reducible refine gate_dst (N:=2) rfl ?_);refine box_q 2 #[.int .i64 Ak,.slice Ae Aa.length Af,.slice Ag Ab.length Ah] 31 ?_;intro Bg hg w5 hbox hb;have Am:=ak (hbox);have Bh:=gs_ HB hg;replace HB:=hB_ HB hb;clear hb hbox hg;obtain ⟨Ba,Bb,Bc,Bd,Be,Bf⟩:=cf3_ Am) | ((with_reducible refine gC_ 138 ?_);refine gL_ 8 Try.func138 #[.slice Ae Aa.length Af,.int .i64 a1] ?_;(with_reducible refine (laws_heldLinkS.calls k _ _ Aa a1 Ai _ ?_ ?_ A3.out).mono ?_);exact ch_ Ao HB;exact Ap.out;rintro e w' ⟨rfl,⟨nd,rfl⟩⟩;refine ⟨_,rfl,?_⟩))
 have H:=As.out;clear As
 by_cases c7:Ai<0
 ·rw [if_pos c7] at H;have Ad:=decide_eq_true c7;clear c7
  (first | rw [Ad] | rw [Al] | (simp only [i64_w,i32_w];first | rw [Ad] | rw [Al]) | skip)
  obtain rfl:=Option.some.inj H
  go_wp2
  go_ret
  exact ⟨er_q,bw_q HB⟩
 ·rw [if_neg c7] at H;have Ad:=decide_eq_false c7;clear c7
  (first | rw [Ad] | rw [Al] | (simp only [i64_w,i32_w];first | rw [Ad] | rw [Al]) | skip)
  replace H:=bsi H;obtain ⟨An,A80,H⟩:=H
  (try dsimp only at H)
  have A8:=ak A80;clear A80;have At:=ak H;clear H;obtain ⟨Au,Av,Aw,Ax,Ay,Az⟩:=cf3_ Am
  go_upto_if 16 with (first | ((with_reducible refine gC_ 139 ?_);refine gL_ 14 Try.func139 #[.slice Ag Ab.length Ah,.int .i64 Ai] ?_;(with_reducible refine (laws_heldThingS.calls k _ _ Ab Ai An _ ?_ ?_ A8.out).mono ?_);exact ch_ Aq HB;exact Ar.out;rintro e w' ⟨rfl,⟨nd,rfl⟩⟩;refine ⟨_,rfl,?_⟩))
  have H:=At.out;clear At
  by_cases c11:An<0
  ·rw [if_pos c11] at H;have Ac:=decide_eq_true c11;clear c11
   (first | rw [Ac] | rw [Aj] | (simp only [i64_w,i32_w];first | rw [Ac] | rw [Aj]) | skip)
   obtain rfl:=Option.some.inj H
   go_wp2
   go_ret
   exact ⟨er_q,bw_q HB⟩
  ·rw [if_neg c11] at H;have Ac:=decide_eq_false c11;clear c11
   (first | rw [Ac] | rw [Aj] | (simp only [i64_w,i32_w];first | rw [Ac] | rw [Aj]) | skip)
   obtain rfl:=Option.some.inj H
   go_wp2
   go_ret
   exact ⟨er_q,bw_q HB⟩

/-! ### laws_heldIntS: function 102 -/
def laws_heldIntS.l0:Nat→List Int→Int→Int→Option (Int)
 | 0,_,_,_=> none
 | k+1,b,c,a=> if a<(b.length:Int) then (if 0≤a then (if (rd b a)=c then (laws_heldIntS.l0 k b (wrap64 (c+1)) (wrap64 (a+1))) else (some (-1))) else (none)) else (some c)
def laws_heldIntS.f (k:Nat) (l0:List Int) (a1:Int):Option (Int):=laws_heldIntS.l0 k l0 a1 0
theorem laws_heldIntS.mono_l:∀k,(∀y0 y1 y2,LeO (laws_heldIntS.l0 k y0 y1 y2) (laws_heldIntS.l0 (k+1) y0 y1 y2))
 | 0=> fun _ _ _ r h=> by simp [laws_heldIntS.l0] at h
 | k+1=> by
  have ih0:=laws_heldIntS.mono_l k
  ·intro y0 y1 y2
   unfold laws_heldIntS.l0
   with_reducible repeat' (first | apply ih0 | exact LeO.refl _ | exact LeO.none _ | refine LeO.ite ?_ ?_ | refine LeO.bind ?_ (fun _=> ?_))
theorem laws_heldIntS.mono:∀a0 a1 k,LeO (laws_heldIntS.f k a0 a1) (laws_heldIntS.f (k+1) a0 a1):=by
 intro a0 a1 k
 have ih0:=laws_heldIntS.mono_l k
 unfold laws_heldIntS.f
 with_reducible repeat' (first | apply ih0 | exact LeO.refl _ | exact LeO.none _ | refine LeO.ite ?_ ?_ | refine LeO.bind ?_ (fun _=> ?_))
set_option maxHeartbeats 8000000 in
set_option maxRecDepth 100000 in
theorem laws_heldIntS.calls (k:Nat) (A0:Option Addr) (c0:Nat) (l0:List Int) (a1:Int) (r:Int) (w:World) (hr0:Kd.C (Kd.int .i64) w A0 l0.length l0) (hc0:l0.length≤c0) (h:laws_heldIntS.f k l0 a1=some r):
  Calls Try.prog 102 #[.slice A0 l0.length c0,.int .i64 a1] w fun e w'=> e=.returned (.int .i64 r)∧Drawn0 w w':=by
 have HR0:=ak hr0;have Ak:=ak hc0;clear hr0 hc0;have H:=h
 clear h;unfold laws_heldIntS.f at H;have H':=ak H;clear H
 go_enter Try.func102,Try.ntmps102
 go_wp2
 go_loopg [1,5] k (fun kq v1 v5 w'=> ∃(Ab:Int) (Aa:Int),v1=.int .i64 Ab∧v5=.int .i64 Aa∧Aside0 (laws_heldIntS.l0 kq l0 Ab Aa=some r)∧Aside0 (kq≤k)∧Drawn0 w w')
 case atStart=> exact ⟨(a1),(0),rs_q,rs_q,H',⟨Nat.le_refl _⟩,by repeat (first | exact Drawn0.refl _ | apply Drawn0.step)⟩
 case round=>
  clear H';(try clear c1);(try clear p2);obtain ⟨Ab,Aa,rfl,rfl,HA,Af,⟨m1,rfl⟩⟩:=hrel
  cases gk with
  | zero=> exact absurd HA.out (by simp [laws_heldIntS.l0])
  | succ k1=>
   have H:=HA.out;clear HA
   simp only [laws_heldIntS.l0] at H
   by_cases c3:Aa<(l0.length:Int)
   ·rw [if_pos c3] at H;have Ah:=decide_eq_true c3;clear c3
    by_cases c4:0≤Aa
    ·rw [if_pos c4] at H;have Aj:=decide_eq_true c4
     clear c4;have Ag:=ak H;clear H
     have p778:0≤(Aa:Int):=of_decide_eq_true as_q
     have q778:Aa<(l0.length:Int):=of_decide_eq_true as_q
     obtain ⟨Ai,e778,Ae⟩:=Kd.at_int HR0.out Aa p778 q778
     cases e778
     replace p778:=eq_true p778;replace q778:=eq_true q778
     go_upto_if 17 with (fail)
     (try clear Ae);have H:=Ag.out;clear Ag
     by_cases c6:(rd l0 Aa)=Ab
     ·rw [if_pos c6] at H;have Ac:=bqi c6;have Ad:=bnf c6;clear c6
      (first | rw [Ac] | rw [Ad] | (simp only [i64_w,i32_w];first | rw [Ac] | rw [Ad]) | skip)
      have H':=ak H;clear H
      go_wp2
      go_roundg k1
      case measure=> have:=Af.out;omega
      case rel=> exact ⟨(wrap64 (Ab+1)),(wrap64 (Aa+1)),rs_q,rs_q,H',⟨by have:=Af.out;omega⟩,by repeat (first | exact Drawn0.refl _ | apply Drawn0.step)⟩
     ·rw [if_neg c6] at H;have Ac:=bqf c6;have Ad:=bni c6
      (first | rw [Ac] | rw [Ad] | (simp only [i64_w,i32_w];first | rw [Ac] | rw [Ad]) | skip)
      obtain rfl:=Option.some.inj H
      go_wp2
      go_ret
      exact ⟨rs_q,dr_q⟩
    ·rw [if_neg c4] at H
     exact absurd H (by simp)
   ·rw [if_neg c3] at H;have Ah:=decide_eq_false c3
    clear c3;obtain rfl:=Option.some.inj H
    go_wp2
    go_ret
    exact ⟨rs_q,dr_q⟩

/-! ### laws_heldSelf: function 32 -/
def laws_heldSelf.f (k:Nat) (j:Int) (l:Int) (d:Int) (e:List (S93)) (g:List (S102)) (h:List Int) (i:List (S61)) (a1:Int):Option (Int):=(laws_heldNet.f k d e g a1).bind fun a=> (if a<0 then (some (-1)) else ((laws_heldIntS.f k h a).bind fun b=> (if b<0 then (some (-1)) else ((laws_heldRecordS.f k i b).bind fun c=> (if c<0 then (some (-1)) else (some c))))))
theorem laws_heldSelf.mono:∀a0 a1 a2 a3 a4 a5 a6 a7 k,LeO (laws_heldSelf.f k a0 a1 a2 a3 a4 a5 a6 a7) (laws_heldSelf.f (k+1) a0 a1 a2 a3 a4 a5 a6 a7):=by
 intro a0 a1 a2 a3 a4 a5 a6 a7 k
 unfold laws_heldSelf.f
 with_reducible repeat' (first | apply laws_heldIntS.mono | apply laws_heldNet.mono | apply laws_heldRecordS.mono | exact LeO.refl _ | exact LeO.none _ | refine LeO.ite ?_ ?_ | refine LeO.bind ?_ (fun _=> ?_))
set_option maxHeartbeats 8000000 in
set_option maxRecDepth 100000 in
theorem laws_heldSelf.calls (k:Nat) (Av:Int) (Aw:Int) (Ah:Int) (Aj:Option Addr) (Ak:Nat) (Aa:List (S93)) (Al:Option Addr) (Am:Nat) (Ab:List (S102)) (An:Option Addr) (Ao:Nat) (Ac:List Int) (Ap:Option Addr) (Aq:Nat) (Ad:List (S61)) (a1:Int) (r:Int) (w:World) (hr0_3:Kd.C k93 w Aj Aa.length Aa) (hc0_3:Aa.length≤Ak) (hr0_4:Kd.C k102 w Al Ab.length Ab) (hc0_4:Ab.length≤Am) (hr0_5:Kd.C (Kd.int .i64) w An Ac.length Ac) (hc0_5:Ac.length≤Ao) (hr0_6:Kd.C k61 w Ap Ad.length Ad) (hc0_6:Ad.length≤Aq) (h:laws_heldSelf.f k Av Aw Ah Aa Ab Ac Ad a1=some r):
  Calls Try.prog 32 #[.agg #[.int .i64 Av,.int .i64 Aw,.int .i64 Ah,.slice Aj Aa.length Ak,.slice Al Ab.length Am,.slice An Ac.length Ao,.slice Ap Ad.length Aq],.int .i64 a1] w fun e w'=> e=.returned (.int .i64 r)∧Below w.heap.size w w':=by
 have hu43:=Try.underlying43;have hu31:=Try.underlying31;have Bb:=ak hr0_3;have Bc:=ak hc0_3;clear hr0_3 hc0_3;have Bd:=ak hr0_4;have Be:=ak hc0_4;clear hr0_4 hc0_4;have Bf:=ak hr0_5;have Bg:=ak hc0_5;clear hr0_5 hc0_5;have Bh:=ak hr0_6;have Bi:=ak hc0_6;clear hr0_6 hc0_6;have HB:=ak (Below.refl w.heap.size w);have H:=h
 clear h;unfold laws_heldSelf.f at H;replace H:=bsi H;obtain ⟨Ar,A30,H⟩:=H
 (try dsimp only at H)
 have A3:=ak A30;clear A30;have Bj:=ak H;clear H
 go_enter Try.func32,Try.ntmps32
 go_upto_if 10 with (first | ((with_reducible refine gate_dst (N:=2) rfl ?_);refine box_q 2 #[.int .i64 Av,.int .i64 Aw,.int .i64 Ah,.slice Aj Aa.length Ak,.slice Al Ab.length Am,.slice An Ac.length Ao,.slice Ap Ad.length Aq] 43 ?_;intro Da hg w5 hbox hb;have Ae:=ak (hbox);have Db:=gs_ HB hg;replace HB:=hB_ HB hb;clear hb hbox hg;obtain ⟨Cm,Cn,Co,Cp,Cq,Cr,Cs,Ct,Cu,Cv,Cw,Cx,Cy,Cz⟩:=cf7_ Ae) | ((with_reducible refine gC_ 101 ?_);refine gL_ 8 Try.func101 #[.agg #[.int .i64 Ah,.slice Aj Aa.length Ak,.slice Al Ab.length Am],.int .i64 a1] ?_;(with_reducible refine (laws_heldNet.calls k Ah _ _ Aa _ _ Ab a1 Ar _ ?_ ?_ ?_ ?_ A3.out).mono ?_);exact ch_ Bb HB;exact Bc.out;exact ch_ Bd HB;exact Be.out;rintro e w7 ⟨rfl,hb⟩;refine ⟨_,rfl,?_⟩;replace Ae:=bb_ Ae hb;replace HB:=hB_ HB hb))
 have H:=Bj.out;clear Bj
 by_cases c8:Ar<0
 ·rw [if_pos c8] at H;have Ai:=decide_eq_true c8;clear c8
  (first | rw [Ai] | rw [Ax] | (simp only [i64_w,i32_w];first | rw [Ai] | rw [Ax]) | skip)
  obtain rfl:=Option.some.inj H
  go_wp2
  go_ret
  exact ⟨er_q,bw_q HB⟩
 ·rw [if_neg c8] at H;have Ai:=decide_eq_false c8;clear c8
  (first | rw [Ai] | rw [Ax] | (simp only [i64_w,i32_w];first | rw [Ai] | rw [Ax]) | skip)
  replace H:=bsi H;obtain ⟨As,A90,H⟩:=H
  (try dsimp only at H)
  have A9:=ak A90;clear A90;have Ay:=ak H;clear H;obtain ⟨Bk,Bl,Bm,Bn,Bo,Bp,Bq,Br,Bs,Bt,Bu,Bv,Bw,Bx⟩:=cf7_ Ae
  go_upto_if 16 with (first | ((with_reducible refine gC_ 102 ?_);refine gL_ 14 Try.func102 #[.slice An Ac.length Ao,.int .i64 Ar] ?_;(with_reducible refine (laws_heldIntS.calls k _ _ Ac Ar As _ ?_ ?_ A9.out).mono ?_);exact ch_ Bf HB;exact Bg.out;rintro e w' ⟨rfl,⟨nd,rfl⟩⟩;refine ⟨_,rfl,?_⟩))
  have H:=Ay.out;clear Ay
  by_cases c12:As<0
  ·rw [if_pos c12] at H;have Af:=decide_eq_true c12;clear c12
   (first | rw [Af] | rw [At] | (simp only [i64_w,i32_w];first | rw [Af] | rw [At]) | skip)
   obtain rfl:=Option.some.inj H
   go_wp2
   go_ret
   exact ⟨er_q,bw_q HB⟩
  ·rw [if_neg c12] at H;have Af:=decide_eq_false c12;clear c12
   (first | rw [Af] | rw [At] | (simp only [i64_w,i32_w];first | rw [Af] | rw [At]) | skip)
   replace H:=bsi H;obtain ⟨Az,A130,H⟩:=H
   (try dsimp only at H)
   have A13:=ak A130;clear A130;have Ba:=ak H;clear H;obtain ⟨By,Bz,Ca,Cb,Cc,Cd,Ce,Cf,Cg,Ch,Ci,Cj,Ck,Cl⟩:=cf7_ Ae
   go_upto_if 22 with (first | ((with_reducible refine gC_ 33 ?_);refine gL_ 20 Try.func33 #[.slice Ap Ad.length Aq,.int .i64 As] ?_;(with_reducible refine (laws_heldRecordS.calls k _ _ Ad As Az _ ?_ ?_ A13.out).mono ?_);exact ch_ Bh HB;exact Bi.out;rintro e w' ⟨rfl,⟨nd,rfl⟩⟩;refine ⟨_,rfl,?_⟩))
   have H:=Ba.out;clear Ba
   by_cases c16:Az<0
   ·rw [if_pos c16] at H;have Ag:=decide_eq_true c16;clear c16
    (first | rw [Ag] | rw [Au] | (simp only [i64_w,i32_w];first | rw [Ag] | rw [Au]) | skip)
    obtain rfl:=Option.some.inj H
    go_wp2
    go_ret
    exact ⟨er_q,bw_q HB⟩
   ·rw [if_neg c16] at H;have Ag:=decide_eq_false c16;clear c16
    (first | rw [Ag] | rw [Au] | (simp only [i64_w,i32_w];first | rw [Ag] | rw [Au]) | skip)
    obtain rfl:=Option.some.inj H
    go_wp2
    go_ret
    exact ⟨er_q,bw_q HB⟩

end Go.Proofs.Ythjmdiggglkeaaa.Q
