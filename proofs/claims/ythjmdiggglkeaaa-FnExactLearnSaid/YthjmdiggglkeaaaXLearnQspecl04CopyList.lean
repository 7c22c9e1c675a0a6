import Derived.Test.YthjmdiggglkeaaaXLearnQlawsszRecordS
import Derived.Test.YthjmdiggglkeaaaXLearnQspecNetOk
import Derived.Test.YthjmdiggglkeaaaXLearnQspecl04Near
/- The contract of a Go function. -/



namespace Go.Proofs.Ythjmdiggglkeaaa.Q
open Go.RowKit Go.Proofs.YthjmdiggglkeaaaW.PrintWords Go.Proofs.YthjmdiggglkeaaaW.PrintLast Go.Proofs.YthjmdiggglkeaaaW.PrintMore
attribute [local go_sem] max2_int min2_int max_two min_two max_three min_three max_four min_four   -- for this text's walks alone
set_option linter.unusedVariables false
set_option linter.unusedSimpArgs false

/-! ### spec_RecordOk: function 131 -/
def spec_RecordOk.j0:Nat→Bool→Int→Int→Int→Int→Int→List (S127)→Int→Bool→Option (Bool)
 | 0,_,_,_,_,_,_,_,_,_=> none
 | k+1,s,b,c,h,d,i,e,a,g=> if s=true then (some false) else (if c=1 then ((spec_l01In.f b 0 2).bind fun j=> (if j=true then (if d=0 then ((spec_l04Near.f k b c h d i e a g).bind fun l=> (if l=true then (if a=0 then (some (!g)) else (some false)) else (some false))) else (some false)) else (some false))) else (if c=2 then ((spec_l01In.f b 0 2).bind fun m=> (if m=true then ((spec_l01In.f d 1 6).bind fun n=> (if n=true then (if (e.length:Int)=0 then ((spec_l01In.f a 0 60000).bind fun o=> (if o=true then (some (!g)) else (some false))) else (some false)) else (some false))) else (some false))) else (if c=3 then (if b=9 then ((spec_l01In.f d 1 9).bind fun p=> (if p=true then (if (e.length:Int)=0 then ((spec_l01In.f a 1 1000).bind fun q=> (if q=true then (some true) else (some (a==60000)))) else (some false)) else (some false))) else (some false)) else (some false))))
def spec_RecordOk.f (k:Nat) (c:Int) (d:Int) (a:Int) (e:Int) (b:Int) (g:List (S127)) (h:Int) (i:Bool):Option (Bool):=(spec_l01In.f a 1 6).bind fun j=> (if j=true then ((spec_l01In.f b 1 100000).bind fun l=> (spec_RecordOk.j0 k (!l) c d a e b g h i)) else (spec_RecordOk.j0 k true c d a e b g h i))
theorem spec_RecordOk.mono_l:∀k,(∀y0 y1 y2 y3 y4 y5 y6 y7 y8,LeO (spec_RecordOk.j0 k y0 y1 y2 y3 y4 y5 y6 y7 y8) (spec_RecordOk.j0 (k+1) y0 y1 y2 y3 y4 y5 y6 y7 y8))
 | 0=> fun _ _ _ _ _ _ _ _ _ r h=> by simp [spec_RecordOk.j0] at h
 | k+1=> by
  have ih0:=spec_RecordOk.mono_l k
  ·intro y0 y1 y2 y3 y4 y5 y6 y7 y8
   unfold spec_RecordOk.j0
   with_reducible repeat' (first | apply ih0 | apply spec_l04Near.mono | exact LeO.refl _ | exact LeO.none _ | refine LeO.ite ?_ ?_ | refine LeO.bind ?_ (fun _=> ?_))
theorem spec_RecordOk.mono:∀a0 a1 a2 a3 a4 a5 a6 a7 k,LeO (spec_RecordOk.f k a0 a1 a2 a3 a4 a5 a6 a7) (spec_RecordOk.f (k+1) a0 a1 a2 a3 a4 a5 a6 a7):=by
 intro a0 a1 a2 a3 a4 a5 a6 a7 k
 have ih0:=spec_RecordOk.mono_l k
 unfold spec_RecordOk.f
 with_reducible repeat' (first | apply ih0 | apply spec_l04Near.mono | exact LeO.refl _ | exact LeO.none _ | refine LeO.ite ?_ ?_ | refine LeO.bind ?_ (fun _=> ?_))
set_option maxHeartbeats 8000000 in
set_option maxRecDepth 100000 in
theorem spec_RecordOk.calls (k:Nat) (Ab:Int) (Ag:Int) (Af:Int) (Ac:Int) (Ah:Int) (Ak:Option Addr) (Al:Nat) (Ad:List (S127)) (Ae:Int) (Ai:Bool) (r:Bool) (w:World) (hr0_5:Kd.C k127 w Ak Ad.length Ad) (hc0_5:Ad.length≤Al) (h:spec_RecordOk.f k Ab Ag Af Ac Ah Ad Ae Ai=some r):
  Calls Try.prog 131 #[.agg #[.int .i64 Ab,.int .i64 Ag,.int .i64 Af,.int .i64 Ac,.int .i64 Ah,.slice Ak Ad.length Al,.int .i64 Ae,.bool Ai]] w fun e w'=> e=.returned (.bool r)∧Below w.heap.size w w':=by
 have hu61:=Try.underlying61;have Am:=ak hr0_5;have An:=ak hc0_5;clear hr0_5 hc0_5;have HB:=ak (Below.refl w.heap.size w);have H:=h
 clear h;unfold spec_RecordOk.f at H;have Ao:=ak H;clear H
 go_enter Try.func131,Try.ntmps131
 go_upto_region 1 with (first | ((with_reducible refine gate_dst (N:=1) rfl ?_);(try (refine gate_guard (by rfl) ?_;dsimp only));refine box_q 1 #[.int .i64 Ab,.int .i64 Ag,.int .i64 Af,.int .i64 Ac,.int .i64 Ah,.slice Ak Ad.length Al,.int .i64 Ae,.bool Ai] 61 ?_;intro Bw hg w3 hbox hb;have Aa:=ak (hbox);have Ny:=gs_ HB hg;replace HB:=hB_ HB hb;clear hb hbox hg))
 (try simp only [Act.put,List.setIfInBounds_toArray,List.set_cons_zero,List.set_cons_succ])
 go_cut [12] (fun v12 wc=> ∃(kq:Nat) (Aj:Bool),v12=.bool Aj∧Aside0 (spec_RecordOk.j0 kq Aj Ab Ag Af Ac Ah Ad Ae Ai=some r)∧Aside0 (kq≤k)∧Aside0 (wc.heap[Bw]? =some (.cells #[.int .i64 Ab,.int .i64 Ag,.int .i64 Af,.int .i64 Ac,.int .i64 Ah,(.slice Ak Ad.length Al),.int .i64 Ae,.bool Ai] 61 (0,0)))∧Aside0 (Below w.heap.size w wc))
 case first=>
  have H:=Ao.out;clear Ao;replace H:=bsi H;obtain ⟨Cn,A40,H⟩:=H
  (try dsimp only at H)
  have A4:=ak A40;clear A40
  by_cases c5:Cn=true
  ·subst c5;rw [if_pos rfl] at H;replace H:=bsi H;obtain ⟨Ap,A60,H⟩:=H
   (try dsimp only at H)
   have A6:=ak A60;clear A60;have H':=ak H;clear H;obtain ⟨Aq,Ar,As,At,Au,Av,Aw,Ax,Ay,Az,Ba,Bb,Bc,Bd,Be,Bf⟩:=cf8_ Aa
   go_wp2_with (first | ((with_reducible refine gC_ 75 ?_);refine gL_ 5 Try.func75 #[.int .i64 Af,.int .i64 1,.int .i64 6] ?_;(with_reducible refine (spec_l01In.calls Af 1 6 true _ A4.out).mono ?_);rintro e w' ⟨rfl,⟨nd,rfl⟩⟩;refine ⟨_,rfl,?_⟩) | (go_at_call 75;(with_reducible refine (spec_l01In.calls Ah 1 100000 Ap _ A6.out).mono ?_);rintro e w' ⟨rfl,⟨nd,rfl⟩⟩))
   go_meet
   case rel=> exact ⟨_,(!Ap),rs_q,H',⟨by first | omega | exact Nat.le_refl _⟩,⟨bk_q Aa⟩,⟨bw_q HB⟩⟩
  ·replace c5:=Bool.eq_false_iff.mpr c5;subst c5
   rw [if_neg (show ¬(false=true) by decide)] at H
   have H':=ak H;clear H;obtain ⟨Bg,Bh,Bi,Bj,Bk,Bl,Bm,Bn,Bo,Bp,Bq,Br,Bs,Bt,Bu,Bv⟩:=cf8_ Aa
   go_wp2_with (first | ((with_reducible refine gC_ 75 ?_);refine gL_ 5 Try.func75 #[.int .i64 Af,.int .i64 1,.int .i64 6] ?_;(with_reducible refine (spec_l01In.calls Af 1 6 false _ A4.out).mono ?_);rintro e w' ⟨rfl,⟨nd,rfl⟩⟩;refine ⟨_,rfl,?_⟩))
   go_meet
   case rel=> exact ⟨_,(true),rs_q,H',⟨by first | omega | exact Nat.le_refl _⟩,⟨bk_q Aa⟩,⟨bw_q HB⟩⟩
 case rest=>
  clear Ao;(try clear c1);(try clear p2);(try clear c5);(try clear c7)
  try clear Aq Ar As At Au Av Aw Ax
  try clear Bg Bh Bi Bj Bk Bl Bm Bn
  try clear Ay Az Ba Bb Bc Bd Be Bf
  try clear Bo Bp Bq Br Bs Bt Bu Bv
  obtain ⟨kq,Aj,rfl,HA,HJ1,Aa,HB⟩:=hcut
  cases kq with
  | zero=> exact absurd HA.out (by simp [spec_RecordOk.j0])
  | succ kj1=>
   have H:=HA.out;clear HA
   simp only [spec_RecordOk.j0] at H
   by_cases c9:Aj=true
   ·subst c9;rw [if_pos rfl] at H;obtain rfl:=Option.some.inj H
    go_wp2
    go_ret
    exact ⟨er_q,bw_q HB⟩
   ·replace c9:=Bool.eq_false_iff.mpr c9;subst c9
    rw [if_neg (show ¬(false=true) by decide)] at H
    by_cases c10:Ag=1
    ·rw [if_pos c10] at H;have Bx:=bqi c10;have By:=bnf c10
     clear c10;replace H:=bsi H;obtain ⟨Co,A110,H⟩:=H
     (try dsimp only at H)
     have A11:=ak A110;clear A110
     by_cases c12:Co=true
     ·subst c12;rw [if_pos rfl] at H
      by_cases c13:Ac=0
      ·rw [if_pos c13] at H;have Bz:=bqi c13;have Ca:=bnf c13
       clear c13;replace H:=bsi H;obtain ⟨Cp,A140,H⟩:=H
       (try dsimp only at H)
       have A14:=ak A140;clear A140
       by_cases c15:Cp=true
       ·subst c15;rw [if_pos rfl] at H
        by_cases c16:Ae=0
        ·rw [if_pos c16] at H;have Cb:=bqi c16;have Cc:=bnf c16
         clear c16;obtain rfl:=Option.some.inj H;obtain ⟨Cv,Cw,Cx,Cy,Cz,Da,Db,Dc,Dd,De,Df,Dg,Dh,Di,Dj,Dk⟩:=cf8_ Aa
         go_wp2_with (first | ((with_reducible refine gC_ 75 ?_);refine gL_ 19 Try.func75 #[.int .i64 Ab,.int .i64 0,.int .i64 2] ?_;(with_reducible refine (spec_l01In.calls Ab 0 2 true _ A11.out).mono ?_);rintro e w' ⟨rfl,⟨nd,rfl⟩⟩;refine ⟨_,rfl,?_⟩) | (go_at_call 148;(with_reducible refine (spec_l04Near.calls kj1 Ab Ag Af Ac Ah _ _ Ad Ae Ai true _ ?_ ?_ A14.out).mono ?_);exact cs_q (Kd.C_below Am.out (bw_q HB));exact An.out;rintro e w18 ⟨rfl,hb⟩;replace Aa:=bb_ Aa hb;replace HB:=hB_ HB hb;obtain ⟨Dl,Dm,Dn,Do,Dp,Dq,Dr,Ds,Dt,Du,Dv,Dw,Dx,Dy,Dz,Ea⟩:=cf8_ Aa))
         go_ret
         exact ⟨er_q,bw_q HB⟩
        ·rw [if_neg c16] at H;have Cb:=bqf c16;have Cc:=bni c16;obtain rfl:=Option.some.inj H;obtain ⟨Eb,Ec,Ed,Ee,Ef,Eg,Eh,Ei,Ej,Ek,El,Em,En,Eo,Ep,Eq⟩:=cf8_ Aa
         go_wp2_with (first | ((with_reducible refine gC_ 75 ?_);refine gL_ 19 Try.func75 #[.int .i64 Ab,.int .i64 0,.int .i64 2] ?_;(with_reducible refine (spec_l01In.calls Ab 0 2 true _ A11.out).mono ?_);rintro e w' ⟨rfl,⟨nd,rfl⟩⟩;refine ⟨_,rfl,?_⟩) | (go_at_call 148;(with_reducible refine (spec_l04Near.calls kj1 Ab Ag Af Ac Ah _ _ Ad Ae Ai true _ ?_ ?_ A14.out).mono ?_);exact cs_q (Kd.C_below Am.out (bw_q HB));exact An.out;rintro e w21 ⟨rfl,hb⟩;replace Aa:=bb_ Aa hb;replace HB:=hB_ HB hb;obtain ⟨Er,Es,Et,Eu,Ev,Ew,Ex,Ey,Ez,Fa,Fb,Fc,Fd,Fe,Ff,Fg⟩:=cf8_ Aa))
         go_ret
         exact ⟨er_q,bw_q HB⟩
       ·replace c15:=Bool.eq_false_iff.mpr c15;subst c15
        rw [if_neg (show ¬(false=true) by decide)] at H
        obtain rfl:=Option.some.inj H;obtain ⟨Fh,Fi,Fj,Fk,Fl,Fm,Fn,Fo,Fp,Fq,Fr,Fs,Ft,Fu,Fv,Fw⟩:=cf8_ Aa
        go_wp2_with (first | ((with_reducible refine gC_ 75 ?_);refine gL_ 19 Try.func75 #[.int .i64 Ab,.int .i64 0,.int .i64 2] ?_;(with_reducible refine (spec_l01In.calls Ab 0 2 true _ A11.out).mono ?_);rintro e w' ⟨rfl,⟨nd,rfl⟩⟩;refine ⟨_,rfl,?_⟩) | (go_at_call 148;(with_reducible refine (spec_l04Near.calls kj1 Ab Ag Af Ac Ah _ _ Ad Ae Ai false _ ?_ ?_ A14.out).mono ?_);exact cs_q (Kd.C_below Am.out (bw_q HB));exact An.out;rintro e w24 ⟨rfl,hb⟩;replace Aa:=bb_ Aa hb;replace HB:=hB_ HB hb))
        go_ret
        exact ⟨er_q,bw_q HB⟩
      ·rw [if_neg c13] at H;have Bz:=bqf c13;have Ca:=bni c13;obtain rfl:=Option.some.inj H;obtain ⟨Fx,Fy,Fz,Ga,Gb,Gc,Gd,Ge,Gf,Gg,Gh,Gi,Gj,Gk,Gl,Gm⟩:=cf8_ Aa
       go_wp2_with (first | ((with_reducible refine gC_ 75 ?_);refine gL_ 19 Try.func75 #[.int .i64 Ab,.int .i64 0,.int .i64 2] ?_;(with_reducible refine (spec_l01In.calls Ab 0 2 true _ A11.out).mono ?_);rintro e w' ⟨rfl,⟨nd,rfl⟩⟩;refine ⟨_,rfl,?_⟩))
       go_ret
       exact ⟨er_q,bw_q HB⟩
     ·replace c12:=Bool.eq_false_iff.mpr c12;subst c12
      rw [if_neg (show ¬(false=true) by decide)] at H
      obtain rfl:=Option.some.inj H;obtain ⟨Gn,Go,Gp,Gq,Gr,Gs,Gt,Gu,Gv,Gw,Gx,Gy,Gz,Ha,Hb,Hc⟩:=cf8_ Aa
      go_wp2_with (first | ((with_reducible refine gC_ 75 ?_);refine gL_ 19 Try.func75 #[.int .i64 Ab,.int .i64 0,.int .i64 2] ?_;(with_reducible refine (spec_l01In.calls Ab 0 2 false _ A11.out).mono ?_);rintro e w' ⟨rfl,⟨nd,rfl⟩⟩;refine ⟨_,rfl,?_⟩))
      go_ret
      exact ⟨er_q,bw_q HB⟩
    ·rw [if_neg c10] at H;have Bx:=bqf c10;have By:=bni c10
     by_cases c27:Ag=2
     ·rw [if_pos c27] at H;have Cd:=bqi c27;have Ce:=bnf c27
      clear c27;replace H:=bsi H;obtain ⟨Cq,A280,H⟩:=H
      (try dsimp only at H)
      have A28:=ak A280;clear A280
      by_cases c29:Cq=true
      ·subst c29;rw [if_pos rfl] at H;replace H:=bsi H;obtain ⟨Cr,A300,H⟩:=H
       (try dsimp only at H)
       have A30:=ak A300;clear A300
       by_cases c31:Cr=true
       ·subst c31;rw [if_pos rfl] at H
        by_cases c32:(Ad.length:Int)=0
        ·rw [if_pos c32] at H;have Cf:=bqi c32;have Cg:=bnf c32
         clear c32;replace H:=bsi H;obtain ⟨Cs,A330,H⟩:=H
         (try dsimp only at H)
         have A33:=ak A330;clear A330
         by_cases c34:Cs=true
         ·subst c34;rw [if_pos rfl] at H;obtain rfl:=Option.some.inj H;obtain ⟨Hd,He,Hf,Hg,Hh,Hi,Hj,Hk,Hl,Hm,Hn,Ho,Hp,Hq,Hr,Hs⟩:=cf8_ Aa
          go_wp2_with (first | ((with_reducible refine gC_ 75 ?_);refine gL_ 43 Try.func75 #[.int .i64 Ab,.int .i64 0,.int .i64 2] ?_;(with_reducible refine (spec_l01In.calls Ab 0 2 true _ A28.out).mono ?_);rintro e w' ⟨rfl,⟨nd,rfl⟩⟩;refine ⟨_,rfl,?_⟩) | (go_at_call 75;(with_reducible refine (spec_l01In.calls Ac 1 6 true _ A30.out).mono ?_);rintro e w' ⟨rfl,⟨nd,rfl⟩⟩) | (go_at_call 75;(with_reducible refine (spec_l01In.calls Ae 0 60000 true _ A33.out).mono ?_);rintro e w' ⟨rfl,⟨nd,rfl⟩⟩))
          go_ret
          exact ⟨er_q,bw_q HB⟩
         ·replace c34:=Bool.eq_false_iff.mpr c34;subst c34
          rw [if_neg (show ¬(false=true) by decide)] at H
          obtain rfl:=Option.some.inj H;obtain ⟨Ht,Hu,Hv,Hw,Hx,Hy,Hz,Ia,Ib,Ic,Id,Ie,If,Ig,Ih,Ii⟩:=cf8_ Aa
          go_wp2_with (first | ((with_reducible refine gC_ 75 ?_);refine gL_ 43 Try.func75 #[.int .i64 Ab,.int .i64 0,.int .i64 2] ?_;(with_reducible refine (spec_l01In.calls Ab 0 2 true _ A28.out).mono ?_);rintro e w' ⟨rfl,⟨nd,rfl⟩⟩;refine ⟨_,rfl,?_⟩) | (go_at_call 75;(with_reducible refine (spec_l01In.calls Ac 1 6 true _ A30.out).mono ?_);rintro e w' ⟨rfl,⟨nd,rfl⟩⟩) | (go_at_call 75;(with_reducible refine (spec_l01In.calls Ae 0 60000 false _ A33.out).mono ?_);rintro e w' ⟨rfl,⟨nd,rfl⟩⟩))
          go_ret
          exact ⟨er_q,bw_q HB⟩
        ·rw [if_neg c32] at H;have Cf:=bqf c32;have Cg:=bni c32
         have Nz:¬(Ad=[]):=fun h_=> c32 (by rw [h_];rfl)
         obtain rfl:=Option.some.inj H;obtain ⟨Ij,Ik,Il,Im,In,Io,Ip,Iq,Ir,Is,It,Iu,Iv,Iw,Ix,Iy⟩:=cf8_ Aa
         go_wp2_with (first | ((with_reducible refine gC_ 75 ?_);refine gL_ 43 Try.func75 #[.int .i64 Ab,.int .i64 0,.int .i64 2] ?_;(with_reducible refine (spec_l01In.calls Ab 0 2 true _ A28.out).mono ?_);rintro e w' ⟨rfl,⟨nd,rfl⟩⟩;refine ⟨_,rfl,?_⟩) | (go_at_call 75;(with_reducible refine (spec_l01In.calls Ac 1 6 true _ A30.out).mono ?_);rintro e w' ⟨rfl,⟨nd,rfl⟩⟩))
         go_ret
         exact ⟨er_q,bw_q HB⟩
       ·replace c31:=Bool.eq_false_iff.mpr c31;subst c31
        rw [if_neg (show ¬(false=true) by decide)] at H
        obtain rfl:=Option.some.inj H;obtain ⟨Iz,Ja,Jb,Jc,Jd,Je,Jf,Jg,Jh,Ji,Jj,Jk,Jl,Jm,Jn,Jo⟩:=cf8_ Aa
        go_wp2_with (first | ((with_reducible refine gC_ 75 ?_);refine gL_ 43 Try.func75 #[.int .i64 Ab,.int .i64 0,.int .i64 2] ?_;(with_reducible refine (spec_l01In.calls Ab 0 2 true _ A28.out).mono ?_);rintro e w' ⟨rfl,⟨nd,rfl⟩⟩;refine ⟨_,rfl,?_⟩) | (go_at_call 75;(with_reducible refine (spec_l01In.calls Ac 1 6 false _ A30.out).mono ?_);rintro e w' ⟨rfl,⟨nd,rfl⟩⟩))
        go_ret
        exact ⟨er_q,bw_q HB⟩
      ·replace c29:=Bool.eq_false_iff.mpr c29;subst c29
       rw [if_neg (show ¬(false=true) by decide)] at H
       obtain rfl:=Option.some.inj H;obtain ⟨Jp,Jq,Jr,Js,Jt,Ju,Jv,Jw,Jx,Jy,Jz,Ka,Kb,Kc,Ke,Kf⟩:=cf8_ Aa
       go_wp2_with (first | ((with_reducible refine gC_ 75 ?_);refine gL_ 43 Try.func75 #[.int .i64 Ab,.int .i64 0,.int .i64 2] ?_;(with_reducible refine (spec_l01In.calls Ab 0 2 false _ A28.out).mono ?_);rintro e w' ⟨rfl,⟨nd,rfl⟩⟩;refine ⟨_,rfl,?_⟩))
       go_ret
       exact ⟨er_q,bw_q HB⟩
     ·rw [if_neg c27] at H;have Cd:=bqf c27;have Ce:=bni c27
      by_cases c40:Ag=3
      ·rw [if_pos c40] at H;have Ch:=bqi c40;have Ci:=bnf c40;clear c40
       by_cases c41:Ab=9
       ·rw [if_pos c41] at H;have Cj:=bqi c41;have Ck:=bnf c41
        clear c41;replace H:=bsi H;obtain ⟨Ct,A420,H⟩:=H
        (try dsimp only at H)
        have A42:=ak A420;clear A420
        by_cases c43:Ct=true
        ·subst c43;rw [if_pos rfl] at H
         by_cases c44:(Ad.length:Int)=0
         ·rw [if_pos c44] at H;have Cl:=bqi c44;have Cm:=bnf c44
          clear c44;replace H:=bsi H;obtain ⟨Cu,A450,H⟩:=H
          (try dsimp only at H)
          have A45:=ak A450;clear A450
          by_cases c46:Cu=true
          ·subst c46;rw [if_pos rfl] at H;obtain rfl:=Option.some.inj H;obtain ⟨Kg,Kh,Ki,Kj,Kk,Kl,Km,Kn,Ko,Kp,Kq,Kr,Ks,Kt,Ku,Kv⟩:=cf8_ Aa
           go_wp2_with (first | (go_at_call 75;(with_reducible refine (spec_l01In.calls Ac 1 9 true _ A42.out).mono ?_);rintro e w' ⟨rfl,⟨nd,rfl⟩⟩) | (go_at_call 75;(with_reducible refine (spec_l01In.calls Ae 1 1000 true _ A45.out).mono ?_);rintro e w' ⟨rfl,⟨nd,rfl⟩⟩))
           go_ret
           exact ⟨er_q,bw_q HB⟩
          ·replace c46:=Bool.eq_false_iff.mpr c46;subst c46
           rw [if_neg (show ¬(false=true) by decide)] at H
           obtain rfl:=Option.some.inj H;obtain ⟨Kw,Kx,Ky,Kz,La,Lb,Lc,Ld,Le,Lf,Lg,Lh,Li,Lj,Lk,Ll⟩:=cf8_ Aa
           go_wp2_with (first | (go_at_call 75;(with_reducible refine (spec_l01In.calls Ac 1 9 true _ A42.out).mono ?_);rintro e w' ⟨rfl,⟨nd,rfl⟩⟩) | (go_at_call 75;(with_reducible refine (spec_l01In.calls Ae 1 1000 false _ A45.out).mono ?_);rintro e w' ⟨rfl,⟨nd,rfl⟩⟩))
           go_ret
           exact ⟨er_q,bw_q HB⟩
         ·rw [if_neg c44] at H;have Cl:=bqf c44;have Cm:=bni c44
          have Oa:¬(Ad=[]):=fun h_=> c44 (by rw [h_];rfl)
          obtain rfl:=Option.some.inj H;obtain ⟨Lm,Ln,Lo,Lp,Lq,Lr,Ls,Lt,Lu,Lv,Lw,Lx,Ly,Lz,Ma,Mb⟩:=cf8_ Aa
          go_wp2_with (first | (go_at_call 75;(with_reducible refine (spec_l01In.calls Ac 1 9 true _ A42.out).mono ?_);rintro e w' ⟨rfl,⟨nd,rfl⟩⟩))
          go_ret
          exact ⟨er_q,bw_q HB⟩
        ·replace c43:=Bool.eq_false_iff.mpr c43;subst c43
         rw [if_neg (show ¬(false=true) by decide)] at H
         obtain rfl:=Option.some.inj H;obtain ⟨Mc,Md,Me,Mf,Mg,Mh,Mi,Mj,Mk,Ml,Mm,Mn,Mo,Mp,Mq,Mr⟩:=cf8_ Aa
         go_wp2_with (first | (go_at_call 75;(with_reducible refine (spec_l01In.calls Ac 1 9 false _ A42.out).mono ?_);rintro e w' ⟨rfl,⟨nd,rfl⟩⟩))
         go_ret
         exact ⟨er_q,bw_q HB⟩
       ·rw [if_neg c41] at H;have Cj:=bqf c41;have Ck:=bni c41;obtain rfl:=Option.some.inj H;obtain ⟨Ms,Mt,Mu,Mv,Mw,Mx,My,Mz,Na,Nb,Nc,Nd,Ne,Nf,Ng,Nh⟩:=cf8_ Aa
        go_wp2
        go_ret
        exact ⟨er_q,bw_q HB⟩
      ·rw [if_neg c40] at H;have Ch:=bqf c40;have Ci:=bni c40;obtain rfl:=Option.some.inj H;obtain ⟨Ni,Nj,Nk,Nl,Nm,Nn,No,Np,Nq,Nr,Ns,Nt,Nu,Nv,Nw,Nx⟩:=cf8_ Aa
       go_wp2
       go_ret
       exact ⟨er_q,bw_q HB⟩

/-! ### spec_StoreOk: function 88 -/
def spec_StoreOk.l0:Nat→List (S61)→Int→Option (Bool)
 | 0,_,_=> none
 | k+1,b,a=> if a<(b.length:Int) then (if 0≤a then ((spec_RecordOk.f k ((rd_T61 b a).f0) ((rd_T61 b a).f1) ((rd_T61 b a).f2) ((rd_T61 b a).f3) ((rd_T61 b a).f4) ((rd_T61 b a).f5) ((rd_T61 b a).f6) ((rd_T61 b a).f7)).bind fun c=> (if c=true then (if a > 0 then (if 0≤(wrap64 (a-1)) then (if (wrap64 (a-1))<(b.length:Int) then ((spec_Before.f ((rd_T61 b (wrap64 (a-1))).f0) ((rd_T61 b (wrap64 (a-1))).f1) ((rd_T61 b (wrap64 (a-1))).f2) ((rd_T61 b (wrap64 (a-1))).f3) ((rd_T61 b (wrap64 (a-1))).f4) ((rd_T61 b (wrap64 (a-1))).f5) ((rd_T61 b (wrap64 (a-1))).f6) ((rd_T61 b (wrap64 (a-1))).f7) ((rd_T61 b a).f0) ((rd_T61 b a).f1) ((rd_T61 b a).f2) ((rd_T61 b a).f3) ((rd_T61 b a).f4) ((rd_T61 b a).f5) ((rd_T61 b a).f6) ((rd_T61 b a).f7)).bind fun d=> (if d=true then (spec_StoreOk.l0 k b (wrap64 (a+1))) else (some false))) else (none)) else (none)) else (spec_StoreOk.l0 k b (wrap64 (a+1)))) else (some false))) else (none)) else (some true)
def spec_StoreOk.f (k:Nat) (l0:List (S61)):Option (Bool):=if (l0.length:Int) > 150 then (some false) else (spec_StoreOk.l0 k l0 0)
theorem spec_StoreOk.mono_l:∀k,(∀y0 y1,LeO (spec_StoreOk.l0 k y0 y1) (spec_StoreOk.l0 (k+1) y0 y1))
 | 0=> fun _ _ r h=> by simp [spec_StoreOk.l0] at h
 | k+1=> by
  have ih0:=spec_StoreOk.mono_l k
  ·intro y0 y1
   unfold spec_StoreOk.l0
   with_reducible repeat' (first | apply ih0 | apply spec_RecordOk.mono | exact LeO.refl _ | exact LeO.none _ | refine LeO.ite ?_ ?_ | refine LeO.bind ?_ (fun _=> ?_))
theorem spec_StoreOk.mono:∀a0 k,LeO (spec_StoreOk.f k a0) (spec_StoreOk.f (k+1) a0):=by
 intro a0 k
 have ih0:=spec_StoreOk.mono_l k
 unfold spec_StoreOk.f
 with_reducible repeat' (first | apply ih0 | apply spec_RecordOk.mono | exact LeO.refl _ | exact LeO.none _ | refine LeO.ite ?_ ?_ | refine LeO.bind ?_ (fun _=> ?_))
def spec_StoreOk.T6:Bool×List (List Nat×List Nat):=(true,[([],[]),([],[]),([0,1],[0,1]),([2],[2]),([3],[3]),([4],[4]),([5,4],[5]),([6],[6]),([7,6],[6,7]),([8,6,6],[6,8]),([9],[9]),([9],[9]),([11,9],[9,11]),([10,12,9],[9,10,12]),([13,9],[9,13]),([9],[9]),([9],[9]),([15,16,9],[9,15,16]),([17,9],[9,17]),([14,18,9,9],[9,14,18]),([19,9],[9,19]),([9,20,6],[6,9,20]),([6,21],[6,21])])
def spec_StoreOk.B6:List Nat:=[0,0,3,7,15,31,63,127,255,511,1023,1023,3071,8191,16383,1023,1023,99327,230399,524287,1048575,2097151,4194303]
theorem spec_StoreOk.tab6:rtab .any (opsOf Try.f88 6)=spec_StoreOk.T6:=by kernel_rfl
theorem spec_StoreOk.bits6:waitsOk spec_StoreOk.T6.2 spec_StoreOk.B6=true:=by kernel_rfl
set_option maxHeartbeats 8000000 in
set_option maxRecDepth 100000 in
theorem spec_StoreOk.calls (k:Nat) (A0:Option Addr) (c0:Nat) (l0:List (S61)) (r:Bool) (w:World) (hr0:Kd.C k61 w A0 l0.length l0) (hc0:l0.length≤c0) (h:spec_StoreOk.f k l0=some r):
  Calls Try.prog 88 #[.slice A0 l0.length c0] w fun e w'=> e=.returned (.bool r)∧Below w.heap.size w w':=by
 have hu61:=Try.underlying61;have HR0:=ak hr0;have Bh:=ak hc0;clear hr0 hc0;have HB:=ak (Below.refl w.heap.size w);have H:=h
 clear h;unfold spec_StoreOk.f at H
 by_cases c2:(l0.length:Int) > 150
 ·rw [if_pos c2] at H;have Az:=decide_eq_true c2
  have Ba:decide (150<l0.length)=true:=decide_eq_true (by omega)
  clear c2;obtain rfl:=Option.some.inj H
  go_enter Try.func88,Try.ntmps88
  go_wp2
  go_ret
  exact ⟨er_q,bw_q HB⟩
 ·rw [if_neg c2] at H;have Az:=decide_eq_false c2
  have Ba:decide (150<l0.length)=false:=decide_eq_false (by omega)
  clear c2;have H':=ak H;clear H
  go_enter Try.func88,Try.ntmps88
  go_wp2
  go_loopg [3] k (fun kq v3 w'=> ∃(Aa:Int),v3=.int .i64 Aa∧Aside0 (spec_StoreOk.l0 kq l0 Aa=some r)∧Aside0 (kq≤k)∧Aside0 (Below w.heap.size w w'))
  case atStart=> exact ⟨(0),rs_q,H',⟨Nat.le_refl _⟩,⟨bw_q HB⟩⟩
  case round=>
   clear H';(try clear c2);(try clear Az);(try clear Ba);(try clear p2);obtain ⟨Aa,rfl,HA,Aw,HB⟩:=hrel
   cases gk with
   | zero=> exact absurd HA.out (by simp [spec_StoreOk.l0])
   | succ k1=>
    have H:=HA.out;clear HA
    simp only [spec_StoreOk.l0] at H
    by_cases c3:Aa<(l0.length:Int)
    ·rw [if_pos c3] at H;have Bd:=decide_eq_true c3;clear c3
     by_cases c4:0≤Aa
     ·rw [if_pos c4] at H;have Bf:=decide_eq_true c4
      clear c4;replace H:=bsi H;obtain ⟨Bb,A50,H⟩:=H
      (try dsimp only at H)
      have A5:=ak A50;clear A50;have HZ35:=ak H;clear H
      try go_wp2
      replace HB:=ak (below_drew1 HB.out)
      have p261:0≤(Aa:Int):=of_decide_eq_true as_q
      have q261:Aa<(l0.length:Int):=of_decide_eq_true as_q
      obtain ⟨Au,A261_5,c261_5,e261,Ab,Ac,Ad,Ae,Af,Ag,Ah,Ai,hl261_5,hi261_5⟩:=at_T61 HR0.out Aa p261 q261;have hw261_7:=Ai;have hw261_6:=Ah;have hw261_5:=Ag;have hw261_4:=Af;have hw261_3:=Ae;have hw261_2:=Ad;have hw261_1:=Ac;have hw261_0:=Ab
      cases e261
      obtain ⟨Ab,Ac,Ad,Ae,Af,Ag,Ah,Ai⟩:=hb8_ HB Ab Ac Ad Ae Af Ag Ah Ai;have Aj:=ak hi261_5;have At:=ak hl261_5;clear hi261_5 hl261_5;replace p261:=eq_true p261;replace q261:=eq_true q261
      refine start_ (n:=23) (S:=fun w'=> el8 w' (Au.add ((Aa).toNat*8)) (.int .i64 ((rd_T61 l0 Aa).f0)) (.int .i64 ((rd_T61 l0 Aa).f1)) (.int .i64 ((rd_T61 l0 Aa).f2)) (.int .i64 ((rd_T61 l0 Aa).f3)) (.int .i64 ((rd_T61 l0 Aa).f4)) (.slice A261_5 ((rd_T61 l0 Aa).f5).length c261_5) (.int .i64 ((rd_T61 l0 Aa).f6)) (.bool ((rd_T61 l0 Aa).f7))) (ds:=[]) (bL 23 0) (by kernel_rfl) rfl rfl (hb8_ HB hw261_0 hw261_1 hw261_2 hw261_3 hw261_4 hw261_5 hw261_6 hw261_7) (fun hHeld=> ?_);refine with_tabW spec_StoreOk.tab6 spec_StoreOk.bits6 (fun HT_ HW_=> ?_)
      generalize wr.drew=w13 at HB Aj Ab Ac Ad Ae Af Ag Ah Ai hHeld ⊢
      refine pQ_ 0 HT_ ?_
      refine pQ_ 1 HT_ ?_
      refine pQ_ 2 HT_ ?_
      refine take_ (i:=3) (N:=some 16) (v:=?_) (a':=?_) (bL 23 15) rfl rfl (take_ofW HT_.out HW_.out (by kernel_rfl)) (fun _ _ _ h=> h) (Or.inl ⟨by rfl,?_⟩) hHeld ?_ ?_;rotate_left;(rintro w' s0;go_simp;with_reducible rfl);rotate_left;(exact put_q)
      refine one_ (i:=4) (N:=some 17) (bL 23 31) rfl rfl (one_of HT_.out (by kernel_rfl)) (by decide) (fun K hK=> ?_)
      refine goes_ Try.func131 (by kernel_rfl) rfl #[.agg #[.int .i64 ((rd_T61 l0 Aa).f0),.int .i64 ((rd_T61 l0 Aa).f1),.int .i64 ((rd_T61 l0 Aa).f2),.int .i64 ((rd_T61 l0 Aa).f3),.int .i64 ((rd_T61 l0 Aa).f4),.slice A261_5 ((rd_T61 l0 Aa).f5).length c261_5,.int .i64 ((rd_T61 l0 Aa).f6),.bool ((rd_T61 l0 Aa).f7)]] (by rfl) rfl rfl mp_q ?_
      with_reducible refine (spec_RecordOk.calls k1 ((rd_T61 l0 Aa).f0) ((rd_T61 l0 Aa).f1) ((rd_T61 l0 Aa).f2) ((rd_T61 l0 Aa).f3) ((rd_T61 l0 Aa).f4) _ _ ((rd_T61 l0 Aa).f5) ((rd_T61 l0 Aa).f6) ((rd_T61 l0 Aa).f7) Bb _ ?_ ?_ A5.out).mono ?_
      exact ch_ Aj HB
      exact At.out
      rintro e w14 ⟨rfl,hb⟩
      refine ⟨_,rfl,?_⟩
      replace HB:=hB_ HB hb
      refine hK.out _ _ (hb8_ HB hw261_0 hw261_1 hw261_2 hw261_3 hw261_4 hw261_5 hw261_6 hw261_7) (fun hHeld=> ?_)
      clear hK K
      refine norm_ (a':=?_) ?_ ?_;rotate_left;(show Act.put _ (some 17) _=_;simp only [Act.put,List.setIfInBounds_toArray,List.set_cons_zero,List.set_cons_succ,i64_w,i32_w];rfl)
      refine pQ_ 5 HT_ ?_
      refine pQ_ 6 HT_ ?_
      have H:=HZ35.out;clear HZ35
      by_cases c6:Bb=true
      ·subst c6;rw [if_pos rfl] at H;have HZ36:=ak H;clear H
       refine pQ_ 7 HT_ ?_
       refine pQ_ 8 HT_ ?_
       refine pQ_ 9 HT_ ?_
       have H:=HZ36.out;clear HZ36
       by_cases c7:Aa > 0
       ·rw [if_pos c7] at H;have As:=decide_eq_true c7
        (first | rw [As] | (simp only [i64_w,i32_w];first | rw [As]) | skip)
        clear c7;obtain ⟨ji8,hji8⟩:∃j_:Int,(wrap64 (Aa-1))=j_:=⟨_,rfl⟩
        replace H:(if 0≤(ji8) then (if (ji8)<(l0.length:Int) then ((spec_Before.f ((rd_T61 l0 (ji8)).f0) ((rd_T61 l0 (ji8)).f1) ((rd_T61 l0 (ji8)).f2) ((rd_T61 l0 (ji8)).f3) ((rd_T61 l0 (ji8)).f4) ((rd_T61 l0 (ji8)).f5) ((rd_T61 l0 (ji8)).f6) ((rd_T61 l0 (ji8)).f7) ((rd_T61 l0 Aa).f0) ((rd_T61 l0 Aa).f1) ((rd_T61 l0 Aa).f2) ((rd_T61 l0 Aa).f3) ((rd_T61 l0 Aa).f4) ((rd_T61 l0 Aa).f5) ((rd_T61 l0 Aa).f6) ((rd_T61 l0 Aa).f7)).bind fun Av=> (if Av=true then (spec_StoreOk.l0 k1 l0 (wrap64 (Aa+1))) else (some false))) else (none)) else (none))=some r:=by first | (rw [hji8] at H;exact H) | (simp only [hji8] at H ⊢;exact H)
        (try rw [hji8] at A5)
        have hji8w:(IntKind.i64.wrap (Aa-1))=ji8:=(i64_w _).trans hji8
        by_cases c9:0≤(ji8)
        ·rw [if_pos c9] at H;have Bg:=decide_eq_true c9;clear c9
         by_cases c10:(ji8)<(l0.length:Int)
         ·rw [if_pos c10] at H;have Be:=decide_eq_true c10
          clear c10;replace H:=bsi H;obtain ⟨Av,A110,H⟩:=H
          (try dsimp only at H)
          have A11:=ak A110;clear A110;have HZ37:=ak H;clear H
          have p263:0≤((ji8):Int):=of_decide_eq_true as_q
          have q263:(ji8)<(l0.length:Int):=of_decide_eq_true as_q
          obtain ⟨Bc,A263_5,c263_5,e263,Ak,Al,Am,An,Ao,Ap,Aq,Ar,hl263_5,hi263_5⟩:=at_T61 HR0.out (ji8) p263 q263;have hw263_7:=Ar;have hw263_6:=Aq;have hw263_5:=Ap;have hw263_4:=Ao;have hw263_3:=An;have hw263_2:=Am;have hw263_1:=Al;have hw263_0:=Ak
          obtain rfl:Au=Bc:=(by injection e263)
          obtain ⟨Ak,Al,Am,An,Ao,Ap,Aq,Ar⟩:=hb8_ HB Ak Al Am An Ao Ap Aq Ar;have Ax:=ak hi263_5;have Ay:=ak hl263_5;clear hi263_5 hl263_5;replace p263:=eq_true p263;replace q263:=eq_true q263
          refine lw_ (fun w'=> el8 w' (Au.add (((ji8)).toNat*8)) (.int .i64 ((rd_T61 l0 (ji8)).f0)) (.int .i64 ((rd_T61 l0 (ji8)).f1)) (.int .i64 ((rd_T61 l0 (ji8)).f2)) (.int .i64 ((rd_T61 l0 (ji8)).f3)) (.int .i64 ((rd_T61 l0 (ji8)).f4)) (.slice A263_5 ((rd_T61 l0 (ji8)).f5).length c263_5) (.int .i64 ((rd_T61 l0 (ji8)).f6)) (.bool ((rd_T61 l0 (ji8)).f7))) (hb8_ HB hw263_0 hw263_1 hw263_2 hw263_3 hw263_4 hw263_5 hw263_6 hw263_7) hHeld (fun hHeld=> ?_)
          refine pQ_ 10 HT_ ?_
          refine pQ_ 11 HT_ ?_
          refine pQ_ 12 HT_ ?_
          refine pQ_ 13 HT_ ?_
          refine pQ_ 15 HT_ ?_
          refine pQ_ 16 HT_ ?_
          refine pQ_ 17 HT_ ?_
          refine take_ (i:=14) (N:=some 27) (v:=?_) (a':=?_) (bL 23 262143) rfl rfl (take_ofW HT_.out HW_.out (by kernel_rfl)) (fun _ _ _ h=> h) (Or.inl ⟨by rfl,?_⟩) hHeld ?_ ?_;rotate_left;(rintro w' ⟨s0,s1⟩;go_simp;with_reducible rfl);rotate_left;(exact put_q)
          refine take_ (i:=18) (N:=some 31) (v:=?_) (a':=?_) (bL 23 524287) rfl rfl (take_ofW HT_.out HW_.out (by kernel_rfl)) (fun _ _ _ h=> h) (Or.inl ⟨by rfl,?_⟩) hHeld ?_ ?_;rotate_left;(rintro w' ⟨s0,s1⟩;go_simp;with_reducible rfl);rotate_left;(exact put_q)
          refine one_ (i:=19) (N:=some 32) (bL 23 1048575) rfl rfl (one_of HT_.out (by kernel_rfl)) (by decide) (fun K hK=> ?_)
          refine goes_ Try.func72 (by kernel_rfl) rfl #[.agg #[.int .i64 ((rd_T61 l0 (ji8)).f0),.int .i64 ((rd_T61 l0 (ji8)).f1),.int .i64 ((rd_T61 l0 (ji8)).f2),.int .i64 ((rd_T61 l0 (ji8)).f3),.int .i64 ((rd_T61 l0 (ji8)).f4),.slice A263_5 ((rd_T61 l0 (ji8)).f5).length c263_5,.int .i64 ((rd_T61 l0 (ji8)).f6),.bool ((rd_T61 l0 (ji8)).f7)],.agg #[.int .i64 ((rd_T61 l0 Aa).f0),.int .i64 ((rd_T61 l0 Aa).f1),.int .i64 ((rd_T61 l0 Aa).f2),.int .i64 ((rd_T61 l0 Aa).f3),.int .i64 ((rd_T61 l0 Aa).f4),.slice A261_5 ((rd_T61 l0 Aa).f5).length c261_5,.int .i64 ((rd_T61 l0 Aa).f6),.bool ((rd_T61 l0 Aa).f7)]] (by rfl) rfl rfl (by (try simp only [List.map_toArray,List.map_cons,List.map_nil]);first | done | (simp only [hji8];rfl) | rfl | (simp only [List.length_drop,List.length_take];rfl)) ?_
          with_reducible refine (spec_Before.calls ((rd_T61 l0 (ji8)).f0) ((rd_T61 l0 (ji8)).f1) ((rd_T61 l0 (ji8)).f2) ((rd_T61 l0 (ji8)).f3) ((rd_T61 l0 (ji8)).f4) _ _ ((rd_T61 l0 (ji8)).f5) ((rd_T61 l0 (ji8)).f6) ((rd_T61 l0 (ji8)).f7) ((rd_T61 l0 Aa).f0) ((rd_T61 l0 Aa).f1) ((rd_T61 l0 Aa).f2) ((rd_T61 l0 Aa).f3) ((rd_T61 l0 Aa).f4) _ _ ((rd_T61 l0 Aa).f5) ((rd_T61 l0 Aa).f6) ((rd_T61 l0 Aa).f7) Av _ ?_ ?_ ?_ ?_ A11.out).mono ?_
          exact ch_ Ax HB
          exact Ay.out
          exact ch_ Aj HB
          exact At.out
          rintro e w15 ⟨rfl,hb⟩
          refine ⟨_,rfl,?_⟩
          replace HB:=hB_ HB hb
          refine hK.out _ _ ⟨hb8_ HB hw263_0 hw263_1 hw263_2 hw263_3 hw263_4 hw263_5 hw263_6 hw263_7,hb8_ HB hw261_0 hw261_1 hw261_2 hw261_3 hw261_4 hw261_5 hw261_6 hw261_7⟩ (fun hHeld=> ?_)
          clear hK K
          refine norm_ (a':=?_) ?_ ?_;rotate_left;(show Act.put _ (some 32) _=_;simp only [Act.put,List.setIfInBounds_toArray,List.set_cons_zero,List.set_cons_succ,i64_w,i32_w];rfl)
          refine pQ_ 20 HT_ ?_
          refine pQ_ 21 HT_ ?_
          refine pQ_ 22 HT_ ?_
          have H:=HZ37.out;clear HZ37
          by_cases c12:Av=true
          ·subst c12;rw [if_pos rfl] at H;have H':=ak H;clear H
           refine done_ (done_of HT_.out (by kernel_rfl)) ?_
           try go_wp2
           go_roundg k1
           case measure=> have:=Aw.out;omega
           case rel=> exact ⟨(wrap64 (Aa+1)),rs_q,H',⟨by have:=Aw.out;omega⟩,⟨bw_q HB⟩⟩
          ·replace c12:=Bool.eq_false_iff.mpr c12;subst c12
           rw [if_neg (show ¬(false=true) by decide)] at H
           obtain rfl:=Option.some.inj H
           refine done_ (done_of HT_.out (by kernel_rfl)) ?_
           try go_wp2
           go_ret
           exact ⟨by first | rfl | (simp [errW_none,errW_some] <;> rfl) | (simp only [←hji8];first | rfl | (simp [errW_none,errW_some] <;> rfl)) | (simp [*,errW_none,errW_some] <;> rfl),bw_q HB⟩
         ·rw [if_neg c10] at H
          exact absurd H (by simp)
        ·rw [if_neg c9] at H
         exact absurd H (by simp)
       ·rw [if_neg c7] at H;have As:=decide_eq_false c7
        (first | rw [As] | (simp only [i64_w,i32_w];first | rw [As]) | skip)
        clear c7;have H':=ak H;clear H
        refine pU_ 10 HT_ ?_
        refine pU_ 11 HT_ ?_
        refine pU_ 12 HT_ ?_
        refine pU_ 13 HT_ ?_
        refine pU_ 14 HT_ ?_
        refine pU_ 15 HT_ ?_
        refine pU_ 16 HT_ ?_
        refine pU_ 17 HT_ ?_
        refine pU_ 18 HT_ ?_
        refine pU_ 19 HT_ ?_
        refine pU_ 20 HT_ ?_
        refine pQ_ 21 HT_ ?_
        refine pQ_ 22 HT_ ?_
        refine done_ (done_of HT_.out (by kernel_rfl)) ?_
        try go_wp2
        go_roundg k1
        case measure=> have:=Aw.out;omega
        case rel=> exact ⟨(wrap64 (Aa+1)),rs_q,H',⟨by have:=Aw.out;omega⟩,⟨bw_q HB⟩⟩
      ·replace c6:=Bool.eq_false_iff.mpr c6;subst c6
       rw [if_neg (show ¬(false=true) by decide)] at H
       obtain rfl:=Option.some.inj H
       refine pU_ 7 HT_ ?_
       refine pU_ 8 HT_ ?_
       refine pU_ 9 HT_ ?_
       refine pU_ 10 HT_ ?_
       refine pU_ 11 HT_ ?_
       refine pU_ 12 HT_ ?_
       refine pU_ 13 HT_ ?_
       refine pU_ 14 HT_ ?_
       refine pU_ 15 HT_ ?_
       refine pU_ 16 HT_ ?_
       refine pU_ 17 HT_ ?_
       refine pU_ 18 HT_ ?_
       refine pU_ 19 HT_ ?_
       refine pU_ 20 HT_ ?_
       refine pU_ 21 HT_ ?_
       refine pQ_ 22 HT_ ?_
       refine done_ (done_of HT_.out (by kernel_rfl)) ?_
       try go_wp2
       go_ret
       exact ⟨er_q,bw_q HB⟩
     ·rw [if_neg c4] at H
      exact absurd H (by simp)
    ·rw [if_neg c3] at H;have Bd:=decide_eq_false c3
     clear c3;obtain rfl:=Option.some.inj H
     go_wp2
     go_ret
     exact ⟨er_q,bw_q HB⟩

/-! ### spec_SelfOk: function 21 -/
def spec_SelfOk.f (k:Nat) (b:Int) (c:Int) (a:Int) (d:List (S93)) (e:List (S102)) (h:List Int) (g:List (S61)):Option (Bool):=(spec_NetOk.f k a d e).bind fun i=> (if i=true then ((spec_l01In.f b 1 a).bind fun j=> (if j=true then ((spec_l01In.f c 0 90).bind fun l=> (if l=true then ((spec_l08Heard.f k b c a d e h g).bind fun m=> (if m=true then ((spec_StoreOk.f k g).bind fun n=> (some n)) else (some false))) else (some false))) else (some false))) else (some false))
theorem spec_SelfOk.mono:∀a0 a1 a2 a3 a4 a5 a6 k,LeO (spec_SelfOk.f k a0 a1 a2 a3 a4 a5 a6) (spec_SelfOk.f (k+1) a0 a1 a2 a3 a4 a5 a6):=by
 intro a0 a1 a2 a3 a4 a5 a6 k
 unfold spec_SelfOk.f
 with_reducible repeat' (first | apply spec_NetOk.mono | apply spec_StoreOk.mono | apply spec_l08Heard.mono | exact LeO.refl _ | exact LeO.none _ | refine LeO.ite ?_ ?_ | refine LeO.bind ?_ (fun _=> ?_))
set_option maxHeartbeats 8000000 in
set_option maxRecDepth 100000 in
theorem spec_SelfOk.calls (k:Nat) (Ae:Int) (Ag:Int) (Ab:Int) (Ah:Option Addr) (Ai:Nat) (Ac:List (S93)) (Aj:Option Addr) (Ak:Nat) (Ad:List (S102)) (Aq:Option Addr) (Ar:Nat) (Al:List Int) (As:Option Addr) (At:Nat) (Af:List (S61)) (r:Bool) (w:World) (hr0_3:Kd.C k93 w Ah Ac.length Ac) (hc0_3:Ac.length≤Ai) (hr0_4:Kd.C k102 w Aj Ad.length Ad) (hc0_4:Ad.length≤Ak) (hr0_5:Kd.C (Kd.int .i64) w Aq Al.length Al) (hc0_5:Al.length≤Ar) (hr0_6:Kd.C k61 w As Af.length Af) (hc0_6:Af.length≤At) (h:spec_SelfOk.f k Ae Ag Ab Ac Ad Al Af=some r):
  Calls Try.prog 21 #[.agg #[.int .i64 Ae,.int .i64 Ag,.int .i64 Ab,.slice Ah Ac.length Ai,.slice Aj Ad.length Ak,.slice Aq Al.length Ar,.slice As Af.length At]] w fun e w'=> e=.returned (.bool r)∧Below w.heap.size w w':=by
 have hu43:=Try.underlying43;have hu31:=Try.underlying31;have Am:=ak hr0_3;have An:=ak hc0_3;clear hr0_3 hc0_3;have Ao:=ak hr0_4;have Ap:=ak hc0_4;clear hr0_4 hc0_4;have Ay:=ak hr0_5;have Az:=ak hc0_5;clear hr0_5 hc0_5;have Aw:=ak hr0_6;have Ax:=ak hc0_6;clear hr0_6 hc0_6;have HB:=ak (Below.refl w.heap.size w);have H:=h
 clear h;unfold spec_SelfOk.f at H;replace H:=bsi H;obtain ⟨Ba,A20,H⟩:=H
 (try dsimp only at H)
 have A2:=ak A20;clear A20
 by_cases c3:Ba=true
 ·subst c3;rw [if_pos rfl] at H;replace H:=bsi H;obtain ⟨Bb,A40,H⟩:=H
  (try dsimp only at H)
  have A4:=ak A40;clear A40
  by_cases c5:Bb=true
  ·subst c5;rw [if_pos rfl] at H;replace H:=bsi H;obtain ⟨Bc,A60,H⟩:=H
   (try dsimp only at H)
   have A6:=ak A60;clear A60
   by_cases c7:Bc=true
   ·subst c7;rw [if_pos rfl] at H;replace H:=bsi H;obtain ⟨Bd,A80,H⟩:=H
    (try dsimp only at H)
    have A8:=ak A80;clear A80
    by_cases c9:Bd=true
    ·subst c9;rw [if_pos rfl] at H;replace H:=bsi H;obtain ⟨Be,A100,H⟩:=H
     (try dsimp only at H)
     have A10:=ak A100;clear A100;obtain rfl:=Option.some.inj H
     go_enter Try.func21,Try.ntmps21
     go_wp2_with (first | ((with_reducible refine gate_dst (N:=1) rfl ?_);refine box_q 1 #[.int .i64 Ae,.int .i64 Ag,.int .i64 Ab,.slice Ah Ac.length Ai,.slice Aj Ad.length Ak,.slice Aq Al.length Ar,.slice As Af.length At] 43 ?_;intro Au hg w11 hbox hb;have Aa:=ak (hbox);have Av:=gs_ HB hg;replace HB:=hB_ HB hb;clear hb hbox hg;obtain ⟨Bf,Bg,Bh,Bi,Bj,Bk,Bl,Bm,Bn,Bo,Bp,Bq,Br,Bs⟩:=cf7_ Aa) | ((with_reducible refine gC_ 16 ?_);refine gL_ 5 Try.func16 #[.agg #[.int .i64 Ab,.slice Ah Ac.length Ai,.slice Aj Ad.length Ak]] ?_;(with_reducible refine (spec_NetOk.calls k Ab _ _ Ac _ _ Ad true _ ?_ ?_ ?_ ?_ A2.out).mono ?_);exact ch_ Am HB;exact An.out;exact ch_ Ao HB;exact Ap.out;rintro e w13 ⟨rfl,hb⟩;refine ⟨_,rfl,?_⟩;replace Aa:=bb_ Aa hb;replace HB:=hB_ HB hb;obtain ⟨Bt,Bu,Bv,Bw,Bx,By,Bz,Ca,Cb,Cc,Cd,Ce,Cf,Cg⟩:=cf7_ Aa) | (go_at_call 75;(with_reducible refine (spec_l01In.calls Ae 1 Ab true _ A4.out).mono ?_);rintro e w' ⟨rfl,⟨nd,rfl⟩⟩) | (go_at_call 75;(with_reducible refine (spec_l01In.calls Ag 0 90 true _ A6.out).mono ?_);rintro e w' ⟨rfl,⟨nd,rfl⟩⟩) | (go_at_call 87;(with_reducible refine (spec_l08Heard.calls k Ae Ag Ab _ _ Ac _ _ Ad _ _ Al _ _ Af true _ ?_ ?_ ?_ ?_ ?_ ?_ ?_ ?_ A8.out).mono ?_);exact cs_q (Kd.C_below Am.out (bw_q HB));exact An.out;exact cs_q (Kd.C_below Ao.out (bw_q HB));exact Ap.out;exact cs_q (Kd.C_below Ay.out (bw_q HB));exact Az.out;exact cs_q (Kd.C_below Aw.out (bw_q HB));exact Ax.out;rintro e w15 ⟨rfl,hb⟩;replace Aa:=bb_ Aa hb;replace HB:=hB_ HB hb;obtain ⟨Ch,Ci,Cj,Ck,Cl,Cm,Cn,Co,Cp,Cq,Cr,Cs,Ct,Cu⟩:=cf7_ Aa) | (go_at_call 88;(with_reducible refine (spec_StoreOk.calls k _ _ Af Be _ ?_ ?_ A10.out).mono ?_);exact ch_ Aw HB;exact Ax.out;rintro e w17 ⟨rfl,hb⟩;replace Aa:=bb_ Aa hb;replace HB:=hB_ HB hb))
     go_ret
     exact ⟨er_q,bw_q HB⟩
    ·replace c9:=Bool.eq_false_iff.mpr c9;subst c9
     rw [if_neg (show ¬(false=true) by decide)] at H
     obtain rfl:=Option.some.inj H
     go_enter Try.func21,Try.ntmps21
     go_wp2_with (first | ((with_reducible refine gate_dst (N:=1) rfl ?_);refine box_q 1 #[.int .i64 Ae,.int .i64 Ag,.int .i64 Ab,.slice Ah Ac.length Ai,.slice Aj Ad.length Ak,.slice Aq Al.length Ar,.slice As Af.length At] 43 ?_;intro Au hg w18 hbox hb;have Aa:=ak (hbox);have Av:=gs_ HB hg;replace HB:=hB_ HB hb;clear hb hbox hg;obtain ⟨Cv,Cw,Cx,Cy,Cz,Da,Db,Dc,Dd,De,Df,Dg,Dh,Di⟩:=cf7_ Aa) | ((with_reducible refine gC_ 16 ?_);refine gL_ 5 Try.func16 #[.agg #[.int .i64 Ab,.slice Ah Ac.length Ai,.slice Aj Ad.length Ak]] ?_;(with_reducible refine (spec_NetOk.calls k Ab _ _ Ac _ _ Ad true _ ?_ ?_ ?_ ?_ A2.out).mono ?_);exact ch_ Am HB;exact An.out;exact ch_ Ao HB;exact Ap.out;rintro e w20 ⟨rfl,hb⟩;refine ⟨_,rfl,?_⟩;replace Aa:=bb_ Aa hb;replace HB:=hB_ HB hb;obtain ⟨Dj,Dk,Dl,Dm,Dn,Do,Dp,Dq,Dr,Ds,Dt,Du,Dv,Dw⟩:=cf7_ Aa) | (go_at_call 75;(with_reducible refine (spec_l01In.calls Ae 1 Ab true _ A4.out).mono ?_);rintro e w' ⟨rfl,⟨nd,rfl⟩⟩) | (go_at_call 75;(with_reducible refine (spec_l01In.calls Ag 0 90 true _ A6.out).mono ?_);rintro e w' ⟨rfl,⟨nd,rfl⟩⟩) | (go_at_call 87;(with_reducible refine (spec_l08Heard.calls k Ae Ag Ab _ _ Ac _ _ Ad _ _ Al _ _ Af false _ ?_ ?_ ?_ ?_ ?_ ?_ ?_ ?_ A8.out).mono ?_);exact cs_q (Kd.C_below Am.out (bw_q HB));exact An.out;exact cs_q (Kd.C_below Ao.out (bw_q HB));exact Ap.out;exact cs_q (Kd.C_below Ay.out (bw_q HB));exact Az.out;exact cs_q (Kd.C_below Aw.out (bw_q HB));exact Ax.out;rintro e w22 ⟨rfl,hb⟩;replace Aa:=bb_ Aa hb;replace HB:=hB_ HB hb))
     go_ret
     exact ⟨er_q,bw_q HB⟩
   ·replace c7:=Bool.eq_false_iff.mpr c7;subst c7
    rw [if_neg (show ¬(false=true) by decide)] at H
    obtain rfl:=Option.some.inj H
    go_enter Try.func21,Try.ntmps21
    go_wp2_with (first | ((with_reducible refine gate_dst (N:=1) rfl ?_);refine box_q 1 #[.int .i64 Ae,.int .i64 Ag,.int .i64 Ab,.slice Ah Ac.length Ai,.slice Aj Ad.length Ak,.slice Aq Al.length Ar,.slice As Af.length At] 43 ?_;intro Au hg w23 hbox hb;have Aa:=ak (hbox);have Av:=gs_ HB hg;replace HB:=hB_ HB hb;clear hb hbox hg;obtain ⟨Dx,Dy,Dz,Ea,Eb,Ec,Ed,Ee,Ef,Eg,Eh,Ei,Ej,Ek⟩:=cf7_ Aa) | ((with_reducible refine gC_ 16 ?_);refine gL_ 5 Try.func16 #[.agg #[.int .i64 Ab,.slice Ah Ac.length Ai,.slice Aj Ad.length Ak]] ?_;(with_reducible refine (spec_NetOk.calls k Ab _ _ Ac _ _ Ad true _ ?_ ?_ ?_ ?_ A2.out).mono ?_);exact ch_ Am HB;exact An.out;exact ch_ Ao HB;exact Ap.out;rintro e w25 ⟨rfl,hb⟩;refine ⟨_,rfl,?_⟩;replace Aa:=bb_ Aa hb;replace HB:=hB_ HB hb;obtain ⟨El,Em,En,Eo,Ep,Eq,Er,Es,Et,Eu,Ev,Ew,Ex,Ey⟩:=cf7_ Aa) | (go_at_call 75;(with_reducible refine (spec_l01In.calls Ae 1 Ab true _ A4.out).mono ?_);rintro e w' ⟨rfl,⟨nd,rfl⟩⟩) | (go_at_call 75;(with_reducible refine (spec_l01In.calls Ag 0 90 false _ A6.out).mono ?_);rintro e w' ⟨rfl,⟨nd,rfl⟩⟩))
    go_ret
    exact ⟨er_q,bw_q HB⟩
  ·replace c5:=Bool.eq_false_iff.mpr c5;subst c5
   rw [if_neg (show ¬(false=true) by decide)] at H
   obtain rfl:=Option.some.inj H
   go_enter Try.func21,Try.ntmps21
   go_wp2_with (first | ((with_reducible refine gate_dst (N:=1) rfl ?_);refine box_q 1 #[.int .i64 Ae,.int .i64 Ag,.int .i64 Ab,.slice Ah Ac.length Ai,.slice Aj Ad.length Ak,.slice Aq Al.length Ar,.slice As Af.length At] 43 ?_;intro Au hg w27 hbox hb;have Aa:=ak (hbox);have Av:=gs_ HB hg;replace HB:=hB_ HB hb;clear hb hbox hg;obtain ⟨Ez,Fa,Fb,Fc,Fd,Fe,Ff,Fg,Fh,Fi,Fj,Fk,Fl,Fm⟩:=cf7_ Aa) | ((with_reducible refine gC_ 16 ?_);refine gL_ 5 Try.func16 #[.agg #[.int .i64 Ab,.slice Ah Ac.length Ai,.slice Aj Ad.length Ak]] ?_;(with_reducible refine (spec_NetOk.calls k Ab _ _ Ac _ _ Ad true _ ?_ ?_ ?_ ?_ A2.out).mono ?_);exact ch_ Am HB;exact An.out;exact ch_ Ao HB;exact Ap.out;rintro e w29 ⟨rfl,hb⟩;refine ⟨_,rfl,?_⟩;replace Aa:=bb_ Aa hb;replace HB:=hB_ HB hb;obtain ⟨Fn,Fo,Fp,Fq,Fr,Fs,Ft,Fu,Fv,Fw,Fx,Fy,Fz,Ga⟩:=cf7_ Aa) | (go_at_call 75;(with_reducible refine (spec_l01In.calls Ae 1 Ab false _ A4.out).mono ?_);rintro e w' ⟨rfl,⟨nd,rfl⟩⟩))
   go_ret
   exact ⟨er_q,bw_q HB⟩
 ·replace c3:=Bool.eq_false_iff.mpr c3;subst c3
  rw [if_neg (show ¬(false=true) by decide)] at H
  obtain rfl:=Option.some.inj H
  go_enter Try.func21,Try.ntmps21
  go_wp2_with (first | ((with_reducible refine gate_dst (N:=1) rfl ?_);refine box_q 1 #[.int .i64 Ae,.int .i64 Ag,.int .i64 Ab,.slice Ah Ac.length Ai,.slice Aj Ad.length Ak,.slice Aq Al.length Ar,.slice As Af.length At] 43 ?_;intro Au hg w31 hbox hb;have Aa:=ak (hbox);have Av:=gs_ HB hg;replace HB:=hB_ HB hb;clear hb hbox hg;obtain ⟨Gb,Gc,Gd,Ge,Gf,Gg,Gh,Gi,Gj,Gk,Gl,Gm,Gn,Go⟩:=cf7_ Aa) | ((with_reducible refine gC_ 16 ?_);refine gL_ 5 Try.func16 #[.agg #[.int .i64 Ab,.slice Ah Ac.length Ai,.slice Aj Ad.length Ak]] ?_;(with_reducible refine (spec_NetOk.calls k Ab _ _ Ac _ _ Ad false _ ?_ ?_ ?_ ?_ A2.out).mono ?_);exact ch_ Am HB;exact An.out;exact ch_ Ao HB;exact Ap.out;rintro e w33 ⟨rfl,hb⟩;refine ⟨_,rfl,?_⟩;replace Aa:=bb_ Aa hb;replace HB:=hB_ HB hb))
  go_ret
  exact ⟨er_q,bw_q HB⟩

/-! ### spec_l04Copy: function 94 -/
def spec_l04Copy.f (c:Int) (d:Int) (e:Int) (g:Int) (h:Int) (a:List (S127)) (i:Int) (j:Bool):Option (Int×Int×Int×Int×Int×(List (S127))×Int×Bool):=(some (([]:List (S127)):List (S127))).bind fun b=> (if b.length+a.length<8796093022208 then (some (c,d,e,g,h,(b++a),i,j)) else (none))
set_option maxHeartbeats 8000000 in
set_option maxRecDepth 100000 in
theorem spec_l04Copy.calls (Af:Int) (Ag:Int) (Ah:Int) (Ai:Int) (Aj:Int) (Aq:Option Addr) (Ar:Nat) (Ab:List (S127)) (Ak:Int) (Al:Bool) (r1:Int) (r2:Int) (r3:Int) (r4:Int) (r5:Int) (r6:List (S127)) (r7:Int) (r8:Bool) (w:World) (hr0_5:Kd.C k127 w Aq Ab.length Ab) (hc0_5:Ab.length≤Ar) (h:spec_l04Copy.f Af Ag Ah Ai Aj Ab Ak Al=some (r1,r2,r3,r4,r5,r6,r7,r8)):
  Calls Try.prog 94 #[.agg #[.int .i64 Af,.int .i64 Ag,.int .i64 Ah,.int .i64 Ai,.int .i64 Aj,.slice Aq Ab.length Ar,.int .i64 Ak,.bool Al]] w fun e w'=> ∃v5_:Value,e=.returned (.agg #[.int .i64 r1,.int .i64 r2,.int .i64 r3,.int .i64 r4,.int .i64 r5,v5_,.int .i64 r7,.bool r8])∧Kd.R k127 127 w' w.heap.size (fun _=> True) v5_ r6∧Below w.heap.size w w':=by
 have hu61:=Try.underlying61;have Av:=ak hr0_5;have Cv:=ak hc0_5;clear hr0_5 hc0_5;have HB:=ak (Below.refl w.heap.size w);have H:=h
 clear h;unfold spec_l04Copy.f at H;obtain ⟨An,Ad⟩:∃y_:List (S127),y_=(([]:List (S127))):=⟨_,rfl⟩
 replace H:(if An.length+Ab.length<8796093022208 then (some (Af,Ag,Ah,Ai,Aj,(An++Ab),Ak,Al)) else (none))=some (r1,r2,r3,r4,r5,r6,r7,r8):=by first | (rw [Ad];with_reducible exact H) | (have H2_:=(Option.bind_some _ _).symm.trans H;rw [Ad];with_reducible exact H2_) | (have H2_:=(Option.bind_some _ _).symm.trans H;with_reducible exact H2_) | with_reducible exact H | (rw [Ad];exact H) | exact H
 have As:=ak Ad;clear Ad
 by_cases c2:An.length+Ab.length<8796093022208
 ·rw [if_pos c2] at H;have Ay:=ak c2;clear c2;obtain ⟨Au,Ae⟩:∃y_:List (S127),y_=(An++Ab):=⟨_,rfl⟩
  replace H:(some (Af,Ag,Ah,Ai,Aj,Au,Ak,Al))=some (r1,r2,r3,r4,r5,r6,r7,r8):=by first | (rw [Ae];with_reducible exact H) | (have H2_:=(Option.bind_some _ _).symm.trans H;rw [Ae];with_reducible exact H2_) | (have H2_:=(Option.bind_some _ _).symm.trans H;with_reducible exact H2_) | with_reducible exact H | (rw [Ae];exact H) | exact H
  have Aw:=ak Ae;clear Ae
  simp only [Option.some.injEq,Prod.mk.injEq] at H
  obtain ⟨rfl,rfl,rfl,rfl,rfl,rfl,rfl,rfl⟩:=H
  go_enter Try.func94,Try.ntmps94
  go_wp2_with (first | ((with_reducible refine gate_dst (N:=1) rfl ?_);refine box_q 1 #[.int .i64 Af,.int .i64 Ag,.int .i64 Ah,.int .i64 Ai,.int .i64 Aj,.slice Aq Ab.length Ar,.int .i64 Ak,.bool Al] 61 ?_;intro Cw hg w3 hbox hb;have Aa:=ak (hbox);have Cx:=gs_ HB hg;replace HB:=hB_ HB hb;clear hb hbox hg) | ((with_reducible refine gate_dst (N:=2) rfl ?_);refine box_q 2 #[.int .i64 0,.int .i64 0,.int .i64 0,.int .i64 0,.int .i64 0,.slice none 0 0,.int .i64 0,.bool false] 61 ?_;intro Ax hg w4 hbox hb;have Ac:=ak (hbox);have Cy:=gs_ HB hg;replace HB:=hB_ HB hb;have Ao:=nb_ Aa hg;have Ap:=nB_ Aa hg;replace Aa:=bb_ Aa hb;clear hb hbox hg) | ((with_reducible refine gate_dst (N:=3) rfl ?_);refine Kd.R_lit k127 _ 127 ?hg (N:=3) ?hd (xs:=([]:List (S127))) (inner:=[]) (ok:=fun _=> True) (okp:=fun _=> True) ?hr ?hp (fun _ hk=> hk) trivial (Below.refl _ _) (Nat.le_refl _) (by simp) ?_;(case hd=> rfl);(case hg=> rfl);(case hr=> first | (go_simp;done) | (go_simp;rfl));(case hp=> exact (Reps.none _ _));intro v434 w5 ho6 hb hg_ hnew_;clear hg_ hnew_;(first | rw [←As.out] at ho6 | (simp only [Int.reduceToNat] at ho6;rw [←As.out] at ho6));have Am:=ak (Kd.R_lower ho6 (below_size (bw_q HB)));replace Aa:=bb_ Aa hb;replace Ac:=bb_ Ac hb;replace HB:=hB_ HB hb;clear hb ho6;have Cz:=Ao.out;have Da:=Ap.out;obtain ⟨Cf,Cg,Ch,Ci,Cj,Ck,Cl,Cm,Cn,Co,Cp,Cq,Cr,Cs,Ct,Cu⟩:=cf8_ Aa) | ((with_reducible refine gate_builtin (b:=.append) (xs:=#[.tmp 3,.tmp 5]) rfl ?_);at_builtin;refine Kd.R_append_rows k127 (w0:=w) w.heap.size rfl (.tmp 3) (.tmp 5) 59 127 (.agg #[(.int .i64 0),(.int .i64 0)]) 16 rfl Try.underlying59 info127 rfl (by decide) (by omega) v434 An Ab _ _ _ (fun _=> True) (fun _=> False) rfl rfl ?_ ?aR (fun _ _ h=> h) (fun _ h=> h.elim) ?_ ?_ ?_ ?_ ?_;(case aR=> exact cs_q (Kd.C_below Av.out HB.out));exact (kR_q Am);exact (fun _ _=> trivial);exact (bw_q HB);exact (below_size (bw_q HB));(focus have:=Ay.out;omega);intro v437 w9 ho hb hg hat;rw [←Aw.out] at ho;replace Aa:=bG_ Aa hg (Kd.R_ne Am.out Aa.out (by decide));replace Ac:=bG_ Ac hg (Kd.R_ne Am.out Ac.out (by decide));replace HB:=ak (hb);have At:=ak (ho);clear Am;clear ho hb hg hat;obtain ⟨Ao10,co10,eo10⟩:=Kd.R_slice At.out;subst eo10;obtain ⟨Az,Ba,Bb,Bc,Bd,Be,Bf,Bg,Bh,Bi,Bj,Bk,Bl,Bm,Bn,Bo⟩:=cf8_ Aa;obtain ⟨Bp,Bq,Br,Bs,Bt,Bu,Bv,Bw,Bx,By,Bz,Ca,Cb,Cc,Cd,Ce⟩:=cf8_ Ac))
  refine bodyPost_ret (results_cell_row rfl _ _ Ax 61 #[.int .i64 Af,.int .i64 Ag,.int .i64 Ah,.int .i64 Ai,.int .i64 Aj,.slice Ao10 Au.length co10,.int .i64 Ak,.bool Al] (0,0) _ rfl (bp_ Ac) Try.underlying61 rfl (by kernel_rfl)) rfl ?_
  exact ⟨_,er_q,by exact Kd.R_mono (rF_ (Kd.R_types (Kd.R_types At.out Aa.out (by decide)) Ac.out (by decide))) (fun _ hk=> trivial),bw_q HB⟩
 ·rw [if_neg c2] at H
  exact absurd H (by simp)

/-! ### spec_l04CopyList: function 95 -/
def spec_l04CopyList.l0:Nat→List (S61)→List (S61)→Int→Option ((List (S61)))
 | 0,_,_,_=> none
 | k+1,c,d,b=> if b<(c.length:Int) then (if 0≤b then ((spec_l04Copy.f ((rd_T61 c b).f0) ((rd_T61 c b).f1) ((rd_T61 c b).f2) ((rd_T61 c b).f3) ((rd_T61 c b).f4) ((rd_T61 c b).f5) ((rd_T61 c b).f6) ((rd_T61 c b).f7)).bind fun a=> (if d.length<1759218604441 then (spec_l04CopyList.l0 k c (d++[(⟨a.1,a.2.1,a.2.2.1,a.2.2.2.1,a.2.2.2.2.1,a.2.2.2.2.2.1,a.2.2.2.2.2.2.1,a.2.2.2.2.2.2.2⟩:S61)]) (wrap64 (b+1))) else (none))) else (none)) else (some d)
def spec_l04CopyList.f (k:Nat) (l0:List (S61)):Option ((List (S61))):=spec_l04CopyList.l0 k l0 (([]:List (S61))) 0
theorem spec_l04CopyList.mono_l:∀k,(∀y0 y1 y2,LeO (spec_l04CopyList.l0 k y0 y1 y2) (spec_l04CopyList.l0 (k+1) y0 y1 y2))
 | 0=> fun _ _ _ r h=> by simp [spec_l04CopyList.l0] at h
 | k+1=> by
  have ih0:=spec_l04CopyList.mono_l k
  ·intro y0 y1 y2
   unfold spec_l04CopyList.l0
   with_reducible repeat' (first | apply ih0 | exact LeO.refl _ | exact LeO.none _ | refine LeO.ite ?_ ?_ | refine LeO.bind ?_ (fun _=> ?_))
theorem spec_l04CopyList.mono:∀a0 k,LeO (spec_l04CopyList.f k a0) (spec_l04CopyList.f (k+1) a0):=by
 intro a0 k
 have ih0:=spec_l04CopyList.mono_l k
 unfold spec_l04CopyList.f
 with_reducible repeat' (first | apply ih0 | exact LeO.refl _ | exact LeO.none _ | refine LeO.ite ?_ ?_ | refine LeO.bind ?_ (fun _=> ?_))
set_option maxHeartbeats 8000000 in
set_option maxRecDepth 100000 in
theorem spec_l04CopyList.calls (k:Nat) (A0:Option Addr) (c0:Nat) (l0:List (S61)) (r:List (S61)) (w:World) (hr0:Kd.C k61 w A0 l0.length l0) (hc0:l0.length≤c0) (h:spec_l04CopyList.f k l0=some r):
  Calls Try.prog 95 #[.slice A0 l0.length c0] w fun e w'=> ∃v0_:Value,e=.returned (v0_)∧Kd.S k61 61 w' w.heap.size (fun _=> True) v0_ r∧Below w.heap.size w w':=by
 have hu61:=Try.underlying61;have HR0:=ak hr0;have Bj:=ak hc0;clear hr0 hc0;have HB:=ak (Below.refl w.heap.size w);have H:=h
 clear h;unfold spec_l04CopyList.f at H;obtain ⟨Az,Ac⟩:∃y_:List (S61),y_=(([]:List (S61))):=⟨_,rfl⟩
 replace H:(spec_l04CopyList.l0 k l0 Az 0)=some r:=by first | (rw [Ac];with_reducible exact H) | (have H2_:=(Option.bind_some _ _).symm.trans H;rw [Ac];with_reducible exact H2_) | (have H2_:=(Option.bind_some _ _).symm.trans H;with_reducible exact H2_) | with_reducible exact H | (rw [Ac];exact H) | exact H
 have Aw:=ak Ac;clear Ac;have H':=ak H;clear H
 go_enter Try.func95,Try.ntmps95
 go_wp2_with (first | ((with_reducible refine gate_dst (N:=5) rfl ?_);refine Kd.S_lit k61 _ 61 ?hg (N:=5) ?hd (xs:=([]:List (S61))) (inner:=[]) (ok:=fun _=> True) (okp:=fun _=> True) ?hr ?hp (fun _ hk=> hk) trivial (Below.refl _ _) (Nat.le_refl _) (by simp) ?_;(case hd=> rfl);(case hg=> rfl);(case hr=> first | (go_simp;done) | (go_simp;rfl));(case hp=> exact (Reps.none _ _));intro v440 w2 ho3 hb hg_ hnew_;clear hg_ hnew_;(first | rw [←Aw.out] at ho3 | (simp only [Int.reduceToNat] at ho3;rw [←Aw.out] at ho3));have Bb:=ak (Kd.S_lower ho3 (below_size (bw_q HB)));replace HB:=hB_ HB hb;clear hb ho3))
 go_loopg [3,4] k (fun kq v3 v4 w'=> ∃(Ae:List (S61)) (Aa:Int),v4=.int .i64 Aa∧Aside0 (spec_l04CopyList.l0 kq l0 Ae Aa=some r)∧Aside0 (kq≤k)∧Aside0 (Kd.S k61 61 w' w.heap.size (fun _=> True) v3 Ae)∧Aside0 (Below w.heap.size w w'))
 case atStart=> exact ⟨(Az),(0),rs_q,H',⟨Nat.le_refl _⟩,⟨kS_q Bb⟩,⟨bw_q HB⟩⟩
 case round=>
  clear H';(try clear p2);obtain ⟨Ae,Aa,rfl,HA,Be,Ab,HB⟩:=hrel
  cases gk with
  | zero=> exact absurd HA.out (by simp [spec_l04CopyList.l0])
  | succ k1=>
   have H:=HA.out;clear HA
   simp only [spec_l04CopyList.l0] at H
   by_cases c4:Aa<(l0.length:Int)
   ·rw [if_pos c4] at H;have Bf:=decide_eq_true c4;clear c4
    by_cases c5:0≤Aa
    ·rw [if_pos c5] at H;have Bi:=decide_eq_true c5
     clear c5;replace H:=bsi H;obtain ⟨⟨Ah,Ai,Aj,Ak,Al,Af,Am,An⟩,A60,H⟩:=H
     (try dsimp only at H)
     have A6:=ak A60;clear A60
     by_cases c7:Ae.length<1759218604441
     ·rw [if_pos c7] at H;have Bg:=ak c7;clear c7;obtain ⟨Ba,Ad⟩:∃y_:List (S61),y_=(Ae++[(⟨Ah,Ai,Aj,Ak,Al,Af,Am,An⟩:S61)]):=⟨_,rfl⟩
      replace H:(spec_l04CopyList.l0 k1 l0 Ba (wrap64 (Aa+1)))=some r:=by first | (rw [Ad];with_reducible exact H) | (have H2_:=(Option.bind_some _ _).symm.trans H;rw [Ad];with_reducible exact H2_) | (have H2_:=(Option.bind_some _ _).symm.trans H;with_reducible exact H2_) | with_reducible exact H | (rw [Ad];exact H) | exact H
      have Bc:=ak Ad;clear Ad;have H':=ak H;clear H
      have p442:0≤(Aa:Int):=of_decide_eq_true as_q
      have q442:Aa<(l0.length:Int):=of_decide_eq_true as_q
      obtain ⟨Bh,A442_5,c442_5,e442,Ao,Ap,Aq,Ar,As,At,Au,Av,hl442_5,hi442_5⟩:=at_T61 HR0.out Aa p442 q442
      cases e442
      obtain ⟨Ao,Ap,Aq,Ar,As,At,Au,Av⟩:=hb8_ HB Ao Ap Aq Ar As At Au Av;have Ax:=ak hi442_5;have Ay:=ak hl442_5;clear hi442_5 hl442_5;replace p442:=eq_true p442;replace q442:=eq_true q442
      go_wp2_with (first | ((with_reducible refine gC_ 94 ?_);refine gL_ 17 Try.func94 #[.agg #[.int .i64 ((rd_T61 l0 Aa).f0),.int .i64 ((rd_T61 l0 Aa).f1),.int .i64 ((rd_T61 l0 Aa).f2),.int .i64 ((rd_T61 l0 Aa).f3),.int .i64 ((rd_T61 l0 Aa).f4),.slice A442_5 ((rd_T61 l0 Aa).f5).length c442_5,.int .i64 ((rd_T61 l0 Aa).f6),.bool ((rd_T61 l0 Aa).f7)]] ?_;(with_reducible refine (spec_l04Copy.calls ((rd_T61 l0 Aa).f0) ((rd_T61 l0 Aa).f1) ((rd_T61 l0 Aa).f2) ((rd_T61 l0 Aa).f3) ((rd_T61 l0 Aa).f4) _ _ ((rd_T61 l0 Aa).f5) ((rd_T61 l0 Aa).f6) ((rd_T61 l0 Aa).f7) Ah Ai Aj Ak Al Af Am An _ ?_ ?_ A6.out).mono ?_);exact ch_ Ax HB;exact Ay.out;rintro e w8 ⟨v449,rfl,ho0,hb⟩;refine ⟨_,rfl,?_⟩;have hs_v449:(v449:Value).oneCell'=true:=(by first | (have h_:=Kd.R_slice ho0;obtain ⟨A_,c_,e_⟩:=h_;simp [e_,Value.oneCell']) | (have h_:=Kd.S_slice ho0;obtain ⟨A_,c_,e_⟩:=h_;simp [e_,Value.oneCell']) | (have h_:=Kd.N_slice ho0;obtain ⟨A_,c_,e_⟩:=h_;simp [e_,Value.oneCell']) | (have h_:=Kd.V_slice ho0;obtain ⟨A_,c_,e_⟩:=h_;simp [e_,Value.oneCell']));have hst_v449:=fun (w_:World) (a_:Addr) m_=> run_store Try.prog w_ a_ v449 m_ hs_v449;replace Ab:=ak (Kd.S_elder' (kS_q Ab) (Kd.R_base ho0) hb);have Ag:=ak (Kd.R_lower ho0 (below_size (bw_q HB)));replace HB:=hB_ HB hb;(try clear ho0);obtain ⟨Ao10,co10,eo10⟩:=Kd.R_slice Ag.out;subst eo10) | ((with_reducible refine gate_builtin (b:=.append) (xs:=#[.tmp 12,.tmp 18]) rfl ?_);at_builtin;refine Kd.S_append k61 (w0:=w) w.heap.size rfl (.tmp 12) (.tmp 18) 41 61 (.agg #[(.int .i64 0),(.int .i64 0),(.int .i64 0),(.int .i64 0),(.int .i64 0),(.slice none 0 0),(.int .i64 0),(.bool false)]) 80 rfl Try.underlying41 info61 rfl (by decide) (by omega) u3 Ae (⟨Ah,Ai,Aj,Ak,Al,Af,Am,An⟩:S61) [.int .i64 Ah,.int .i64 Ai,.int .i64 Aj,.int .i64 Ak,.int .i64 Al,.slice Ao10 Af.length co10,.int .i64 Am,.bool An] (fun _=> True) (fun k_=> some k_=(.slice Ao10 Af.length co10:Value).ownBlock) rfl rfl ?_ (fun k_ hk_=> ((Kd.R_mono (ok':=fun k_=> ((fun _=> True)) k_∧some k_≠(u3:Value).ownBlock) (Kd.R_apart' (Ag.out) (Kd.S_typed Ab.out) (by decide)) (fun k_ hk=> ⟨trivial,hk.2⟩))).1 k_ hk_.symm) ?_ ?_ ?_ ?_ ?_ ?_;exact k61_mkM _ _ _ (⟨Ah,Ai,Aj,Ak,Al,Af,Am,An⟩:S61) (Kd.R_mono (Kd.R_tight rfl (Kd.R_mono (ok':=fun k_=> ((fun _=> True)) k_∧some k_≠(u3:Value).ownBlock) (Kd.R_apart' (Ag.out) (Kd.S_typed Ab.out) (by decide)) (fun k_ hk=> ⟨trivial,hk.2⟩))) (fun _ h_=> h_));exact (fun _ _=> trivial);(focus exact (by (with_reducible repeat (first | apply Kd.S_alloc | apply Kd.S_drewN | apply Kd.S_drew));exact Kd.S_mono Ab.out (fun k_ hk=> ⟨trivial,fun e_=> hk.2 e_⟩)));exact (bw_q HB);exact (below_size (bw_q HB));(focus have:=Bg.out;omega);intro v454 w9 ho hb hg hat;rw [←Bc.out] at ho;replace HB:=ak (hb);have Bd:=ak (ho);clear Ab Ag;clear ho hb hg hat))
      go_roundg k1
      case measure=> have:=Be.out;omega
      case rel=> exact ⟨(Ba),(wrap64 (Aa+1)),rs_q,H',⟨by have:=Be.out;omega⟩,⟨kS_q Bd⟩,⟨bw_q HB⟩⟩
     ·rw [if_neg c7] at H
      exact absurd H (by simp)
    ·rw [if_neg c5] at H
     exact absurd H (by simp)
   ·rw [if_neg c4] at H;have Bf:=decide_eq_false c4
    clear c4;obtain rfl:=Option.some.inj H
    go_wp2
    go_ret
    exact ⟨_,er_q,kS_q Ab,bw_q HB⟩

end Go.Proofs.Ythjmdiggglkeaaa.Q
