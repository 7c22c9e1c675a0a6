import Derived.Test.YthjmdiggglkeaaaXLearnQlawsszRecordS
import Derived.Test.YthjmdiggglkeaaaXLearnQimplRecordOk
import Derived.Test.YthjmdiggglkeaaaXLearnQimplcopyRecord
import Derived.Test.YthjmdiggglkeaaaXLearnQimplkeyAt
/- The contract of a Go function. -/





namespace Go.Proofs.Ythjmdiggglkeaaa.Q
open Go.RowKit Go.Proofs.YthjmdiggglkeaaaW.PrintWords Go.Proofs.YthjmdiggglkeaaaW.PrintLast Go.Proofs.YthjmdiggglkeaaaW.PrintMore
attribute [local go_sem] max2_int min2_int max_two min_two max_three min_three max_four min_four   -- for this text's walks alone
set_option linter.unusedVariables false
set_option linter.unusedSimpArgs false

/-! ### impl_put: function 111 -/
mutual
def impl_put.j1:Nat→List (S61)→Int→Int→Int→Int→Int→Int→List (S127)→Int→Bool→Option ((List (S61)))
 | 0,_,_,_,_,_,_,_,_,_,_=> none
 | k+1,c,b,e,g,h,i,j,l,m,n=> if 0≤b then (if b≤(c.length:Int) then ((impl_copyRecords.f k (c.take (b:Int).toNat)).bind fun o=> ((impl_copyRecord.f e g h i j l m n).bind fun a=> (if o.length<1759218604441 then ((some (o++[(⟨a.1,a.2.1,a.2.2.1,a.2.2.2.1,a.2.2.2.2.1,a.2.2.2.2.2.1,a.2.2.2.2.2.2.1,a.2.2.2.2.2.2.2⟩:S61)]:List (S61))).bind fun d=> (if b<(c.length:Int) then ((impl_SameKey.f ((rd_T61 c b).f0) ((rd_T61 c b).f1) ((rd_T61 c b).f2) ((rd_T61 c b).f3) ((rd_T61 c b).f4) ((rd_T61 c b).f5) ((rd_T61 c b).f6) ((rd_T61 c b).f7) e g h i j l m n).bind fun t=> (if t=true then (if 0≤(wrap64 (b+1)) then (if (wrap64 (b+1))≤(c.length:Int) then ((impl_copyRecords.f k (c.drop ((wrap64 (b+1)):Int).toNat)).bind fun p=> (if d.length+p.length<1759218604441 then (some (d++p)) else (none))) else (none)) else (none)) else ((impl_copyRecords.f k (c.drop (b:Int).toNat)).bind fun q=> (if d.length+q.length<1759218604441 then (some (d++q)) else (none))))) else ((impl_copyRecords.f k (c.drop (b:Int).toNat)).bind fun s=> (if d.length+s.length<1759218604441 then (some (d++s)) else (none))))) else (none)))) else (none)) else (none)
def impl_put.l0:Nat→List (S61)→Int→Int→Int→Int→Int→Int→List (S127)→Int→Bool→Option ((List (S61)))
 | 0,_,_,_,_,_,_,_,_,_,_=> none
 | k+1,l,j,a,b,c,d,e,g,h,i=> if j<(l.length:Int) then (if 0≤j then ((impl_Before.f ((rd_T61 l j).f0) ((rd_T61 l j).f1) ((rd_T61 l j).f2) ((rd_T61 l j).f3) ((rd_T61 l j).f4) ((rd_T61 l j).f5) ((rd_T61 l j).f6) ((rd_T61 l j).f7) a b c d e g h i).bind fun m=> (if m=true then (impl_put.l0 k l (wrap64 (j+1)) a b c d e g h i) else (impl_put.j1 k l j a b c d e g h i))) else (none)) else (impl_put.j1 k l j a b c d e g h i)
end
def impl_put.f (k:Nat) (l0:List (S61)) (a:Int) (b:Int) (c:Int) (d:Int) (e:Int) (g:List (S127)) (h:Int) (i:Bool):Option ((List (S61))):=impl_put.l0 k l0 0 a b c d e g h i
theorem impl_put.mono_l:∀k,(∀y0 y1 y2 y3 y4 y5 y6 y7 y8 y9,LeO (impl_put.j1 k y0 y1 y2 y3 y4 y5 y6 y7 y8 y9) (impl_put.j1 (k+1) y0 y1 y2 y3 y4 y5 y6 y7 y8 y9))∧(∀y0 y1 y2 y3 y4 y5 y6 y7 y8 y9,LeO (impl_put.l0 k y0 y1 y2 y3 y4 y5 y6 y7 y8 y9) (impl_put.l0 (k+1) y0 y1 y2 y3 y4 y5 y6 y7 y8 y9))
 | 0=> ⟨fun _ _ _ _ _ _ _ _ _ _ r h=> by simp [impl_put.j1] at h,fun _ _ _ _ _ _ _ _ _ _ r h=> by simp [impl_put.l0] at h⟩
 | k+1=> by
  obtain ⟨ih0,ih1⟩:=impl_put.mono_l k
  refine ⟨?_,?_⟩
  ·intro y0 y1 y2 y3 y4 y5 y6 y7 y8 y9
   unfold impl_put.j1
   with_reducible repeat' (first | apply ih0 | apply ih1 | apply impl_copyRecords.mono | exact LeO.refl _ | exact LeO.none _ | refine LeO.ite ?_ ?_ | refine LeO.bind ?_ (fun _=> ?_))
  ·intro y0 y1 y2 y3 y4 y5 y6 y7 y8 y9
   unfold impl_put.l0
   with_reducible repeat' (first | apply ih0 | apply ih1 | apply impl_copyRecords.mono | exact LeO.refl _ | exact LeO.none _ | refine LeO.ite ?_ ?_ | refine LeO.bind ?_ (fun _=> ?_))
theorem impl_put.mono:∀a0 a1 a2 a3 a4 a5 a6 a7 a8 k,LeO (impl_put.f k a0 a1 a2 a3 a4 a5 a6 a7 a8) (impl_put.f (k+1) a0 a1 a2 a3 a4 a5 a6 a7 a8):=by
 intro a0 a1 a2 a3 a4 a5 a6 a7 a8 k
 obtain ⟨ih0,ih1⟩:=impl_put.mono_l k
 unfold impl_put.f
 with_reducible repeat' (first | apply ih0 | apply ih1 | apply impl_copyRecords.mono | exact LeO.refl _ | exact LeO.none _ | refine LeO.ite ?_ ?_ | refine LeO.bind ?_ (fun _=> ?_))
def impl_put.T2:Bool×List (List Nat×List Nat):=(true,[([],[]),([],[]),([1],[1]),([0,2],[0,2]),([3],[3]),([4],[4]),([4],[4]),([5,6,4],[4,5,6]),([7,4],[4,7]),([4],[4]),([8,9,4,4],[4,8,9]),([4,10],[4,10])])
def impl_put.B2:List Nat:=[0,0,2,7,15,31,31,127,255,31,1023,2047]
theorem impl_put.tab2:rtab .any (opsOf Try.f111 2)=impl_put.T2:=by kernel_rfl
theorem impl_put.bits2:waitsOk impl_put.T2.2 impl_put.B2=true:=by kernel_rfl
def impl_put.T4:Bool×List (List Nat×List Nat):=(true,[([],[]),([],[]),([0,1],[0,1]),([2],[2]),([],[]),([4,3],[4]),([5],[5]),([3,6,5],[3,6]),([7,7,0,1,2,3,4,5,6,7],[7])])
def impl_put.B4:List Nat:=[0,0,3,7,0,31,63,127,255]
theorem impl_put.tab4:rtab .any (opsOf Try.f111 4)=impl_put.T4:=by kernel_rfl
theorem impl_put.bits4:waitsOk impl_put.T4.2 impl_put.B4=true:=by kernel_rfl
def impl_put.T5:Bool×List (List Nat×List Nat):=(true,[([],[]),([],[]),([1],[1]),([0,2],[0,2]),([3],[3]),([4],[4]),([4],[4]),([5,6,4],[4,5,6]),([7,4],[4,7]),([4],[4]),([8,9,4,4],[4,8,9]),([4,10],[4,10])])
def impl_put.B5:List Nat:=[0,0,2,7,15,31,31,127,255,31,1023,2047]
theorem impl_put.tab5:rtab .any (opsOf Try.f111 5)=impl_put.T5:=by kernel_rfl
theorem impl_put.bits5:waitsOk impl_put.T5.2 impl_put.B5=true:=by kernel_rfl
set_option maxHeartbeats 8000000 in
set_option maxRecDepth 100000 in
theorem impl_put.calls (k:Nat) (A0:Option Addr) (c0:Nat) (l0:List (S61)) (Af:Int) (Ag:Int) (Ah:Int) (Ai:Int) (Aj:Int) (An:Option Addr) (Ao:Nat) (Ad:List (S127)) (Ak:Int) (Al:Bool) (r:List (S61)) (w:World) (hr0:Kd.C k61 w A0 l0.length l0) (hc0:l0.length≤c0) (hr1_5:Kd.C k127 w An Ad.length Ad) (hc1_5:Ad.length≤Ao) (h:impl_put.f k l0 Af Ag Ah Ai Aj Ad Ak Al=some r):
  Calls Try.prog 111 #[.slice A0 l0.length c0,.agg #[.int .i64 Af,.int .i64 Ag,.int .i64 Ah,.int .i64 Ai,.int .i64 Aj,.slice An Ad.length Ao,.int .i64 Ak,.bool Al]] w fun e w'=> ∃v0_:Value,e=.returned (v0_)∧Kd.S k61 61 w' w.heap.size (fun _=> True) v0_ r∧Below w.heap.size w w':=by
 have hu61:=Try.underlying61;have HR0:=ak hr0;have Cq:=ak hc0;clear hr0 hc0;have Cb:=ak hr1_5;have Cc:=ak hc1_5;clear hr1_5 hc1_5;have HB:=ak (Below.refl w.heap.size w);have H:=h
 clear h;unfold impl_put.f at H;have Dj:=ak H;clear H
 go_enter Try.func111,Try.ntmps111
 go_upto_block 0 with (first | ((with_reducible refine gate_dst (N:=3) rfl ?_);refine box_q 3 #[.int .i64 Af,.int .i64 Ag,.int .i64 Ah,.int .i64 Ai,.int .i64 Aj,.slice An Ad.length Ao,.int .i64 Ak,.bool Al] 61 ?_;intro Ac hg w4 hbox hb;have Aa:=ak (hbox);have Ed:=gs_ HB hg;replace HB:=hB_ HB hb;clear hb hbox hg))
 (try simp only [Act.put,List.setIfInBounds_toArray,List.set_cons_zero,List.set_cons_succ])
 go_cut [5] (fun v5 wc=> ∃(kq:Nat) (Ab:Int),v5=.int .i64 Ab∧Aside0 (impl_put.j1 kq l0 Ab Af Ag Ah Ai Aj Ad Ak Al=some r)∧Aside0 (kq≤k)∧Aside0 (wc.heap[Ac]? =some (.cells #[.int .i64 Af,.int .i64 Ag,.int .i64 Ah,.int .i64 Ai,.int .i64 Aj,(.slice An Ad.length Ao),.int .i64 Ak,.bool Al] 61 (0,0)))∧Aside0 (Below w.heap.size w wc))
 case first=>
  have H:=Dj.out;clear Dj;have H':=ak H;clear H
  go_wp2
  go_loopg [5] k (fun kq v5 w'=> ∃(Am:Int),v5=.int .i64 Am∧Aside0 (impl_put.l0 kq l0 Am Af Ag Ah Ai Aj Ad Ak Al=some r)∧Aside0 (kq≤k)∧Aside0 (w'.heap[Ac]? =some (.cells #[.int .i64 Af,.int .i64 Ag,.int .i64 Ah,.int .i64 Ai,.int .i64 Aj,(.slice An Ad.length Ao),.int .i64 Ak,.bool Al] 61 (0,0)))∧Aside0 (Below w.heap.size w w'))
  case atStart=> exact ⟨(0),rs_q,H',⟨Nat.le_refl _⟩,⟨bk_q Aa⟩,⟨bw_q HB⟩⟩
  case round=>
   clear H';(try clear c1);(try clear p2);obtain ⟨Am,rfl,HA,Db,Aa,HB⟩:=hrel
   cases gk with
   | zero=> exact absurd HA.out (by simp [impl_put.l0])
   | succ k1=>
    have H:=HA.out;clear HA
    simp only [impl_put.l0] at H
    by_cases c5:Am<(l0.length:Int)
    ·rw [if_pos c5] at H;have Cn:=decide_eq_true c5;clear c5
     (first | rw [Cn] | rw [Cs] | (simp only [i64_w,i32_w];first | rw [Cn] | rw [Cs]) | skip)
     by_cases c6:0≤Am
     ·rw [if_pos c6] at H;have Dz:=decide_eq_true c6
      clear c6;replace H:=bsi H;obtain ⟨Dk,A70,H⟩:=H
      (try dsimp only at H)
      have A7:=ak A70;clear A70;have HZ17:=ak H;clear H
      try go_wp2
      replace Aa:=ak (blk_drew Aa.out);replace HB:=ak (below_drew1 HB.out)
      have p616:0≤(Am:Int):=of_decide_eq_true as_q
      have q616:Am<(l0.length:Int):=of_decide_eq_true as_q
      obtain ⟨Dl,A616_5,c616_5,e616,Bp,Bq,Br,Bs,Bt,Bu,Bv,Bw,hl616_5,hi616_5⟩:=at_T61 HR0.out Am p616 q616;have hw616_7:=Bw;have hw616_6:=Bv;have hw616_5:=Bu;have hw616_4:=Bt;have hw616_3:=Bs;have hw616_2:=Br;have hw616_1:=Bq;have hw616_0:=Bp
      cases e616
      obtain ⟨Bp,Bq,Br,Bs,Bt,Bu,Bv,Bw⟩:=hb8_ HB Bp Bq Br Bs Bt Bu Bv Bw;have Cr:=ak hi616_5;have Di:=ak hl616_5;clear hi616_5 hl616_5;replace p616:=eq_true p616;replace q616:=eq_true q616
      refine start_ (n:=12) (S:=fun w'=> cl8 w' Ac (.int .i64 Af) (.int .i64 Ag) (.int .i64 Ah) (.int .i64 Ai) (.int .i64 Aj) (.slice An Ad.length Ao) (.int .i64 Ak) (.bool Al)∧el8 w' (Dl.add ((Am).toNat*8)) (.int .i64 ((rd_T61 l0 Am).f0)) (.int .i64 ((rd_T61 l0 Am).f1)) (.int .i64 ((rd_T61 l0 Am).f2)) (.int .i64 ((rd_T61 l0 Am).f3)) (.int .i64 ((rd_T61 l0 Am).f4)) (.slice A616_5 ((rd_T61 l0 Am).f5).length c616_5) (.int .i64 ((rd_T61 l0 Am).f6)) (.bool ((rd_T61 l0 Am).f7))) (ds:=[]) (bL 12 0) (by kernel_rfl) rfl rfl ⟨cz8_ Aa,hb8_ HB hw616_0 hw616_1 hw616_2 hw616_3 hw616_4 hw616_5 hw616_6 hw616_7⟩ (fun hHeld=> ?_);refine with_tabW impl_put.tab2 impl_put.bits2 (fun HT_ HW_=> ?_)
      generalize wr.drew=w9 at Aa HB Cr Bp Bq Br Bs Bt Bu Bv Bw hHeld ⊢
      refine pQ_ 0 HT_ ?_
      refine pQ_ 1 HT_ ?_
      refine pQ_ 2 HT_ ?_
      refine pQ_ 3 HT_ ?_
      refine pQ_ 4 HT_ ?_
      refine pQ_ 5 HT_ ?_
      refine pQ_ 6 HT_ ?_
      refine pQ_ 7 HT_ ?_
      refine take_ (i:=8) (N:=some 15) (v:=?_) (a':=?_) (bL 12 511) rfl rfl (take_ofW HT_.out HW_.out (by kernel_rfl)) (fun _ _ _ h=> h) (Or.inl ⟨by rfl,?_⟩) hHeld ?_ ?_;rotate_left;(rintro w' ⟨s0,s1⟩;go_simp;with_reducible rfl);rotate_left;(exact put_q)
      refine take_ (i:=9) (N:=some 16) (v:=?_) (a':=?_) (bL 12 1023) rfl rfl (take_ofW HT_.out HW_.out (by kernel_rfl)) (fun _ _ _ h=> h) (Or.inl ⟨by rfl,?_⟩) hHeld ?_ ?_;rotate_left;(rintro w' ⟨s0,s1⟩;go_simp;with_reducible rfl);rotate_left;(exact put_q)
      refine one_ (i:=10) (N:=some 17) (bL 12 2047) rfl rfl (one_of HT_.out (by kernel_rfl)) (by decide) (fun K hK=> ?_)
      refine goes_ Try.func68 (by kernel_rfl) rfl #[.agg #[.int .i64 ((rd_T61 l0 Am).f0),.int .i64 ((rd_T61 l0 Am).f1),.int .i64 ((rd_T61 l0 Am).f2),.int .i64 ((rd_T61 l0 Am).f3),.int .i64 ((rd_T61 l0 Am).f4),.slice A616_5 ((rd_T61 l0 Am).f5).length c616_5,.int .i64 ((rd_T61 l0 Am).f6),.bool ((rd_T61 l0 Am).f7)],.agg #[.int .i64 Af,.int .i64 Ag,.int .i64 Ah,.int .i64 Ai,.int .i64 Aj,.slice An Ad.length Ao,.int .i64 Ak,.bool Al]] (by rfl) rfl rfl mp_q ?_
      with_reducible refine (impl_Before.calls ((rd_T61 l0 Am).f0) ((rd_T61 l0 Am).f1) ((rd_T61 l0 Am).f2) ((rd_T61 l0 Am).f3) ((rd_T61 l0 Am).f4) _ _ ((rd_T61 l0 Am).f5) ((rd_T61 l0 Am).f6) ((rd_T61 l0 Am).f7) Af Ag Ah Ai Aj _ _ Ad Ak Al Dk _ ?_ ?_ ?_ ?_ A7.out).mono ?_
      exact ch_ Cr HB
      exact Di.out
      exact ch_ Cb HB
      exact Cc.out
      rintro e w10 ⟨rfl,hb⟩
      refine ⟨_,rfl,?_⟩
      replace Aa:=bb_ Aa hb;replace HB:=hB_ HB hb
      refine hK.out _ _ ⟨cz8_ Aa,hb8_ HB hw616_0 hw616_1 hw616_2 hw616_3 hw616_4 hw616_5 hw616_6 hw616_7⟩ (fun hHeld=> ?_)
      clear hK K
      refine norm_ (a':=?_) ?_ ?_;rotate_left;(show Act.put _ (some 17) _=_;simp only [Act.put,List.setIfInBounds_toArray,List.set_cons_zero,List.set_cons_succ,i64_w,i32_w];rfl)
      refine pQ_ 11 HT_ ?_
      have H:=HZ17.out;clear HZ17
      by_cases c8:Dk=true
      ·subst c8;rw [if_pos rfl] at H;have H':=ak H;clear H
       refine done_ (done_of HT_.out (by kernel_rfl)) ?_
       try go_wp2
       go_roundg k1
       case measure=> have:=Db.out;omega
       case rel=> exact ⟨(wrap64 (Am+1)),rs_q,H',⟨by have:=Db.out;omega⟩,⟨bk_q Aa⟩,⟨bw_q HB⟩⟩
      ·replace c8:=Bool.eq_false_iff.mpr c8;subst c8
       rw [if_neg (show ¬(false=true) by decide)] at H
       have H':=ak H;clear H
       refine done_ (done_of HT_.out (by kernel_rfl)) ?_
       try go_wp2
       go_meet
       case rel=> exact ⟨_,(Am),rs_q,H',⟨by have:=Db.out;first | omega | exact Nat.le_refl _⟩,⟨bk_q Aa⟩,⟨bw_q HB⟩⟩
     ·rw [if_neg c6] at H
      exact absurd H (by simp)
    ·rw [if_neg c5] at H;have Cn:=decide_eq_false c5;clear c5
     (first | rw [Cn] | rw [Cs] | (simp only [i64_w,i32_w];first | rw [Cn] | rw [Cs]) | skip)
     have H':=ak H;clear H
     try go_wp2
     replace Aa:=ak (blk_drew Aa.out);replace HB:=ak (below_drew1 HB.out)
     refine start_ (n:=12) (S:=fun w'=> True) (ds:=[]) (bL 12 0) (by kernel_rfl) rfl rfl trivial (fun hHeld=> ?_);refine with_tabW impl_put.tab2 impl_put.bits2 (fun HT_ HW_=> ?_)
     generalize wr.drew=w13 at Aa HB hHeld ⊢
     refine pQ_ 0 HT_ ?_
     refine pQ_ 1 HT_ ?_
     refine pQ_ 2 HT_ ?_
     refine pQ_ 3 HT_ ?_
     refine pQ_ 4 HT_ ?_
     refine pU_ 5 HT_ ?_
     refine pU_ 6 HT_ ?_
     refine pU_ 7 HT_ ?_
     refine pU_ 8 HT_ ?_
     refine pU_ 9 HT_ ?_
     refine pU_ 10 HT_ ?_
     refine pQ_ 11 HT_ ?_
     refine done_ (done_of HT_.out (by kernel_rfl)) ?_
     try go_wp2
     go_meet
     case rel=> exact ⟨_,(Am),rs_q,H',⟨by have:=Db.out;first | omega | exact Nat.le_refl _⟩,⟨bk_q Aa⟩,⟨bw_q HB⟩⟩
 case rest=>
  clear Dj;(try clear c1);(try clear p2);(try clear c5);(try clear Cn);(try clear Cs);(try clear c6);(try clear Dz);(try clear p6);(try clear q6);(try clear hx6);(try clear c8);(try clear c11);(try clear Bp);(try clear Bq);(try clear Br);(try clear Bs);(try clear Bt);(try clear Bu);(try clear Bv);(try clear Bw);(try clear p2);(try clear p616);(try clear q616);obtain ⟨kq,Ab,rfl,HA,HJ2,Aa,HB⟩:=hcut
  cases kq with
  | zero=> exact absurd HA.out (by simp [impl_put.j1])
  | succ kj2=>
   have H:=HA.out;clear HA
   simp only [impl_put.j1] at H
   by_cases c14:0≤Ab
   ·rw [if_pos c14] at H;have Ee:=eq_true c14
    have Ef:=decide_eq_true c14;clear c14
    by_cases c15:Ab≤(l0.length:Int)
    ·rw [if_pos c15] at H;have Eg:=eq_true c15
     have Eh:=decide_eq_true c15
     clear c15;obtain ⟨Bd,Ce⟩:∃y_:List (S61),y_=(l0.take (Ab:Int).toNat):=⟨_,rfl⟩
     replace H:((impl_copyRecords.f kj2 Bd).bind fun Bn=> ((impl_copyRecord.f Af Ag Ah Ai Aj Ad Ak Al).bind fun Bo=> (if Bn.length<1759218604441 then ((some (Bn++[(⟨Bo.1,Bo.2.1,Bo.2.2.1,Bo.2.2.2.1,Bo.2.2.2.2.1,Bo.2.2.2.2.2.1,Bo.2.2.2.2.2.2.1,Bo.2.2.2.2.2.2.2⟩:S61)]:List (S61))).bind fun Ap=> (if Ab<(l0.length:Int) then ((impl_SameKey.f ((rd_T61 l0 Ab).f0) ((rd_T61 l0 Ab).f1) ((rd_T61 l0 Ab).f2) ((rd_T61 l0 Ab).f3) ((rd_T61 l0 Ab).f4) ((rd_T61 l0 Ab).f5) ((rd_T61 l0 Ab).f6) ((rd_T61 l0 Ab).f7) Af Ag Ah Ai Aj Ad Ak Al).bind fun Cp=> (if Cp=true then (if 0≤(wrap64 (Ab+1)) then (if (wrap64 (Ab+1))≤(l0.length:Int) then ((impl_copyRecords.f kj2 (l0.drop ((wrap64 (Ab+1)):Int).toNat)).bind fun Ba=> (if Ap.length+Ba.length<1759218604441 then (some (Ap++Ba)) else (none))) else (none)) else (none)) else ((impl_copyRecords.f kj2 (l0.drop (Ab:Int).toNat)).bind fun Be=> (if Ap.length+Be.length<1759218604441 then (some (Ap++Be)) else (none))))) else ((impl_copyRecords.f kj2 (l0.drop (Ab:Int).toNat)).bind fun Bf=> (if Ap.length+Bf.length<1759218604441 then (some (Ap++Bf)) else (none))))) else (none))))=some r:=by first | (rw [Ce];with_reducible exact H) | (have H2_:=(Option.bind_some _ _).symm.trans H;rw [Ce];with_reducible exact H2_) | (have H2_:=(Option.bind_some _ _).symm.trans H;with_reducible exact H2_) | with_reducible exact H | (rw [Ce];exact H) | exact H
     have Cd:=ak Ce;clear Ce;replace H:=bsi H;obtain ⟨Bn,A160,H⟩:=H
     (try dsimp only at H)
     have A16:=ak A160;clear A160;replace H:=bsi H;obtain ⟨⟨Bg,Bh,Bi,Bj,Bk,Bb,Bl,Bm⟩,A170,H⟩:=H
     (try dsimp only at H)
     have A17:=ak A170;clear A170
     by_cases c18:Bn.length<1759218604441
     ·rw [if_pos c18] at H;have Ct:=ak c18;clear c18;obtain ⟨Ap,Cf⟩:∃y_:List (S61),y_=(Bn++[(⟨Bg,Bh,Bi,Bj,Bk,Bb,Bl,Bm⟩:S61)]):=⟨_,rfl⟩
      replace H:(if Ab<(l0.length:Int) then ((impl_SameKey.f ((rd_T61 l0 Ab).f0) ((rd_T61 l0 Ab).f1) ((rd_T61 l0 Ab).f2) ((rd_T61 l0 Ab).f3) ((rd_T61 l0 Ab).f4) ((rd_T61 l0 Ab).f5) ((rd_T61 l0 Ab).f6) ((rd_T61 l0 Ab).f7) Af Ag Ah Ai Aj Ad Ak Al).bind fun Cp=> (if Cp=true then (if 0≤(wrap64 (Ab+1)) then (if (wrap64 (Ab+1))≤(l0.length:Int) then ((impl_copyRecords.f kj2 (l0.drop ((wrap64 (Ab+1)):Int).toNat)).bind fun Ba=> (if Ap.length+Ba.length<1759218604441 then (some (Ap++Ba)) else (none))) else (none)) else (none)) else ((impl_copyRecords.f kj2 (l0.drop (Ab:Int).toNat)).bind fun Be=> (if Ap.length+Be.length<1759218604441 then (some (Ap++Be)) else (none))))) else ((impl_copyRecords.f kj2 (l0.drop (Ab:Int).toNat)).bind fun Bf=> (if Ap.length+Bf.length<1759218604441 then (some (Ap++Bf)) else (none))))=some r:=by first | (rw [Cf];with_reducible exact H) | (have H2_:=(Option.bind_some _ _).symm.trans H;rw [Cf];with_reducible exact H2_) | (have H2_:=(Option.bind_some _ _).symm.trans H;with_reducible exact H2_) | with_reducible exact H | (rw [Cf];exact H) | exact H
      have Cu:=ak Cf;clear Cf
      by_cases c19:Ab<(l0.length:Int)
      ·rw [if_pos c19] at H;have Dm:=decide_eq_true c19
       clear c19;replace H:=bsi H;obtain ⟨Cp,A200,H⟩:=H
       (try dsimp only at H)
       have A20:=ak A200;clear A200
       by_cases c21:Cp=true
       ·subst c21;rw [if_pos rfl] at H;obtain ⟨ji22,hji22⟩:∃j_:Int,(wrap64 (Ab+1))=j_:=⟨_,rfl⟩
        replace H:(if 0≤(ji22) then (if (ji22)≤(l0.length:Int) then ((impl_copyRecords.f kj2 (l0.drop ((ji22):Int).toNat)).bind fun Ba=> (if Ap.length+Ba.length<1759218604441 then (some (Ap++Ba)) else (none))) else (none)) else (none))=some r:=by first | (rw [hji22] at H;exact H) | (simp only [hji22] at H ⊢;exact H)
        (try rw [hji22] at A16)
        (try rw [hji22] at A17)
        (try rw [hji22] at A20)
        have hji22w:(IntKind.i64.wrap (Ab+1))=ji22:=(i64_w _).trans hji22
        by_cases c23:0≤(ji22)
        ·rw [if_pos c23] at H;have Ei:=eq_true c23
         have Ej:=decide_eq_true c23;clear c23
         by_cases c24:(ji22)≤(l0.length:Int)
         ·rw [if_pos c24] at H;have Ek:=eq_true c24
          have El:=decide_eq_true c24
          clear c24;obtain ⟨By,Cg⟩:∃y_:List (S61),y_=(l0.drop ((ji22):Int).toNat):=⟨_,rfl⟩
          replace H:((impl_copyRecords.f kj2 By).bind fun Ba=> (if Ap.length+Ba.length<1759218604441 then (some (Ap++Ba)) else (none)))=some r:=by first | (rw [Cg];with_reducible exact H) | (have H2_:=(Option.bind_some _ _).symm.trans H;rw [Cg];with_reducible exact H2_) | (have H2_:=(Option.bind_some _ _).symm.trans H;with_reducible exact H2_) | with_reducible exact H | (rw [Cg];exact H) | exact H
          have Dc:=ak Cg;clear Cg;replace H:=bsi H;obtain ⟨Ba,A250,H⟩:=H
          (try dsimp only at H)
          have A25:=ak A250;clear A250
          by_cases c26:Ap.length+Ba.length<1759218604441
          ·rw [if_pos c26] at H;have Dn:=ak c26;clear c26;obtain ⟨Ea,Ch⟩:∃y_:List (S61),y_=(Ap++Ba):=⟨_,rfl⟩
           replace H:(some Ea)=some r:=by first | (rw [Ch];with_reducible exact H) | (have H2_:=(Option.bind_some _ _).symm.trans H;rw [Ch];with_reducible exact H2_) | (have H2_:=(Option.bind_some _ _).symm.trans H;with_reducible exact H2_) | with_reducible exact H | (rw [Ch];exact H) | exact H
           have Do:=ak Ch;clear Ch;obtain rfl:=Option.some.inj H
           try go_wp2
           replace Aa:=ak (blk_drew Aa.out);replace HB:=ak (below_drew1 HB.out)
           have q28:(Ab:Int)≤((l0.length:Int):Int):=of_decide_eq_true as_q
           obtain ⟨i028,hi028,_,hsz28,_⟩:=info_parts info61
           have hroom28:l0.length≤c0:=Cq.out
           have hC28:Kd.C k61 _ A0 l0.length l0:=HR0.out
           have hcut28:=cut_to (P:=Try.prog) 41 61 .i64 Try.underlying41 hi028 A0 l0.length c0 Ab (of_decide_eq_true as_q) q28 hroom28
           have hr28:=Kd.C_take (m:=(Ab:Int).toNat) hC28 (by omega)
           have Cy:Bd.length=(Ab:Int).toNat:=(by rw [Cd.out,List.length_take];omega)
           rw [←Cd.out] at hr28;rw [←Cy] at hcut28;have HR621:=ak hr28
           have Ci:=ak (show Bd.length≤c0 from by omega)
           clear hr28 hC28 hroom28 hi028 hsz28;have KY28:=ak Cy;clear Cy;replace q28:=eq_true q28
           refine start_ (n:=9) (S:=fun w'=> cl8 w' Ac (.int .i64 Af) (.int .i64 Ag) (.int .i64 Ah) (.int .i64 Ai) (.int .i64 Aj) (.slice An Ad.length Ao) (.int .i64 Ak) (.bool Al)) (ds:=[]) (bL 9 0) (by kernel_rfl) rfl rfl (cz8_ Aa) (fun hHeld=> ?_);refine with_tabW impl_put.tab4 impl_put.bits4 (fun HT_ HW_=> ?_)
           generalize wc.drew=w27 at Aa HB HR621 hHeld ⊢
           refine pQ_ 0 HT_ ?_
           refine pQ_ 1 HT_ ?_
           refine pQ_ 2 HT_ ?_
           refine take_ (i:=4) (N:=some 25) (v:=?_) (a':=?_) (bL 9 23) rfl rfl (take_ofW HT_.out HW_.out (by kernel_rfl)) (fun _ _ _ h=> h) (Or.inl ⟨by rfl,?_⟩) hHeld ?_ ?_;rotate_left;(rintro w' s0;go_simp;with_reducible rfl);rotate_left;(exact put_q)
           refine one_ (i:=3) (N:=some 24) (bL 9 31) rfl rfl (one_of HT_.out (by kernel_rfl)) (by decide) (fun K hK=> ?_)
           refine goes_ Try.func135 (by kernel_rfl) rfl #[.slice A0 Bd.length c0] (by rfl) rfl rfl mp_q ?_
           with_reducible refine (impl_copyRecords.calls kj2 _ _ Bd Bn _ ?_ ?_ A16.out).mono ?_
           exact ch_ HR621 HB
           exact Ci.out
           rintro e w29 ⟨v623,rfl,ho0,hb⟩
           refine ⟨_,rfl,?_⟩
           have Aq:=ak (Kd.S_lower (Kd.S_newB ho0 (g:=Ac) (o:=.cells #[.int .i64 Af,.int .i64 Ag,.int .i64 Ah,.int .i64 Ai,.int .i64 Aj,.slice An Ad.length Ao,.int .i64 Ak,.bool Al] 61 (0,0)) (bk_q Aa)) (below_size (bw_q HB)));replace Aa:=bb_ Aa hb;replace HB:=hB_ HB hb;(try clear ho0)
           refine hK.out _ _ (cz8_ Aa) (fun hHeld=> ?_)
           clear hK K
           refine norm_ (a':=?_) ?_ ?_;rotate_left;(show Act.put _ (some 24) _=_;simp only [Act.put,List.setIfInBounds_toArray,List.set_cons_zero,List.set_cons_succ,i64_w,i32_w];rfl)
           refine one_ (i:=5) (N:=some 26) (bL 9 63) rfl rfl (one_of HT_.out (by kernel_rfl)) (by decide) (fun K hK=> ?_)
           refine goes_ Try.func108 (by kernel_rfl) rfl #[.agg #[.int .i64 Af,.int .i64 Ag,.int .i64 Ah,.int .i64 Ai,.int .i64 Aj,.slice An Ad.length Ao,.int .i64 Ak,.bool Al]] (by rfl) rfl rfl mp_q ?_
           with_reducible refine (impl_copyRecord.calls Af Ag Ah Ai Aj _ _ Ad Ak Al Bg Bh Bi Bj Bk Bb Bl Bm _ ?_ ?_ A17.out).mono ?_
           exact ch_ Cb HB
           exact Cc.out
           rintro e w30 ⟨v631,rfl,ho0,hb⟩
           refine ⟨_,rfl,?_⟩
           have hs_v631:(v631:Value).oneCell'=true:=(by first | (have h_:=Kd.R_slice ho0;obtain ⟨A_,c_,e_⟩:=h_;simp [e_,Value.oneCell']) | (have h_:=Kd.S_slice ho0;obtain ⟨A_,c_,e_⟩:=h_;simp [e_,Value.oneCell']) | (have h_:=Kd.N_slice ho0;obtain ⟨A_,c_,e_⟩:=h_;simp [e_,Value.oneCell']) | (have h_:=Kd.V_slice ho0;obtain ⟨A_,c_,e_⟩:=h_;simp [e_,Value.oneCell']))
           have hst_v631:=fun (w_:World) (a_:Addr) m_=> run_store Try.prog w_ a_ v631 m_ hs_v631
           replace Aq:=ak (Kd.S_elder' (kS_q Aq) (Kd.R_base ho0) hb);have Ar:=ak (Kd.R_lower ho0 (below_size (bw_q HB)));replace Aa:=bb_ Aa hb;replace HB:=hB_ HB hb;(try clear ho0);obtain ⟨Ao32,co32,eo32⟩:=Kd.R_slice Ar.out
           (first | subst eo32 | (injection eo32 with f1_ f2_ f3_;have f4_:=f1_.symm;have f5_:=f3_.symm;clear f1_ f2_ f3_;subst f4_;subst f5_))
           refine hK.out _ _ (cz8_ Aa) (fun hHeld=> ?_)
           clear hK K
           refine norm_ (a':=?_) ?_ ?_;rotate_left;(show Act.put _ (some 26) _=_;simp only [Act.put,List.setIfInBounds_toArray,List.set_cons_zero,List.set_cons_succ,i64_w,i32_w];rfl)
           refine one_ (i:=6) (N:=some 27) (bL 9 127) rfl rfl (one_of HT_.out (by kernel_rfl)) (by decide) (fun K hK=> ?_)
           refine value_ (w1:=?_) (v:=?_) (by rfl) rfl ?_ ?_
           rotate_left 2
           ·go_simp
            constructor
            ·rfl
            ·rfl
           refine hK.out _ _ (⟨(blk_cell (blk_alloc Aa.out _) 0).trans rfl,(blk_cell (blk_alloc Aa.out _) 1).trans rfl,(blk_cell (blk_alloc Aa.out _) 2).trans rfl,(blk_cell (blk_alloc Aa.out _) 3).trans rfl,(blk_cell (blk_alloc Aa.out _) 4).trans rfl,(blk_cell (blk_alloc Aa.out _) 5).trans rfl,(blk_cell (blk_alloc Aa.out _) 6).trans rfl,(blk_cell (blk_alloc Aa.out _) 7).trans rfl⟩) (fun hHeld=> ?_)
           clear hK K
           refine norm_ (a':=?_) ?_ ?_;rotate_left;(show Act.put _ (some 27) _=_;simp only [Act.put,List.setIfInBounds_toArray,List.set_cons_zero,List.set_cons_succ,i64_w,i32_w];rfl)
           refine one_ (i:=7) (N:=some 28) (bL 9 255) rfl rfl (one_of HT_.out (by kernel_rfl)) (by decide) (fun K hK=> ?_)
           refine Kd.S_append_step k61 (w0:=w) w.heap.size (by rfl) (.tmp 24) (.tmp 27) 41 61 (.agg #[(.int .i64 0),(.int .i64 0),(.int .i64 0),(.int .i64 0),(.int .i64 0),(.slice none 0 0),(.int .i64 0),(.bool false)]) 80 rfl Try.underlying41 info61 rfl (by decide) (by omega) v623 Bn (⟨Bg,Bh,Bi,Bj,Bk,Bb,Bl,Bm⟩:S61) [.int .i64 Bg,.int .i64 Bh,.int .i64 Bi,.int .i64 Bj,.int .i64 Bk,.slice Ao32 Bb.length co32,.int .i64 Bl,.bool Bm] (fun k_=> k_≠Ac) (fun k_=> some k_=(.slice Ao32 Bb.length co32:Value).ownBlock) rfl rfl ?_ (fun k_ hk_=> ((Kd.R_mono (ok':=fun k_=> ((fun k_=> k_≠Ac)) k_∧some k_≠(v623:Value).ownBlock) (Kd.R_types (Kd.R_apart' (Ar.out) (Kd.S_typed Aq.out) (by decide)) Aa.out (by decide)) (fun k_ hk=> ⟨hk.2,hk.1.2⟩))).1 k_ hk_.symm) ?_ ?_ ?_ ?_ ?_ ?_
           exact k61_mkM _ _ _ (⟨Bg,Bh,Bi,Bj,Bk,Bb,Bl,Bm⟩:S61) (Kd.R_mono (Kd.R_tight rfl (Kd.R_mono (ok':=fun k_=> ((fun k_=> k_≠Ac)) k_∧some k_≠(v623:Value).ownBlock) (Kd.R_types (Kd.R_apart' (Ar.out) (Kd.S_typed Aq.out) (by decide)) Aa.out (by decide)) (fun k_ hk=> ⟨hk.2,hk.1.2⟩))) (fun _ h_=> h_))
           exact (fun k_ hk=> Kd.freshB (g:=Ac) (o:=.cells #[.int .i64 Af,.int .i64 Ag,.int .i64 Ah,.int .i64 Ai,.int .i64 Aj,.slice An Ad.length Ao,.int .i64 Ak,.bool Al] 61 (0,0)) (bk_q Aa) k_ hk)
           (focus exact (by (with_reducible repeat (first | apply Kd.S_alloc | apply Kd.S_drewN | apply Kd.S_drew));exact Kd.S_mono Aq.out (fun k_ hk=> ⟨hk.1.2,fun e_=> hk.2 e_⟩)))
           exact (bw_q HB)
           exact (below_size (bw_q HB))
           (focus have:=Ct.out;omega)
           intro v636 w31 ho hb hg hat
           rw [←Cu.out] at ho
           replace Aa:=bG_ Aa hg (Kd.S_away Aq.out (fun _ hk=> hk.1.2))
           replace HB:=ak (hb);have Ae:=ak (ho);clear Aq Ar;clear ho hb hg hat
           refine hK.out _ _ (cz8_ Aa) (fun hHeld=> ?_)
           clear hK K
           refine norm_ (a':=?_) ?_ ?_;rotate_left;(show Act.put _ (some 28) _=_;simp only [Act.put,List.setIfInBounds_toArray,List.set_cons_zero,List.set_cons_succ,i64_w,i32_w];rfl)
           refine pQ_ 8 HT_ ?_
           refine done_ (done_of HT_.out (by kernel_rfl)) ?_
           try go_wp2
           replace Ae:=ak (Kd.S_drew Ae.out);replace Aa:=ak (blk_drew Aa.out);replace HB:=ak (below_drew1 HB.out)
           have p638:0≤(Ab:Int):=of_decide_eq_true as_q
           have q638:Ab<(l0.length:Int):=of_decide_eq_true as_q
           obtain ⟨Bc,A638_5,c638_5,e638,As,At,Au,Av,Aw,Ax,Ay,Az,hl638_5,hi638_5⟩:=at_T61 HR0.out Ab p638 q638;have hw638_7:=Az;have hw638_6:=Ay;have hw638_5:=Ax;have hw638_4:=Aw;have hw638_3:=Av;have hw638_2:=Au;have hw638_1:=At;have hw638_0:=As
           cases e638
           obtain ⟨As,At,Au,Av,Aw,Ax,Ay,Az⟩:=hb8_ HB As At Au Av Aw Ax Ay Az;have Bx:=ak hi638_5;have Co:=ak hl638_5;clear hi638_5 hl638_5;replace p638:=eq_true p638;replace q638:=eq_true q638
           refine start_ (n:=12) (S:=fun w'=> cl8 w' Ac (.int .i64 Af) (.int .i64 Ag) (.int .i64 Ah) (.int .i64 Ai) (.int .i64 Aj) (.slice An Ad.length Ao) (.int .i64 Ak) (.bool Al)∧el8 w' (Bc.add ((Ab).toNat*8)) (.int .i64 ((rd_T61 l0 Ab).f0)) (.int .i64 ((rd_T61 l0 Ab).f1)) (.int .i64 ((rd_T61 l0 Ab).f2)) (.int .i64 ((rd_T61 l0 Ab).f3)) (.int .i64 ((rd_T61 l0 Ab).f4)) (.slice A638_5 ((rd_T61 l0 Ab).f5).length c638_5) (.int .i64 ((rd_T61 l0 Ab).f6)) (.bool ((rd_T61 l0 Ab).f7))) (ds:=[]) (bL 12 0) (by kernel_rfl) rfl rfl ⟨cz8_ Aa,hb8_ HB hw638_0 hw638_1 hw638_2 hw638_3 hw638_4 hw638_5 hw638_6 hw638_7⟩ (fun hHeld=> ?_);refine with_tabW impl_put.tab5 impl_put.bits5 (fun HT_ HW_=> ?_)
           generalize w31.drew=w33 at Ae Aa HB Bx As At Au Av Aw Ax Ay Az hHeld ⊢
           refine pQ_ 0 HT_ ?_
           refine pQ_ 1 HT_ ?_
           refine pQ_ 2 HT_ ?_
           refine pQ_ 3 HT_ ?_
           refine pQ_ 4 HT_ ?_
           refine pQ_ 5 HT_ ?_
           refine pQ_ 6 HT_ ?_
           refine pQ_ 7 HT_ ?_
           refine take_ (i:=8) (N:=some 37) (v:=?_) (a':=?_) (bL 12 511) rfl rfl (take_ofW HT_.out HW_.out (by kernel_rfl)) (fun _ _ _ h=> h) (Or.inl ⟨by rfl,?_⟩) hHeld ?_ ?_;rotate_left;(rintro w' ⟨s0,s1⟩;go_simp;with_reducible rfl);rotate_left;(exact put_q)
           refine take_ (i:=9) (N:=some 38) (v:=?_) (a':=?_) (bL 12 1023) rfl rfl (take_ofW HT_.out HW_.out (by kernel_rfl)) (fun _ _ _ h=> h) (Or.inl ⟨by rfl,?_⟩) hHeld ?_ ?_;rotate_left;(rintro w' ⟨s0,s1⟩;go_simp;with_reducible rfl);rotate_left;(exact put_q)
           refine one_ (i:=10) (N:=some 39) (bL 12 2047) rfl rfl (one_of HT_.out (by kernel_rfl)) (by decide) (fun K hK=> ?_)
           refine goes_ Try.func69 (by kernel_rfl) rfl #[.agg #[.int .i64 ((rd_T61 l0 Ab).f0),.int .i64 ((rd_T61 l0 Ab).f1),.int .i64 ((rd_T61 l0 Ab).f2),.int .i64 ((rd_T61 l0 Ab).f3),.int .i64 ((rd_T61 l0 Ab).f4),.slice A638_5 ((rd_T61 l0 Ab).f5).length c638_5,.int .i64 ((rd_T61 l0 Ab).f6),.bool ((rd_T61 l0 Ab).f7)],.agg #[.int .i64 Af,.int .i64 Ag,.int .i64 Ah,.int .i64 Ai,.int .i64 Aj,.slice An Ad.length Ao,.int .i64 Ak,.bool Al]] (by rfl) rfl rfl mp_q ?_
           with_reducible refine (impl_SameKey.calls ((rd_T61 l0 Ab).f0) ((rd_T61 l0 Ab).f1) ((rd_T61 l0 Ab).f2) ((rd_T61 l0 Ab).f3) ((rd_T61 l0 Ab).f4) _ _ ((rd_T61 l0 Ab).f5) ((rd_T61 l0 Ab).f6) ((rd_T61 l0 Ab).f7) Af Ag Ah Ai Aj _ _ Ad Ak Al true _ ?_ ?_ ?_ ?_ A20.out).mono ?_
           exact ch_ Bx HB
           exact Co.out
           exact ch_ Cb HB
           exact Cc.out
           rintro e w34 ⟨rfl,hb⟩
           refine ⟨_,rfl,?_⟩
           replace Ae:=sb_ Ae hb;replace Aa:=bb_ Aa hb;replace HB:=hB_ HB hb
           refine hK.out _ _ ⟨cz8_ Aa,hb8_ HB hw638_0 hw638_1 hw638_2 hw638_3 hw638_4 hw638_5 hw638_6 hw638_7⟩ (fun hHeld=> ?_)
           clear hK K
           refine norm_ (a':=?_) ?_ ?_;rotate_left;(show Act.put _ (some 39) _=_;simp only [Act.put,List.setIfInBounds_toArray,List.set_cons_zero,List.set_cons_succ,i64_w,i32_w];rfl)
           refine pQ_ 11 HT_ ?_
           refine done_ (done_of HT_.out (by kernel_rfl)) ?_
           have q35:((ji22):Int)≤((l0.length:Int):Int):=of_decide_eq_true as_q
           obtain ⟨i035,hi035,_,hsz35,_⟩:=info_parts info61
           have hroom35:l0.length≤c0:=Cq.out
           have hC35:Kd.C k61 _ (some Bc) l0.length l0:=HR0.out
           have q035:(0:Int)≤((ji22):Int):=of_decide_eq_true as_q
           have hcut35:=cut_from (P:=Try.prog) 41 61 .i64 Try.underlying41 hi035 8 hsz35 (some Bc) l0.length c0 (ji22) q035 q35
           have hr35:=Kd.C_drop (m:=((ji22):Int).toNat) (c:=c0) hC35 (by omega) hroom35
           obtain ⟨A35,hA35⟩:∃A1,A1=(if c0=((ji22):Int).toNat then (some Bc) else ((some Bc):Option Addr).map (·.add (((ji22):Int).toNat*8))):=⟨_,rfl⟩;obtain ⟨c35,hc35⟩:∃c1,c1=c0-((ji22):Int).toNat:=⟨_,rfl⟩
           have Cv:By.length=l0.length-((ji22):Int).toNat:=(by rw [Dc.out,List.length_drop] <;> omega)
           rw [show (l0).drop ((ji22):Int).toNat=By from Dc.out.symm] at hr35
           replace hr35:Kd.C k61 _ A35 By.length By:=(by rw [hA35];exact hr35)
           rw [←Cv,←hA35,←hc35] at hcut35;have HR643:=ak hr35
           have Dp:=ak (show By.length≤c35 from by rw [Cv,hc35];exact Nat.sub_le_sub_right hroom35 _)
           clear hr35 hC35 hroom35 hi035 hsz35 hc35;have KY35:=ak Cv;have KA35:=ak hA35;clear Cv hA35;replace q35:=eq_true q35
           try go_wp2_with (first | ((with_reducible refine gC_ 135 ?_);refine gL_ 47 Try.func135 #[.slice A35 By.length c35] ?_;(with_reducible refine (impl_copyRecords.calls kj2 _ _ By Ba _ ?_ ?_ A25.out).mono ?_);exact ch_ HR643 HB;exact Dp.out;rintro e w36 ⟨v645,rfl,ho0,hb⟩;refine ⟨_,rfl,?_⟩;have Dd:=ak (Kd.S_lower (Kd.S_newB (Kd.S_new' ho0 (Kd.S_lt (kS_q Ae))) (g:=Ac) (o:=.cells #[.int .i64 Af,.int .i64 Ag,.int .i64 Ah,.int .i64 Ai,.int .i64 Aj,.slice An Ad.length Ao,.int .i64 Ak,.bool Al] 61 (0,0)) (bk_q Aa)) (below_size (bw_q HB)));have HSX:=ak (Kd.S_mono (ok':=fun k_=> (k_≠Ac)∧k_<w34.heap.size) (Kd.S_old (kS_q Ae) hb) (fun _ hk_=> hk_));have HSY:=ak (Kd.S_mono (ok':=fun k_=> w34.heap.size≤k_) (Kd.S_lower (Kd.S_bound ho0) (below_size (bw_q HB))) (fun _ hk_=> hk_.2.1));have HSK:=ak ((fun k_ hk_=> And.intro (Kd.freshB (g:=Ac) (o:=.cells #[.int .i64 Af,.int .i64 Ag,.int .i64 Ah,.int .i64 Ai,.int .i64 Aj,.slice An Ad.length Ao,.int .i64 Ak,.bool Al] 61 (0,0)) (bk_q Aa) k_ hk_) (Kd.fresh' (Kd.S_lt (kS_q Ae)) k_ hk_):∀k_,w34.heap.size≤k_→(k_≠Ac)∧some k_≠(v636:Value).ownBlock));replace Ae:=ak (Kd.S_elder' (kS_q Ae) (Kd.S_base ho0) hb);replace Aa:=bb_ Aa hb;replace HB:=hB_ HB hb;(try clear ho0);obtain ⟨Ao38,co38,eo38⟩:=Kd.S_slice Dd.out;subst eo38) | ((with_reducible refine gate_builtin (b:=.append) (xs:=#[.tmp 43,.tmp 47]) rfl ?_);at_builtin;refine Kd.S_append_rows k61 (w0:=w) w.heap.size rfl (.tmp 43) (.tmp 47) 41 61 (.agg #[(.int .i64 0),(.int .i64 0),(.int .i64 0),(.int .i64 0),(.int .i64 0),(.slice none 0 0),(.int .i64 0),(.bool false)]) 80 rfl Try.underlying41 info61 rfl (by decide) (by omega) v636 Ap Ba _ _ _ (fun k_=> k_≠Ac) (fun k_=> (k_≠Ac)∧k_<w34.heap.size) (fun k_=> w34.heap.size≤k_) rfl rfl ?_ ?aR (fun k_ hk=> hk.1) (fun k_ h1 h2=> Nat.not_le.2 h2.2 h1) (fun k_ hk=> HSK.out k_ hk) ?_ ?_ ?_ ?_ ?_;(case aR=> exact (kS_q HSY));exact (kS_q HSX);exact (fun k_ hk=> Kd.freshB (g:=Ac) (o:=.cells #[.int .i64 Af,.int .i64 Ag,.int .i64 Ah,.int .i64 Ai,.int .i64 Aj,.slice An Ad.length Ao,.int .i64 Ak,.bool Al] 61 (0,0)) (bk_q Aa) k_ hk);exact (bw_q HB);exact (below_size (bw_q HB));(focus have:=Dn.out;omega);intro v648 w37 ho hb hg hat;rw [←Do.out] at ho;replace Aa:=bG_ Aa hg (Kd.S_away Ae.out (fun _ hk=> hk.1));replace HB:=ak (hb);have Dq:=ak (ho);clear Ae Dd;clear ho hb hg hat))
           go_ret
           exact ⟨_,by first | rfl | (simp [errW_none,errW_some] <;> rfl) | (simp only [←hji22];first | rfl | (simp [errW_none,errW_some] <;> rfl)) | (simp [*,errW_none,errW_some] <;> rfl),by (with_reducible repeat (first | apply Kd.S_alloc | apply Kd.S_drewN | apply Kd.S_drew));exact Kd.S_mono Dq.out (fun _ hk=> trivial),bw_q HB⟩
          ·rw [if_neg c26] at H
           exact absurd H (by simp)
         ·rw [if_neg c24] at H
          exact absurd H (by simp)
        ·rw [if_neg c23] at H
         exact absurd H (by simp)
       ·replace c21:=Bool.eq_false_iff.mpr c21;subst c21
        rw [if_neg (show ¬(false=true) by decide)] at H
        have Em:=eq_true (of_decide_eq_true as_q:0≤Ab);have En:=eq_true (of_decide_eq_true as_q:Ab≤(l0.length:Int));obtain ⟨Bz,Cj⟩:∃y_:List (S61),y_=(l0.drop (Ab:Int).toNat):=⟨_,rfl⟩
        replace H:((impl_copyRecords.f kj2 Bz).bind fun Be=> (if Ap.length+Be.length<1759218604441 then (some (Ap++Be)) else (none)))=some r:=by first | (rw [Cj];with_reducible exact H) | (have H2_:=(Option.bind_some _ _).symm.trans H;rw [Cj];with_reducible exact H2_) | (have H2_:=(Option.bind_some _ _).symm.trans H;with_reducible exact H2_) | with_reducible exact H | (rw [Cj];exact H) | exact H
        have De:=ak Cj;clear Cj;replace H:=bsi H;obtain ⟨Be,A410,H⟩:=H
        (try dsimp only at H)
        have A41:=ak A410;clear A410
        by_cases c42:Ap.length+Be.length<1759218604441
        ·rw [if_pos c42] at H;have Dr:=ak c42;clear c42;obtain ⟨Eb,Ck⟩:∃y_:List (S61),y_=(Ap++Be):=⟨_,rfl⟩
         replace H:(some Eb)=some r:=by first | (rw [Ck];with_reducible exact H) | (have H2_:=(Option.bind_some _ _).symm.trans H;rw [Ck];with_reducible exact H2_) | (have H2_:=(Option.bind_some _ _).symm.trans H;with_reducible exact H2_) | with_reducible exact H | (rw [Ck];exact H) | exact H
         have Ds:=ak Ck;clear Ck;obtain rfl:=Option.some.inj H
         try go_wp2
         replace Aa:=ak (blk_drew Aa.out);replace HB:=ak (below_drew1 HB.out)
         have q44:(Ab:Int)≤((l0.length:Int):Int):=of_decide_eq_true as_q
         obtain ⟨i044,hi044,_,hsz44,_⟩:=info_parts info61
         have hroom44:l0.length≤c0:=Cq.out
         have hC44:Kd.C k61 _ A0 l0.length l0:=HR0.out
         have hcut44:=cut_to (P:=Try.prog) 41 61 .i64 Try.underlying41 hi044 A0 l0.length c0 Ab (of_decide_eq_true as_q) q44 hroom44
         have hr44:=Kd.C_take (m:=(Ab:Int).toNat) hC44 (by omega)
         have Cz:Bd.length=(Ab:Int).toNat:=(by rw [Cd.out,List.length_take];omega)
         rw [←Cd.out] at hr44;rw [←Cz] at hcut44;have HR621:=ak hr44
         have Ci:=ak (show Bd.length≤c0 from by omega)
         clear hr44 hC44 hroom44 hi044 hsz44;have KY44:=ak Cz;clear Cz;replace q44:=eq_true q44
         refine start_ (n:=9) (S:=fun w'=> cl8 w' Ac (.int .i64 Af) (.int .i64 Ag) (.int .i64 Ah) (.int .i64 Ai) (.int .i64 Aj) (.slice An Ad.length Ao) (.int .i64 Ak) (.bool Al)) (ds:=[]) (bL 9 0) (by kernel_rfl) rfl rfl (cz8_ Aa) (fun hHeld=> ?_);refine with_tabW impl_put.tab4 impl_put.bits4 (fun HT_ HW_=> ?_)
         generalize wc.drew=w43 at Aa HB HR621 hHeld ⊢
         refine pQ_ 0 HT_ ?_
         refine pQ_ 1 HT_ ?_
         refine pQ_ 2 HT_ ?_
         refine take_ (i:=4) (N:=some 25) (v:=?_) (a':=?_) (bL 9 23) rfl rfl (take_ofW HT_.out HW_.out (by kernel_rfl)) (fun _ _ _ h=> h) (Or.inl ⟨by rfl,?_⟩) hHeld ?_ ?_;rotate_left;(rintro w' s0;go_simp;with_reducible rfl);rotate_left;(exact put_q)
         refine one_ (i:=3) (N:=some 24) (bL 9 31) rfl rfl (one_of HT_.out (by kernel_rfl)) (by decide) (fun K hK=> ?_)
         refine goes_ Try.func135 (by kernel_rfl) rfl #[.slice A0 Bd.length c0] (by rfl) rfl rfl mp_q ?_
         with_reducible refine (impl_copyRecords.calls kj2 _ _ Bd Bn _ ?_ ?_ A16.out).mono ?_
         exact ch_ HR621 HB
         exact Ci.out
         rintro e w45 ⟨v623,rfl,ho0,hb⟩
         refine ⟨_,rfl,?_⟩
         have Aq:=ak (Kd.S_lower (Kd.S_newB ho0 (g:=Ac) (o:=.cells #[.int .i64 Af,.int .i64 Ag,.int .i64 Ah,.int .i64 Ai,.int .i64 Aj,.slice An Ad.length Ao,.int .i64 Ak,.bool Al] 61 (0,0)) (bk_q Aa)) (below_size (bw_q HB)));replace Aa:=bb_ Aa hb;replace HB:=hB_ HB hb;(try clear ho0)
         refine hK.out _ _ (cz8_ Aa) (fun hHeld=> ?_)
         clear hK K
         refine norm_ (a':=?_) ?_ ?_;rotate_left;(show Act.put _ (some 24) _=_;simp only [Act.put,List.setIfInBounds_toArray,List.set_cons_zero,List.set_cons_succ,i64_w,i32_w];rfl)
         refine one_ (i:=5) (N:=some 26) (bL 9 63) rfl rfl (one_of HT_.out (by kernel_rfl)) (by decide) (fun K hK=> ?_)
         refine goes_ Try.func108 (by kernel_rfl) rfl #[.agg #[.int .i64 Af,.int .i64 Ag,.int .i64 Ah,.int .i64 Ai,.int .i64 Aj,.slice An Ad.length Ao,.int .i64 Ak,.bool Al]] (by rfl) rfl rfl mp_q ?_
         with_reducible refine (impl_copyRecord.calls Af Ag Ah Ai Aj _ _ Ad Ak Al Bg Bh Bi Bj Bk Bb Bl Bm _ ?_ ?_ A17.out).mono ?_
         exact ch_ Cb HB
         exact Cc.out
         rintro e w46 ⟨v631,rfl,ho0,hb⟩
         refine ⟨_,rfl,?_⟩
         have hs_v631:(v631:Value).oneCell'=true:=(by first | (have h_:=Kd.R_slice ho0;obtain ⟨A_,c_,e_⟩:=h_;simp [e_,Value.oneCell']) | (have h_:=Kd.S_slice ho0;obtain ⟨A_,c_,e_⟩:=h_;simp [e_,Value.oneCell']) | (have h_:=Kd.N_slice ho0;obtain ⟨A_,c_,e_⟩:=h_;simp [e_,Value.oneCell']) | (have h_:=Kd.V_slice ho0;obtain ⟨A_,c_,e_⟩:=h_;simp [e_,Value.oneCell']))
         have hst_v631:=fun (w_:World) (a_:Addr) m_=> run_store Try.prog w_ a_ v631 m_ hs_v631
         replace Aq:=ak (Kd.S_elder' (kS_q Aq) (Kd.R_base ho0) hb);have Ar:=ak (Kd.R_lower ho0 (below_size (bw_q HB)));replace Aa:=bb_ Aa hb;replace HB:=hB_ HB hb;(try clear ho0);obtain ⟨Ao48,co48,eo48⟩:=Kd.R_slice Ar.out
         (first | subst eo48 | (injection eo48 with f1_ f2_ f3_;have f4_:=f1_.symm;have f5_:=f3_.symm;clear f1_ f2_ f3_;subst f4_;subst f5_))
         refine hK.out _ _ (cz8_ Aa) (fun hHeld=> ?_)
         clear hK K
         refine norm_ (a':=?_) ?_ ?_;rotate_left;(show Act.put _ (some 26) _=_;simp only [Act.put,List.setIfInBounds_toArray,List.set_cons_zero,List.set_cons_succ,i64_w,i32_w];rfl)
         refine one_ (i:=6) (N:=some 27) (bL 9 127) rfl rfl (one_of HT_.out (by kernel_rfl)) (by decide) (fun K hK=> ?_)
         refine value_ (w1:=?_) (v:=?_) (by rfl) rfl ?_ ?_
         rotate_left 2
         ·go_simp
          constructor
          ·rfl
          ·rfl
         refine hK.out _ _ (⟨(blk_cell (blk_alloc Aa.out _) 0).trans rfl,(blk_cell (blk_alloc Aa.out _) 1).trans rfl,(blk_cell (blk_alloc Aa.out _) 2).trans rfl,(blk_cell (blk_alloc Aa.out _) 3).trans rfl,(blk_cell (blk_alloc Aa.out _) 4).trans rfl,(blk_cell (blk_alloc Aa.out _) 5).trans rfl,(blk_cell (blk_alloc Aa.out _) 6).trans rfl,(blk_cell (blk_alloc Aa.out _) 7).trans rfl⟩) (fun hHeld=> ?_)
         clear hK K
         refine norm_ (a':=?_) ?_ ?_;rotate_left;(show Act.put _ (some 27) _=_;simp only [Act.put,List.setIfInBounds_toArray,List.set_cons_zero,List.set_cons_succ,i64_w,i32_w];rfl)
         refine one_ (i:=7) (N:=some 28) (bL 9 255) rfl rfl (one_of HT_.out (by kernel_rfl)) (by decide) (fun K hK=> ?_)
         refine Kd.S_append_step k61 (w0:=w) w.heap.size (by rfl) (.tmp 24) (.tmp 27) 41 61 (.agg #[(.int .i64 0),(.int .i64 0),(.int .i64 0),(.int .i64 0),(.int .i64 0),(.slice none 0 0),(.int .i64 0),(.bool false)]) 80 rfl Try.underlying41 info61 rfl (by decide) (by omega) v623 Bn (⟨Bg,Bh,Bi,Bj,Bk,Bb,Bl,Bm⟩:S61) [.int .i64 Bg,.int .i64 Bh,.int .i64 Bi,.int .i64 Bj,.int .i64 Bk,.slice Ao48 Bb.length co48,.int .i64 Bl,.bool Bm] (fun k_=> k_≠Ac) (fun k_=> some k_=(.slice Ao48 Bb.length co48:Value).ownBlock) rfl rfl ?_ (fun k_ hk_=> ((Kd.R_mono (ok':=fun k_=> ((fun k_=> k_≠Ac)) k_∧some k_≠(v623:Value).ownBlock) (Kd.R_types (Kd.R_apart' (Ar.out) (Kd.S_typed Aq.out) (by decide)) Aa.out (by decide)) (fun k_ hk=> ⟨hk.2,hk.1.2⟩))).1 k_ hk_.symm) ?_ ?_ ?_ ?_ ?_ ?_
         exact k61_mkM _ _ _ (⟨Bg,Bh,Bi,Bj,Bk,Bb,Bl,Bm⟩:S61) (Kd.R_mono (Kd.R_tight rfl (Kd.R_mono (ok':=fun k_=> ((fun k_=> k_≠Ac)) k_∧some k_≠(v623:Value).ownBlock) (Kd.R_types (Kd.R_apart' (Ar.out) (Kd.S_typed Aq.out) (by decide)) Aa.out (by decide)) (fun k_ hk=> ⟨hk.2,hk.1.2⟩))) (fun _ h_=> h_))
         exact (fun k_ hk=> Kd.freshB (g:=Ac) (o:=.cells #[.int .i64 Af,.int .i64 Ag,.int .i64 Ah,.int .i64 Ai,.int .i64 Aj,.slice An Ad.length Ao,.int .i64 Ak,.bool Al] 61 (0,0)) (bk_q Aa) k_ hk)
         (focus exact (by (with_reducible repeat (first | apply Kd.S_alloc | apply Kd.S_drewN | apply Kd.S_drew));exact Kd.S_mono Aq.out (fun k_ hk=> ⟨hk.1.2,fun e_=> hk.2 e_⟩)))
         exact (bw_q HB)
         exact (below_size (bw_q HB))
         (focus have:=Ct.out;omega)
         intro v636 w47 ho hb hg hat
         rw [←Cu.out] at ho
         replace Aa:=bG_ Aa hg (Kd.S_away Aq.out (fun _ hk=> hk.1.2))
         replace HB:=ak (hb);have Ae:=ak (ho);clear Aq Ar;clear ho hb hg hat
         refine hK.out _ _ (cz8_ Aa) (fun hHeld=> ?_)
         clear hK K
         refine norm_ (a':=?_) ?_ ?_;rotate_left;(show Act.put _ (some 28) _=_;simp only [Act.put,List.setIfInBounds_toArray,List.set_cons_zero,List.set_cons_succ,i64_w,i32_w];rfl)
         refine pQ_ 8 HT_ ?_
         refine done_ (done_of HT_.out (by kernel_rfl)) ?_
         try go_wp2
         replace Ae:=ak (Kd.S_drew Ae.out);replace Aa:=ak (blk_drew Aa.out);replace HB:=ak (below_drew1 HB.out)
         have p638:0≤(Ab:Int):=of_decide_eq_true as_q
         have q638:Ab<(l0.length:Int):=of_decide_eq_true as_q
         obtain ⟨Bc,A638_5,c638_5,e638,As,At,Au,Av,Aw,Ax,Ay,Az,hl638_5,hi638_5⟩:=at_T61 HR0.out Ab p638 q638;have hw638_7:=Az;have hw638_6:=Ay;have hw638_5:=Ax;have hw638_4:=Aw;have hw638_3:=Av;have hw638_2:=Au;have hw638_1:=At;have hw638_0:=As
         cases e638
         obtain ⟨As,At,Au,Av,Aw,Ax,Ay,Az⟩:=hb8_ HB As At Au Av Aw Ax Ay Az;have Bx:=ak hi638_5;have Co:=ak hl638_5;clear hi638_5 hl638_5;replace p638:=eq_true p638;replace q638:=eq_true q638
         refine start_ (n:=12) (S:=fun w'=> cl8 w' Ac (.int .i64 Af) (.int .i64 Ag) (.int .i64 Ah) (.int .i64 Ai) (.int .i64 Aj) (.slice An Ad.length Ao) (.int .i64 Ak) (.bool Al)∧el8 w' (Bc.add ((Ab).toNat*8)) (.int .i64 ((rd_T61 l0 Ab).f0)) (.int .i64 ((rd_T61 l0 Ab).f1)) (.int .i64 ((rd_T61 l0 Ab).f2)) (.int .i64 ((rd_T61 l0 Ab).f3)) (.int .i64 ((rd_T61 l0 Ab).f4)) (.slice A638_5 ((rd_T61 l0 Ab).f5).length c638_5) (.int .i64 ((rd_T61 l0 Ab).f6)) (.bool ((rd_T61 l0 Ab).f7))) (ds:=[]) (bL 12 0) (by kernel_rfl) rfl rfl ⟨cz8_ Aa,hb8_ HB hw638_0 hw638_1 hw638_2 hw638_3 hw638_4 hw638_5 hw638_6 hw638_7⟩ (fun hHeld=> ?_);refine with_tabW impl_put.tab5 impl_put.bits5 (fun HT_ HW_=> ?_)
         generalize w47.drew=w49 at Ae Aa HB Bx As At Au Av Aw Ax Ay Az hHeld ⊢
         refine pQ_ 0 HT_ ?_
         refine pQ_ 1 HT_ ?_
         refine pQ_ 2 HT_ ?_
         refine pQ_ 3 HT_ ?_
         refine pQ_ 4 HT_ ?_
         refine pQ_ 5 HT_ ?_
         refine pQ_ 6 HT_ ?_
         refine pQ_ 7 HT_ ?_
         refine take_ (i:=8) (N:=some 37) (v:=?_) (a':=?_) (bL 12 511) rfl rfl (take_ofW HT_.out HW_.out (by kernel_rfl)) (fun _ _ _ h=> h) (Or.inl ⟨by rfl,?_⟩) hHeld ?_ ?_;rotate_left;(rintro w' ⟨s0,s1⟩;go_simp;with_reducible rfl);rotate_left;(exact put_q)
         refine take_ (i:=9) (N:=some 38) (v:=?_) (a':=?_) (bL 12 1023) rfl rfl (take_ofW HT_.out HW_.out (by kernel_rfl)) (fun _ _ _ h=> h) (Or.inl ⟨by rfl,?_⟩) hHeld ?_ ?_;rotate_left;(rintro w' ⟨s0,s1⟩;go_simp;with_reducible rfl);rotate_left;(exact put_q)
         refine one_ (i:=10) (N:=some 39) (bL 12 2047) rfl rfl (one_of HT_.out (by kernel_rfl)) (by decide) (fun K hK=> ?_)
         refine goes_ Try.func69 (by kernel_rfl) rfl #[.agg #[.int .i64 ((rd_T61 l0 Ab).f0),.int .i64 ((rd_T61 l0 Ab).f1),.int .i64 ((rd_T61 l0 Ab).f2),.int .i64 ((rd_T61 l0 Ab).f3),.int .i64 ((rd_T61 l0 Ab).f4),.slice A638_5 ((rd_T61 l0 Ab).f5).length c638_5,.int .i64 ((rd_T61 l0 Ab).f6),.bool ((rd_T61 l0 Ab).f7)],.agg #[.int .i64 Af,.int .i64 Ag,.int .i64 Ah,.int .i64 Ai,.int .i64 Aj,.slice An Ad.length Ao,.int .i64 Ak,.bool Al]] (by rfl) rfl rfl mp_q ?_
         with_reducible refine (impl_SameKey.calls ((rd_T61 l0 Ab).f0) ((rd_T61 l0 Ab).f1) ((rd_T61 l0 Ab).f2) ((rd_T61 l0 Ab).f3) ((rd_T61 l0 Ab).f4) _ _ ((rd_T61 l0 Ab).f5) ((rd_T61 l0 Ab).f6) ((rd_T61 l0 Ab).f7) Af Ag Ah Ai Aj _ _ Ad Ak Al false _ ?_ ?_ ?_ ?_ A20.out).mono ?_
         exact ch_ Bx HB
         exact Co.out
         exact ch_ Cb HB
         exact Cc.out
         rintro e w50 ⟨rfl,hb⟩
         refine ⟨_,rfl,?_⟩
         replace Ae:=sb_ Ae hb;replace Aa:=bb_ Aa hb;replace HB:=hB_ HB hb
         refine hK.out _ _ ⟨cz8_ Aa,hb8_ HB hw638_0 hw638_1 hw638_2 hw638_3 hw638_4 hw638_5 hw638_6 hw638_7⟩ (fun hHeld=> ?_)
         clear hK K
         refine norm_ (a':=?_) ?_ ?_;rotate_left;(show Act.put _ (some 39) _=_;simp only [Act.put,List.setIfInBounds_toArray,List.set_cons_zero,List.set_cons_succ,i64_w,i32_w];rfl)
         refine pQ_ 11 HT_ ?_
         refine done_ (done_of HT_.out (by kernel_rfl)) ?_
         have q51:(Ab:Int)≤((l0.length:Int):Int):=of_decide_eq_true as_q
         obtain ⟨i051,hi051,_,hsz51,_⟩:=info_parts info61
         have hroom51:l0.length≤c0:=Cq.out
         have hC51:Kd.C k61 _ (some Bc) l0.length l0:=HR0.out
         have q051:(0:Int)≤(Ab:Int):=of_decide_eq_true as_q
         have hcut51:=cut_from (P:=Try.prog) 41 61 .i64 Try.underlying41 hi051 8 hsz51 (some Bc) l0.length c0 Ab q051 q51
         have hr51:=Kd.C_drop (m:=(Ab:Int).toNat) (c:=c0) hC51 (by omega) hroom51
         obtain ⟨A51,hA51⟩:∃A1,A1=(if c0=(Ab:Int).toNat then (some Bc) else ((some Bc):Option Addr).map (·.add ((Ab:Int).toNat*8))):=⟨_,rfl⟩;obtain ⟨c51,hc51⟩:∃c1,c1=c0-(Ab:Int).toNat:=⟨_,rfl⟩
         have Cw:Bz.length=l0.length-(Ab:Int).toNat:=(by rw [De.out,List.length_drop] <;> omega)
         rw [show (l0).drop (Ab:Int).toNat=Bz from De.out.symm] at hr51
         replace hr51:Kd.C k61 _ A51 Bz.length Bz:=(by rw [hA51];exact hr51)
         rw [←Cw,←hA51,←hc51] at hcut51;have HR653:=ak hr51
         have Dt:=ak (show Bz.length≤c51 from by rw [Cw,hc51];exact Nat.sub_le_sub_right hroom51 _)
         clear hr51 hC51 hroom51 hi051 hsz51 hc51;have KY51:=ak Cw;have KA51:=ak hA51;clear Cw hA51;replace q51:=eq_true q51
         try go_wp2_with (first | ((with_reducible refine gC_ 135 ?_);refine gL_ 47 Try.func135 #[.slice A51 Bz.length c51] ?_;(with_reducible refine (impl_copyRecords.calls kj2 _ _ Bz Be _ ?_ ?_ A41.out).mono ?_);exact ch_ HR653 HB;exact Dt.out;rintro e w52 ⟨v655,rfl,ho0,hb⟩;refine ⟨_,rfl,?_⟩;have Df:=ak (Kd.S_lower (Kd.S_newB (Kd.S_new' ho0 (Kd.S_lt (kS_q Ae))) (g:=Ac) (o:=.cells #[.int .i64 Af,.int .i64 Ag,.int .i64 Ah,.int .i64 Ai,.int .i64 Aj,.slice An Ad.length Ao,.int .i64 Ak,.bool Al] 61 (0,0)) (bk_q Aa)) (below_size (bw_q HB)));have HSX:=ak (Kd.S_mono (ok':=fun k_=> (k_≠Ac)∧k_<w50.heap.size) (Kd.S_old (kS_q Ae) hb) (fun _ hk_=> hk_));have HSY:=ak (Kd.S_mono (ok':=fun k_=> w50.heap.size≤k_) (Kd.S_lower (Kd.S_bound ho0) (below_size (bw_q HB))) (fun _ hk_=> hk_.2.1));have HSK:=ak ((fun k_ hk_=> And.intro (Kd.freshB (g:=Ac) (o:=.cells #[.int .i64 Af,.int .i64 Ag,.int .i64 Ah,.int .i64 Ai,.int .i64 Aj,.slice An Ad.length Ao,.int .i64 Ak,.bool Al] 61 (0,0)) (bk_q Aa) k_ hk_) (Kd.fresh' (Kd.S_lt (kS_q Ae)) k_ hk_):∀k_,w50.heap.size≤k_→(k_≠Ac)∧some k_≠(v636:Value).ownBlock));replace Ae:=ak (Kd.S_elder' (kS_q Ae) (Kd.S_base ho0) hb);replace Aa:=bb_ Aa hb;replace HB:=hB_ HB hb;(try clear ho0);obtain ⟨Ao54,co54,eo54⟩:=Kd.S_slice Df.out;subst eo54) | ((with_reducible refine gate_builtin (b:=.append) (xs:=#[.tmp 43,.tmp 47]) rfl ?_);at_builtin;refine Kd.S_append_rows k61 (w0:=w) w.heap.size rfl (.tmp 43) (.tmp 47) 41 61 (.agg #[(.int .i64 0),(.int .i64 0),(.int .i64 0),(.int .i64 0),(.int .i64 0),(.slice none 0 0),(.int .i64 0),(.bool false)]) 80 rfl Try.underlying41 info61 rfl (by decide) (by omega) v636 Ap Be _ _ _ (fun k_=> k_≠Ac) (fun k_=> (k_≠Ac)∧k_<w50.heap.size) (fun k_=> w50.heap.size≤k_) rfl rfl ?_ ?aR (fun k_ hk=> hk.1) (fun k_ h1 h2=> Nat.not_le.2 h2.2 h1) (fun k_ hk=> HSK.out k_ hk) ?_ ?_ ?_ ?_ ?_;(case aR=> exact (kS_q HSY));exact (kS_q HSX);exact (fun k_ hk=> Kd.freshB (g:=Ac) (o:=.cells #[.int .i64 Af,.int .i64 Ag,.int .i64 Ah,.int .i64 Ai,.int .i64 Aj,.slice An Ad.length Ao,.int .i64 Ak,.bool Al] 61 (0,0)) (bk_q Aa) k_ hk);exact (bw_q HB);exact (below_size (bw_q HB));(focus have:=Dr.out;omega);intro v658 w53 ho hb hg hat;rw [←Ds.out] at ho;replace Aa:=bG_ Aa hg (Kd.S_away Ae.out (fun _ hk=> hk.1));replace HB:=ak (hb);have Du:=ak (ho);clear Ae Df;clear ho hb hg hat))
         go_ret
         exact ⟨_,er_q,by (with_reducible repeat (first | apply Kd.S_alloc | apply Kd.S_drewN | apply Kd.S_drew));exact Kd.S_mono Du.out (fun _ hk=> trivial),bw_q HB⟩
        ·rw [if_neg c42] at H
         exact absurd H (by simp)
      ·rw [if_neg c19] at H;have Dm:=decide_eq_false c19
       clear c19;have Eo:=eq_true (of_decide_eq_true as_q:0≤Ab);have Ep:=eq_true (of_decide_eq_true as_q:Ab≤(l0.length:Int));obtain ⟨Ca,Cl⟩:∃y_:List (S61),y_=(l0.drop (Ab:Int).toNat):=⟨_,rfl⟩
       replace H:((impl_copyRecords.f kj2 Ca).bind fun Bf=> (if Ap.length+Bf.length<1759218604441 then (some (Ap++Bf)) else (none)))=some r:=by first | (rw [Cl];with_reducible exact H) | (have H2_:=(Option.bind_some _ _).symm.trans H;rw [Cl];with_reducible exact H2_) | (have H2_:=(Option.bind_some _ _).symm.trans H;with_reducible exact H2_) | with_reducible exact H | (rw [Cl];exact H) | exact H
       have Dg:=ak Cl;clear Cl;replace H:=bsi H;obtain ⟨Bf,A570,H⟩:=H
       (try dsimp only at H)
       have A57:=ak A570;clear A570
       by_cases c58:Ap.length+Bf.length<1759218604441
       ·rw [if_pos c58] at H;have Dv:=ak c58;clear c58;obtain ⟨Ec,Cm⟩:∃y_:List (S61),y_=(Ap++Bf):=⟨_,rfl⟩
        replace H:(some Ec)=some r:=by first | (rw [Cm];with_reducible exact H) | (have H2_:=(Option.bind_some _ _).symm.trans H;rw [Cm];with_reducible exact H2_) | (have H2_:=(Option.bind_some _ _).symm.trans H;with_reducible exact H2_) | with_reducible exact H | (rw [Cm];exact H) | exact H
        have Dw:=ak Cm;clear Cm;obtain rfl:=Option.some.inj H
        try go_wp2
        replace Aa:=ak (blk_drew Aa.out);replace HB:=ak (below_drew1 HB.out)
        have q60:(Ab:Int)≤((l0.length:Int):Int):=of_decide_eq_true as_q
        obtain ⟨i060,hi060,_,hsz60,_⟩:=info_parts info61
        have hroom60:l0.length≤c0:=Cq.out
        have hC60:Kd.C k61 _ A0 l0.length l0:=HR0.out
        have hcut60:=cut_to (P:=Try.prog) 41 61 .i64 Try.underlying41 hi060 A0 l0.length c0 Ab (of_decide_eq_true as_q) q60 hroom60
        have hr60:=Kd.C_take (m:=(Ab:Int).toNat) hC60 (by omega)
        have Da:Bd.length=(Ab:Int).toNat:=(by rw [Cd.out,List.length_take];omega)
        rw [←Cd.out] at hr60;rw [←Da] at hcut60;have HR621:=ak hr60
        have Ci:=ak (show Bd.length≤c0 from by omega)
        clear hr60 hC60 hroom60 hi060 hsz60;have KY60:=ak Da;clear Da;replace q60:=eq_true q60
        refine start_ (n:=9) (S:=fun w'=> cl8 w' Ac (.int .i64 Af) (.int .i64 Ag) (.int .i64 Ah) (.int .i64 Ai) (.int .i64 Aj) (.slice An Ad.length Ao) (.int .i64 Ak) (.bool Al)) (ds:=[]) (bL 9 0) (by kernel_rfl) rfl rfl (cz8_ Aa) (fun hHeld=> ?_);refine with_tabW impl_put.tab4 impl_put.bits4 (fun HT_ HW_=> ?_)
        generalize wc.drew=w59 at Aa HB HR621 hHeld ⊢
        refine pQ_ 0 HT_ ?_
        refine pQ_ 1 HT_ ?_
        refine pQ_ 2 HT_ ?_
        refine take_ (i:=4) (N:=some 25) (v:=?_) (a':=?_) (bL 9 23) rfl rfl (take_ofW HT_.out HW_.out (by kernel_rfl)) (fun _ _ _ h=> h) (Or.inl ⟨by rfl,?_⟩) hHeld ?_ ?_;rotate_left;(rintro w' s0;go_simp;with_reducible rfl);rotate_left;(exact put_q)
        refine one_ (i:=3) (N:=some 24) (bL 9 31) rfl rfl (one_of HT_.out (by kernel_rfl)) (by decide) (fun K hK=> ?_)
        refine goes_ Try.func135 (by kernel_rfl) rfl #[.slice A0 Bd.length c0] (by rfl) rfl rfl mp_q ?_
        with_reducible refine (impl_copyRecords.calls kj2 _ _ Bd Bn _ ?_ ?_ A16.out).mono ?_
        exact ch_ HR621 HB
        exact Ci.out
        rintro e w61 ⟨v623,rfl,ho0,hb⟩
        refine ⟨_,rfl,?_⟩
        have Aq:=ak (Kd.S_lower (Kd.S_newB ho0 (g:=Ac) (o:=.cells #[.int .i64 Af,.int .i64 Ag,.int .i64 Ah,.int .i64 Ai,.int .i64 Aj,.slice An Ad.length Ao,.int .i64 Ak,.bool Al] 61 (0,0)) (bk_q Aa)) (below_size (bw_q HB)));replace Aa:=bb_ Aa hb;replace HB:=hB_ HB hb;(try clear ho0)
        refine hK.out _ _ (cz8_ Aa) (fun hHeld=> ?_)
        clear hK K
        refine norm_ (a':=?_) ?_ ?_;rotate_left;(show Act.put _ (some 24) _=_;simp only [Act.put,List.setIfInBounds_toArray,List.set_cons_zero,List.set_cons_succ,i64_w,i32_w];rfl)
        refine one_ (i:=5) (N:=some 26) (bL 9 63) rfl rfl (one_of HT_.out (by kernel_rfl)) (by decide) (fun K hK=> ?_)
        refine goes_ Try.func108 (by kernel_rfl) rfl #[.agg #[.int .i64 Af,.int .i64 Ag,.int .i64 Ah,.int .i64 Ai,.int .i64 Aj,.slice An Ad.length Ao,.int .i64 Ak,.bool Al]] (by rfl) rfl rfl mp_q ?_
        with_reducible refine (impl_copyRecord.calls Af Ag Ah Ai Aj _ _ Ad Ak Al Bg Bh Bi Bj Bk Bb Bl Bm _ ?_ ?_ A17.out).mono ?_
        exact ch_ Cb HB
        exact Cc.out
        rintro e w62 ⟨v631,rfl,ho0,hb⟩
        refine ⟨_,rfl,?_⟩
        have hs_v631:(v631:Value).oneCell'=true:=(by first | (have h_:=Kd.R_slice ho0;obtain ⟨A_,c_,e_⟩:=h_;simp [e_,Value.oneCell']) | (have h_:=Kd.S_slice ho0;obtain ⟨A_,c_,e_⟩:=h_;simp [e_,Value.oneCell']) | (have h_:=Kd.N_slice ho0;obtain ⟨A_,c_,e_⟩:=h_;simp [e_,Value.oneCell']) | (have h_:=Kd.V_slice ho0;obtain ⟨A_,c_,e_⟩:=h_;simp [e_,Value.oneCell']))
        have hst_v631:=fun (w_:World) (a_:Addr) m_=> run_store Try.prog w_ a_ v631 m_ hs_v631
        replace Aq:=ak (Kd.S_elder' (kS_q Aq) (Kd.R_base ho0) hb);have Ar:=ak (Kd.R_lower ho0 (below_size (bw_q HB)));replace Aa:=bb_ Aa hb;replace HB:=hB_ HB hb;(try clear ho0);obtain ⟨Ao64,co64,eo64⟩:=Kd.R_slice Ar.out
        (first | subst eo64 | (injection eo64 with f1_ f2_ f3_;have f4_:=f1_.symm;have f5_:=f3_.symm;clear f1_ f2_ f3_;subst f4_;subst f5_))
        refine hK.out _ _ (cz8_ Aa) (fun hHeld=> ?_)
        clear hK K
        refine norm_ (a':=?_) ?_ ?_;rotate_left;(show Act.put _ (some 26) _=_;simp only [Act.put,List.setIfInBounds_toArray,List.set_cons_zero,List.set_cons_succ,i64_w,i32_w];rfl)
        refine one_ (i:=6) (N:=some 27) (bL 9 127) rfl rfl (one_of HT_.out (by kernel_rfl)) (by decide) (fun K hK=> ?_)
        refine value_ (w1:=?_) (v:=?_) (by rfl) rfl ?_ ?_
        rotate_left 2
        ·go_simp
         constructor
         ·rfl
         ·rfl
        refine hK.out _ _ (⟨(blk_cell (blk_alloc Aa.out _) 0).trans rfl,(blk_cell (blk_alloc Aa.out _) 1).trans rfl,(blk_cell (blk_alloc Aa.out _) 2).trans rfl,(blk_cell (blk_alloc Aa.out _) 3).trans rfl,(blk_cell (blk_alloc Aa.out _) 4).trans rfl,(blk_cell (blk_alloc Aa.out _) 5).trans rfl,(blk_cell (blk_alloc Aa.out _) 6).trans rfl,(blk_cell (blk_alloc Aa.out _) 7).trans rfl⟩) (fun hHeld=> ?_)
        clear hK K
        refine norm_ (a':=?_) ?_ ?_;rotate_left;(show Act.put _ (some 27) _=_;simp only [Act.put,List.setIfInBounds_toArray,List.set_cons_zero,List.set_cons_succ,i64_w,i32_w];rfl)
        refine one_ (i:=7) (N:=some 28) (bL 9 255) rfl rfl (one_of HT_.out (by kernel_rfl)) (by decide) (fun K hK=> ?_)
        refine Kd.S_append_step k61 (w0:=w) w.heap.size (by rfl) (.tmp 24) (.tmp 27) 41 61 (.agg #[(.int .i64 0),(.int .i64 0),(.int .i64 0),(.int .i64 0),(.int .i64 0),(.slice none 0 0),(.int .i64 0),(.bool false)]) 80 rfl Try.underlying41 info61 rfl (by decide) (by omega) v623 Bn (⟨Bg,Bh,Bi,Bj,Bk,Bb,Bl,Bm⟩:S61) [.int .i64 Bg,.int .i64 Bh,.int .i64 Bi,.int .i64 Bj,.int .i64 Bk,.slice Ao64 Bb.length co64,.int .i64 Bl,.bool Bm] (fun k_=> k_≠Ac) (fun k_=> some k_=(.slice Ao64 Bb.length co64:Value).ownBlock) rfl rfl ?_ (fun k_ hk_=> ((Kd.R_mono (ok':=fun k_=> ((fun k_=> k_≠Ac)) k_∧some k_≠(v623:Value).ownBlock) (Kd.R_types (Kd.R_apart' (Ar.out) (Kd.S_typed Aq.out) (by decide)) Aa.out (by decide)) (fun k_ hk=> ⟨hk.2,hk.1.2⟩))).1 k_ hk_.symm) ?_ ?_ ?_ ?_ ?_ ?_
        exact k61_mkM _ _ _ (⟨Bg,Bh,Bi,Bj,Bk,Bb,Bl,Bm⟩:S61) (Kd.R_mono (Kd.R_tight rfl (Kd.R_mono (ok':=fun k_=> ((fun k_=> k_≠Ac)) k_∧some k_≠(v623:Value).ownBlock) (Kd.R_types (Kd.R_apart' (Ar.out) (Kd.S_typed Aq.out) (by decide)) Aa.out (by decide)) (fun k_ hk=> ⟨hk.2,hk.1.2⟩))) (fun _ h_=> h_))
        exact (fun k_ hk=> Kd.freshB (g:=Ac) (o:=.cells #[.int .i64 Af,.int .i64 Ag,.int .i64 Ah,.int .i64 Ai,.int .i64 Aj,.slice An Ad.length Ao,.int .i64 Ak,.bool Al] 61 (0,0)) (bk_q Aa) k_ hk)
        (focus exact (by (with_reducible repeat (first | apply Kd.S_alloc | apply Kd.S_drewN | apply Kd.S_drew));exact Kd.S_mono Aq.out (fun k_ hk=> ⟨hk.1.2,fun e_=> hk.2 e_⟩)))
        exact (bw_q HB)
        exact (below_size (bw_q HB))
        (focus have:=Ct.out;omega)
        intro v636 w63 ho hb hg hat
        rw [←Cu.out] at ho
        replace Aa:=bG_ Aa hg (Kd.S_away Aq.out (fun _ hk=> hk.1.2))
        replace HB:=ak (hb);have Ae:=ak (ho);clear Aq Ar;clear ho hb hg hat
        refine hK.out _ _ (cz8_ Aa) (fun hHeld=> ?_)
        clear hK K
        refine norm_ (a':=?_) ?_ ?_;rotate_left;(show Act.put _ (some 28) _=_;simp only [Act.put,List.setIfInBounds_toArray,List.set_cons_zero,List.set_cons_succ,i64_w,i32_w];rfl)
        refine pQ_ 8 HT_ ?_
        refine done_ (done_of HT_.out (by kernel_rfl)) ?_
        try go_wp2
        replace Ae:=ak (Kd.S_drew Ae.out);replace Aa:=ak (blk_drew Aa.out);replace HB:=ak (below_drew1 HB.out)
        refine start_ (n:=12) (S:=fun w'=> True) (ds:=[]) (bL 12 0) (by kernel_rfl) rfl rfl trivial (fun hHeld=> ?_);refine with_tabW impl_put.tab5 impl_put.bits5 (fun HT_ HW_=> ?_)
        generalize w63.drew=w65 at Ae Aa HB hHeld ⊢
        refine pQ_ 0 HT_ ?_
        refine pQ_ 1 HT_ ?_
        refine pQ_ 2 HT_ ?_
        refine pQ_ 3 HT_ ?_
        refine pQ_ 4 HT_ ?_
        refine pU_ 5 HT_ ?_
        refine pU_ 6 HT_ ?_
        refine pU_ 7 HT_ ?_
        refine pU_ 8 HT_ ?_
        refine pU_ 9 HT_ ?_
        refine pU_ 10 HT_ ?_
        refine pQ_ 11 HT_ ?_
        refine done_ (done_of HT_.out (by kernel_rfl)) ?_
        have q66:(Ab:Int)≤((l0.length:Int):Int):=of_decide_eq_true as_q
        obtain ⟨i066,hi066,_,hsz66,_⟩:=info_parts info61
        have hroom66:l0.length≤c0:=Cq.out
        have hC66:Kd.C k61 _ A0 l0.length l0:=HR0.out
        have q066:(0:Int)≤(Ab:Int):=of_decide_eq_true as_q
        have hcut66:=cut_from (P:=Try.prog) 41 61 .i64 Try.underlying41 hi066 8 hsz66 A0 l0.length c0 Ab q066 q66
        have hr66:=Kd.C_drop (m:=(Ab:Int).toNat) (c:=c0) hC66 (by omega) hroom66
        obtain ⟨A66,hA66⟩:∃A1,A1=(if c0=(Ab:Int).toNat then A0 else (A0:Option Addr).map (·.add ((Ab:Int).toNat*8))):=⟨_,rfl⟩;obtain ⟨c66,hc66⟩:∃c1,c1=c0-(Ab:Int).toNat:=⟨_,rfl⟩
        have Cx:Ca.length=l0.length-(Ab:Int).toNat:=(by rw [Dg.out,List.length_drop] <;> omega)
        rw [show (l0).drop (Ab:Int).toNat=Ca from Dg.out.symm] at hr66
        replace hr66:Kd.C k61 _ A66 Ca.length Ca:=(by rw [hA66];exact hr66)
        rw [←Cx,←hA66,←hc66] at hcut66;have HR663:=ak hr66
        have Dx:=ak (show Ca.length≤c66 from by rw [Cx,hc66];exact Nat.sub_le_sub_right hroom66 _)
        clear hr66 hC66 hroom66 hi066 hsz66 hc66;have KY66:=ak Cx;have KA66:=ak hA66;clear Cx hA66;replace q66:=eq_true q66
        try go_wp2_with (first | ((with_reducible refine gC_ 135 ?_);refine gL_ 47 Try.func135 #[.slice A66 Ca.length c66] ?_;(with_reducible refine (impl_copyRecords.calls kj2 _ _ Ca Bf _ ?_ ?_ A57.out).mono ?_);exact ch_ HR663 HB;exact Dx.out;rintro e w67 ⟨v665,rfl,ho0,hb⟩;refine ⟨_,rfl,?_⟩;have Dh:=ak (Kd.S_lower (Kd.S_newB (Kd.S_new' ho0 (Kd.S_lt (kS_q Ae))) (g:=Ac) (o:=.cells #[.int .i64 Af,.int .i64 Ag,.int .i64 Ah,.int .i64 Ai,.int .i64 Aj,.slice An Ad.length Ao,.int .i64 Ak,.bool Al] 61 (0,0)) (bk_q Aa)) (below_size (bw_q HB)));have HSX:=ak (Kd.S_mono (ok':=fun k_=> (k_≠Ac)∧k_<w65.heap.size) (Kd.S_old (kS_q Ae) hb) (fun _ hk_=> hk_));have HSY:=ak (Kd.S_mono (ok':=fun k_=> w65.heap.size≤k_) (Kd.S_lower (Kd.S_bound ho0) (below_size (bw_q HB))) (fun _ hk_=> hk_.2.1));have HSK:=ak ((fun k_ hk_=> And.intro (Kd.freshB (g:=Ac) (o:=.cells #[.int .i64 Af,.int .i64 Ag,.int .i64 Ah,.int .i64 Ai,.int .i64 Aj,.slice An Ad.length Ao,.int .i64 Ak,.bool Al] 61 (0,0)) (bk_q Aa) k_ hk_) (Kd.fresh' (Kd.S_lt (kS_q Ae)) k_ hk_):∀k_,w65.heap.size≤k_→(k_≠Ac)∧some k_≠(v636:Value).ownBlock));replace Ae:=ak (Kd.S_elder' (kS_q Ae) (Kd.S_base ho0) hb);replace Aa:=bb_ Aa hb;replace HB:=hB_ HB hb;(try clear ho0);obtain ⟨Ao69,co69,eo69⟩:=Kd.S_slice Dh.out;subst eo69) | ((with_reducible refine gate_builtin (b:=.append) (xs:=#[.tmp 43,.tmp 47]) rfl ?_);at_builtin;refine Kd.S_append_rows k61 (w0:=w) w.heap.size rfl (.tmp 43) (.tmp 47) 41 61 (.agg #[(.int .i64 0),(.int .i64 0),(.int .i64 0),(.int .i64 0),(.int .i64 0),(.slice none 0 0),(.int .i64 0),(.bool false)]) 80 rfl Try.underlying41 info61 rfl (by decide) (by omega) v636 Ap Bf _ _ _ (fun k_=> k_≠Ac) (fun k_=> (k_≠Ac)∧k_<w65.heap.size) (fun k_=> w65.heap.size≤k_) rfl rfl ?_ ?aR (fun k_ hk=> hk.1) (fun k_ h1 h2=> Nat.not_le.2 h2.2 h1) (fun k_ hk=> HSK.out k_ hk) ?_ ?_ ?_ ?_ ?_;(case aR=> exact (kS_q HSY));exact (kS_q HSX);exact (fun k_ hk=> Kd.freshB (g:=Ac) (o:=.cells #[.int .i64 Af,.int .i64 Ag,.int .i64 Ah,.int .i64 Ai,.int .i64 Aj,.slice An Ad.length Ao,.int .i64 Ak,.bool Al] 61 (0,0)) (bk_q Aa) k_ hk);exact (bw_q HB);exact (below_size (bw_q HB));(focus have:=Dv.out;omega);intro v668 w68 ho hb hg hat;rw [←Dw.out] at ho;replace Aa:=bG_ Aa hg (Kd.S_away Ae.out (fun _ hk=> hk.1));replace HB:=ak (hb);have Dy:=ak (ho);clear Ae Dh;clear ho hb hg hat))
        go_ret
        exact ⟨_,er_q,by (with_reducible repeat (first | apply Kd.S_alloc | apply Kd.S_drewN | apply Kd.S_drew));exact Kd.S_mono Dy.out (fun _ hk=> trivial),bw_q HB⟩
       ·rw [if_neg c58] at H
        exact absurd H (by simp)
     ·rw [if_neg c18] at H
      exact absurd H (by simp)
    ·rw [if_neg c15] at H
     exact absurd H (by simp)
   ·rw [if_neg c14] at H
    exact absurd H (by simp)

end Go.Proofs.Ythjmdiggglkeaaa.Q
