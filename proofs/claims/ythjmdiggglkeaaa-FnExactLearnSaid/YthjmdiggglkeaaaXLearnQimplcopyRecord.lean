import Derived.Test.YthjmdiggglkeaaaXLearnQlawsszRecordS
import Derived.Test.YthjmdiggglkeaaaXLearnQimplRecordOk
import Derived.Test.YthjmdiggglkeaaaXLearnQimplless
/- The contract of a Go function. -/



namespace Go.Proofs.Ythjmdiggglkeaaa.Q
open Go.RowKit Go.Proofs.YthjmdiggglkeaaaW.PrintWords Go.Proofs.YthjmdiggglkeaaaW.PrintLast Go.Proofs.YthjmdiggglkeaaaW.PrintMore
attribute [local go_sem] max2_int min2_int max_two min_two max_three min_three max_four min_four   -- for this text's walks alone
set_option linter.unusedVariables false
set_option linter.unusedSimpArgs false

/-! ### impl_StoreOk: function 50 -/
def impl_StoreOk.l0:Nat→List (S61)→List (S61)→Int→Int→Option (Bool)
 | 0,_,_,_,_=> none
 | k+1,c,b,d,a=> if a<d then (if 0≤a then (if a<(b.length:Int) then ((impl_RecordOk.f k ((rd_T61 b a).f0) ((rd_T61 b a).f1) ((rd_T61 b a).f2) ((rd_T61 b a).f3) ((rd_T61 b a).f4) ((rd_T61 b a).f5) ((rd_T61 b a).f6) ((rd_T61 b a).f7)).bind fun e=> (if e=true then (if a > 0 then (if 0≤(wrap64 (a-1)) then (if (wrap64 (a-1))<(c.length:Int) then ((impl_Before.f ((rd_T61 c (wrap64 (a-1))).f0) ((rd_T61 c (wrap64 (a-1))).f1) ((rd_T61 c (wrap64 (a-1))).f2) ((rd_T61 c (wrap64 (a-1))).f3) ((rd_T61 c (wrap64 (a-1))).f4) ((rd_T61 c (wrap64 (a-1))).f5) ((rd_T61 c (wrap64 (a-1))).f6) ((rd_T61 c (wrap64 (a-1))).f7) ((rd_T61 b a).f0) ((rd_T61 b a).f1) ((rd_T61 b a).f2) ((rd_T61 b a).f3) ((rd_T61 b a).f4) ((rd_T61 b a).f5) ((rd_T61 b a).f6) ((rd_T61 b a).f7)).bind fun g=> (if g=true then (impl_StoreOk.l0 k c b d (wrap64 (a+1))) else (some false))) else (none)) else (none)) else (impl_StoreOk.l0 k c b d (wrap64 (a+1)))) else (some false))) else (none)) else (none)) else (some (decide ((c.length:Int)≤150)))
def impl_StoreOk.f (k:Nat) (l0:List (S61)):Option (Bool):=impl_StoreOk.l0 k l0 l0 (l0.length:Int) 0
theorem impl_StoreOk.mono_l:∀k,(∀y0 y1 y2 y3,LeO (impl_StoreOk.l0 k y0 y1 y2 y3) (impl_StoreOk.l0 (k+1) y0 y1 y2 y3))
 | 0=> fun _ _ _ _ r h=> by simp [impl_StoreOk.l0] at h
 | k+1=> by
  have ih0:=impl_StoreOk.mono_l k
  ·intro y0 y1 y2 y3
   unfold impl_StoreOk.l0
   with_reducible repeat' (first | apply ih0 | apply impl_RecordOk.mono | exact LeO.refl _ | exact LeO.none _ | refine LeO.ite ?_ ?_ | refine LeO.bind ?_ (fun _=> ?_))
theorem impl_StoreOk.mono:∀a0 k,LeO (impl_StoreOk.f k a0) (impl_StoreOk.f (k+1) a0):=by
 intro a0 k
 have ih0:=impl_StoreOk.mono_l k
 unfold impl_StoreOk.f
 with_reducible repeat' (first | apply ih0 | apply impl_RecordOk.mono | exact LeO.refl _ | exact LeO.none _ | refine LeO.ite ?_ ?_ | refine LeO.bind ?_ (fun _=> ?_))
def impl_StoreOk.T4:Bool×List (List Nat×List Nat):=(true,[([],[]),([0],[0]),([1],[1]),([2,1],[2]),([3],[3]),([4,3],[3,4]),([5,3,3],[3,5]),([6],[6]),([6],[6]),([8,6],[6,8]),([7,9,6],[6,7,9]),([10,6],[6,10]),([6],[6]),([11,12,6,6],[6,11,12]),([13,6],[6,13]),([6,14,3],[3,6,14]),([3,15],[3,15])])
def impl_StoreOk.B4:List Nat:=[0,1,3,7,15,31,63,127,127,383,1023,2047,127,8191,16383,32767,65535]
theorem impl_StoreOk.tab4:rtab .any (opsOf Try.f50 4)=impl_StoreOk.T4:=by kernel_rfl
theorem impl_StoreOk.bits4:waitsOk impl_StoreOk.T4.2 impl_StoreOk.B4=true:=by kernel_rfl
set_option maxHeartbeats 8000000 in
set_option maxRecDepth 100000 in
theorem impl_StoreOk.calls (k:Nat) (A0:Option Addr) (c0:Nat) (l0:List (S61)) (r:Bool) (w:World) (hr0:Kd.C k61 w A0 l0.length l0) (hc0:l0.length≤c0) (h:impl_StoreOk.f k l0=some r):
  Calls Try.prog 50 #[.slice A0 l0.length c0] w fun e w'=> e=.returned (.bool r)∧Below w.heap.size w w':=by
 have hu61:=Try.underlying61;have HR0:=ak hr0;have Bz:=ak hc0;clear hr0 hc0;have HB:=ak (Below.refl w.heap.size w);have H:=h
 clear h;unfold impl_StoreOk.f at H;have H':=ak H;clear H
 go_enter Try.func50,Try.ntmps50
 go_wp2
 go_loopg [7] k (fun kq v7 w'=> ∃(Aa:Int),v7=.int .i64 Aa∧Aside0 (impl_StoreOk.l0 kq l0 l0 (l0.length:Int) Aa=some r)∧Aside0 (kq≤k)∧Aside0 (Below w.heap.size w w'))
 case atStart=> exact ⟨(0),rs_q,H',⟨Nat.le_refl _⟩,⟨bw_q HB⟩⟩
 case round=>
  clear H';obtain ⟨Aa,rfl,HA,Ax,HB⟩:=hrel
  cases gk with
  | zero=> exact absurd HA.out (by simp [impl_StoreOk.l0])
  | succ k1=>
   have H:=HA.out;clear HA
   simp only [impl_StoreOk.l0] at H
   by_cases c2:Aa<(l0.length:Int)
   ·rw [if_pos c2] at H;have Bd:=decide_eq_true c2;clear c2
    by_cases c3:0≤Aa
    ·rw [if_pos c3] at H;have Bw:=decide_eq_true c3;clear c3
     by_cases c4:Aa<(l0.length:Int)
     ·rw [if_pos c4] at H;have Bx:=decide_eq_true c4
      clear c4;replace H:=bsi H;obtain ⟨Bb,A50,H⟩:=H
      (try dsimp only at H)
      have A5:=ak A50;clear A50;have HZ9:=ak H;clear H
      have p341:0≤(Aa:Int):=of_decide_eq_true as_q
      have q341:Aa<(l0.length:Int):=of_decide_eq_true as_q
      obtain ⟨Ay,A341_5,c341_5,e341,Am,An,Ao,Ap,Aq,Ar,As,At,hl341_5,hi341_5⟩:=at_T61 HR0.out Aa p341 q341
      cases e341
      obtain ⟨Am,An,Ao,Ap,Aq,Ar,As,At⟩:=hb8_ HB Am An Ao Ap Aq Ar As At;have Au:=ak hi341_5;have Av:=ak hl341_5;clear hi341_5 hl341_5;replace p341:=eq_true p341;replace q341:=eq_true q341
      try go_wp2_with (first | ((with_reducible refine gate_dst (N:=4) rfl ?_);refine box_q 4 #[.int .i64 0,.int .i64 0,.int .i64 0,.int .i64 0,.int .i64 0,.slice none 0 0,.int .i64 0,.bool false] 61 ?_;intro Ab hg w13 hbox hb;have Ac:=ak (hbox);have Bu:=gs_ HB hg;replace HB:=hB_ HB hb;clear hb hbox hg;obtain ⟨Be,Bf,Bg,Bh,Bi,Bj,Bk,Bl,Bm,Bn,Bo,Bp,Bq,Br,Bs,Bt⟩:=cf8_ Ac))
      have n0_:Aside0 (((((((((w13.setCell ⟨Ab,0,none⟩ (.int .i64 ((rd_T61 l0 Aa).f0))).setCell ⟨Ab,1,none⟩ (.int .i64 ((rd_T61 l0 Aa).f1))).setCell ⟨Ab,2,none⟩ (.int .i64 ((rd_T61 l0 Aa).f2))).setCell ⟨Ab,3,none⟩ (.int .i64 ((rd_T61 l0 Aa).f3))).setCell ⟨Ab,4,none⟩ (.int .i64 ((rd_T61 l0 Aa).f4))).setCell ⟨Ab,5,none⟩ (.slice A341_5 ((rd_T61 l0 Aa).f5).length c341_5)).setCell ⟨Ab,6,none⟩ (.int .i64 ((rd_T61 l0 Aa).f6))).setCell ⟨Ab,7,none⟩ (.bool ((rd_T61 l0 Aa).f7))).heap[Ab]? =some (.cells #[.int .i64 ((rd_T61 l0 Aa).f0),.int .i64 ((rd_T61 l0 Aa).f1),.int .i64 ((rd_T61 l0 Aa).f2),.int .i64 ((rd_T61 l0 Aa).f3),.int .i64 ((rd_T61 l0 Aa).f4),.slice A341_5 ((rd_T61 l0 Aa).f5).length c341_5,.int .i64 ((rd_T61 l0 Aa).f6),.bool ((rd_T61 l0 Aa).f7)] 61 (0,0))):=⟨bp_ Ac⟩
      have n1_:Aside0 (Below w.heap.size w ((((((((w13.setCell ⟨Ab,0,none⟩ (.int .i64 ((rd_T61 l0 Aa).f0))).setCell ⟨Ab,1,none⟩ (.int .i64 ((rd_T61 l0 Aa).f1))).setCell ⟨Ab,2,none⟩ (.int .i64 ((rd_T61 l0 Aa).f2))).setCell ⟨Ab,3,none⟩ (.int .i64 ((rd_T61 l0 Aa).f3))).setCell ⟨Ab,4,none⟩ (.int .i64 ((rd_T61 l0 Aa).f4))).setCell ⟨Ab,5,none⟩ (.slice A341_5 ((rd_T61 l0 Aa).f5).length c341_5)).setCell ⟨Ab,6,none⟩ (.int .i64 ((rd_T61 l0 Aa).f6))).setCell ⟨Ab,7,none⟩ (.bool ((rd_T61 l0 Aa).f7)))):=⟨bw_q HB⟩
      (try clear Ac);(try clear HB)
      generalize ((((((((w13.setCell ⟨Ab,0,none⟩ (.int .i64 ((rd_T61 l0 Aa).f0))).setCell ⟨Ab,1,none⟩ (.int .i64 ((rd_T61 l0 Aa).f1))).setCell ⟨Ab,2,none⟩ (.int .i64 ((rd_T61 l0 Aa).f2))).setCell ⟨Ab,3,none⟩ (.int .i64 ((rd_T61 l0 Aa).f3))).setCell ⟨Ab,4,none⟩ (.int .i64 ((rd_T61 l0 Aa).f4))).setCell ⟨Ab,5,none⟩ (.slice A341_5 ((rd_T61 l0 Aa).f5).length c341_5)).setCell ⟨Ab,6,none⟩ (.int .i64 ((rd_T61 l0 Aa).f6))).setCell ⟨Ab,7,none⟩ (.bool ((rd_T61 l0 Aa).f7)))=w15 at n0_ n1_ ⊢
      have Ac:=n0_;have HB:=n1_;clear n0_ n1_;replace Ac:=ak (blk_drew Ac.out);replace HB:=ak (below_drew1 HB.out)
      refine start_ (n:=17) (S:=fun w'=> cl8 w' Ab (.int .i64 ((rd_T61 l0 Aa).f0)) (.int .i64 ((rd_T61 l0 Aa).f1)) (.int .i64 ((rd_T61 l0 Aa).f2)) (.int .i64 ((rd_T61 l0 Aa).f3)) (.int .i64 ((rd_T61 l0 Aa).f4)) (.slice A341_5 ((rd_T61 l0 Aa).f5).length c341_5) (.int .i64 ((rd_T61 l0 Aa).f6)) (.bool ((rd_T61 l0 Aa).f7))) (ds:=[]) (bL 17 0) (by kernel_rfl) rfl rfl (cz8_ Ac) (fun hHeld=> ?_);refine with_tabW impl_StoreOk.tab4 impl_StoreOk.bits4 (fun HT_ HW_=> ?_)
      generalize w15.drew=w16 at Ac HB hHeld ⊢
      refine take_ (i:=0) (N:=some 12) (v:=?_) (a':=?_) (bL 17 1) rfl rfl (take_ofW HT_.out HW_.out (by kernel_rfl)) (fun _ _ _ h=> h) (Or.inl ⟨by rfl,?_⟩) hHeld ?_ ?_;rotate_left;(rintro w' s0;go_simp;with_reducible rfl);rotate_left;(exact put_q)
      refine one_ (i:=1) (N:=some 13) (bL 17 3) rfl rfl (one_of HT_.out (by kernel_rfl)) (by decide) (fun K hK=> ?_)
      refine goes_ Try.func110 (by kernel_rfl) rfl #[.agg #[.int .i64 ((rd_T61 l0 Aa).f0),.int .i64 ((rd_T61 l0 Aa).f1),.int .i64 ((rd_T61 l0 Aa).f2),.int .i64 ((rd_T61 l0 Aa).f3),.int .i64 ((rd_T61 l0 Aa).f4),.slice A341_5 ((rd_T61 l0 Aa).f5).length c341_5,.int .i64 ((rd_T61 l0 Aa).f6),.bool ((rd_T61 l0 Aa).f7)]] (by rfl) rfl rfl mp_q ?_
      with_reducible refine (impl_RecordOk.calls k1 ((rd_T61 l0 Aa).f0) ((rd_T61 l0 Aa).f1) ((rd_T61 l0 Aa).f2) ((rd_T61 l0 Aa).f3) ((rd_T61 l0 Aa).f4) _ _ ((rd_T61 l0 Aa).f5) ((rd_T61 l0 Aa).f6) ((rd_T61 l0 Aa).f7) Bb _ ?_ ?_ A5.out).mono ?_
      exact ch_ Au HB
      exact Av.out
      rintro e w17 ⟨rfl,hb⟩
      refine ⟨_,rfl,?_⟩
      replace Ac:=bb_ Ac hb;replace HB:=hB_ HB hb
      refine hK.out _ _ (cz8_ Ac) (fun hHeld=> ?_)
      clear hK K
      refine norm_ (a':=?_) ?_ ?_;rotate_left;(show Act.put _ (some 13) _=_;simp only [Act.put,List.setIfInBounds_toArray,List.set_cons_zero,List.set_cons_succ,i64_w,i32_w];rfl)
      refine pQ_ 2 HT_ ?_
      refine pQ_ 3 HT_ ?_
      have H:=HZ9.out;clear HZ9
      by_cases c6:Bb=true
      ·subst c6;rw [if_pos rfl] at H;have HZ10:=ak H;clear H
       refine pQ_ 4 HT_ ?_
       refine pQ_ 5 HT_ ?_
       refine pQ_ 6 HT_ ?_
       have H:=HZ10.out;clear HZ10
       by_cases c7:Aa > 0
       ·rw [if_pos c7] at H;have Al:=decide_eq_true c7
        (first | rw [Al] | (simp only [i64_w,i32_w];first | rw [Al]) | skip)
        clear c7;obtain ⟨ji8,hji8⟩:∃j_:Int,(wrap64 (Aa-1))=j_:=⟨_,rfl⟩
        replace H:(if 0≤(ji8) then (if (ji8)<(l0.length:Int) then ((impl_Before.f ((rd_T61 l0 (ji8)).f0) ((rd_T61 l0 (ji8)).f1) ((rd_T61 l0 (ji8)).f2) ((rd_T61 l0 (ji8)).f3) ((rd_T61 l0 (ji8)).f4) ((rd_T61 l0 (ji8)).f5) ((rd_T61 l0 (ji8)).f6) ((rd_T61 l0 (ji8)).f7) ((rd_T61 l0 Aa).f0) ((rd_T61 l0 Aa).f1) ((rd_T61 l0 Aa).f2) ((rd_T61 l0 Aa).f3) ((rd_T61 l0 Aa).f4) ((rd_T61 l0 Aa).f5) ((rd_T61 l0 Aa).f6) ((rd_T61 l0 Aa).f7)).bind fun Aw=> (if Aw=true then (impl_StoreOk.l0 k1 l0 l0 (l0.length:Int) (wrap64 (Aa+1))) else (some false))) else (none)) else (none))=some r:=by first | (rw [hji8] at H;exact H) | (simp only [hji8] at H ⊢;exact H)
        (try rw [hji8] at A5)
        have hji8w:(IntKind.i64.wrap (Aa-1))=ji8:=(i64_w _).trans hji8
        by_cases c9:0≤(ji8)
        ·rw [if_pos c9] at H;have By:=decide_eq_true c9;clear c9
         by_cases c10:(ji8)<(l0.length:Int)
         ·rw [if_pos c10] at H;have Bv:=decide_eq_true c10
          clear c10;replace H:=bsi H;obtain ⟨Aw,A110,H⟩:=H
          (try dsimp only at H)
          have A11:=ak A110;clear A110;have HZ11:=ak H;clear H
          have p344:0≤((ji8):Int):=of_decide_eq_true as_q
          have q344:(ji8)<(l0.length:Int):=of_decide_eq_true as_q
          obtain ⟨Bc,A344_5,c344_5,e344,Ad,Ae,Af,Ag,Ah,Ai,Aj,Ak,hl344_5,hi344_5⟩:=at_T61 HR0.out (ji8) p344 q344;have hw344_7:=Ak;have hw344_6:=Aj;have hw344_5:=Ai;have hw344_4:=Ah;have hw344_3:=Ag;have hw344_2:=Af;have hw344_1:=Ae;have hw344_0:=Ad
          obtain rfl:Ay=Bc:=(by injection e344)
          obtain ⟨Ad,Ae,Af,Ag,Ah,Ai,Aj,Ak⟩:=hb8_ HB Ad Ae Af Ag Ah Ai Aj Ak;have Az:=ak hi344_5;have Ba:=ak hl344_5;clear hi344_5 hl344_5;replace p344:=eq_true p344;replace q344:=eq_true q344
          refine lw_ (fun w'=> el8 w' (Ay.add (((ji8)).toNat*8)) (.int .i64 ((rd_T61 l0 (ji8)).f0)) (.int .i64 ((rd_T61 l0 (ji8)).f1)) (.int .i64 ((rd_T61 l0 (ji8)).f2)) (.int .i64 ((rd_T61 l0 (ji8)).f3)) (.int .i64 ((rd_T61 l0 (ji8)).f4)) (.slice A344_5 ((rd_T61 l0 (ji8)).f5).length c344_5) (.int .i64 ((rd_T61 l0 (ji8)).f6)) (.bool ((rd_T61 l0 (ji8)).f7))) (hb8_ HB hw344_0 hw344_1 hw344_2 hw344_3 hw344_4 hw344_5 hw344_6 hw344_7) hHeld (fun hHeld=> ?_)
          refine pQ_ 7 HT_ ?_
          refine pQ_ 8 HT_ ?_
          refine pQ_ 9 HT_ ?_
          refine pQ_ 10 HT_ ?_
          refine take_ (i:=11) (N:=some 23) (v:=?_) (a':=?_) (bL 17 4095) rfl rfl (take_ofW HT_.out HW_.out (by kernel_rfl)) (fun _ _ _ h=> h) (Or.inl ⟨by rfl,?_⟩) hHeld ?_ ?_;rotate_left;(rintro w' ⟨s0,s1⟩;go_simp;with_reducible rfl);rotate_left;(exact put_q)
          refine take_ (i:=12) (N:=some 24) (v:=?_) (a':=?_) (bL 17 8191) rfl rfl (take_ofW HT_.out HW_.out (by kernel_rfl)) (fun _ _ _ h=> h) (Or.inl ⟨by rfl,?_⟩) hHeld ?_ ?_;rotate_left;(rintro w' ⟨s0,s1⟩;go_simp;with_reducible rfl);rotate_left;(exact put_q)
          refine one_ (i:=13) (N:=some 25) (bL 17 16383) rfl rfl (one_of HT_.out (by kernel_rfl)) (by decide) (fun K hK=> ?_)
          refine goes_ Try.func68 (by kernel_rfl) rfl #[.agg #[.int .i64 ((rd_T61 l0 (ji8)).f0),.int .i64 ((rd_T61 l0 (ji8)).f1),.int .i64 ((rd_T61 l0 (ji8)).f2),.int .i64 ((rd_T61 l0 (ji8)).f3),.int .i64 ((rd_T61 l0 (ji8)).f4),.slice A344_5 ((rd_T61 l0 (ji8)).f5).length c344_5,.int .i64 ((rd_T61 l0 (ji8)).f6),.bool ((rd_T61 l0 (ji8)).f7)],.agg #[.int .i64 ((rd_T61 l0 Aa).f0),.int .i64 ((rd_T61 l0 Aa).f1),.int .i64 ((rd_T61 l0 Aa).f2),.int .i64 ((rd_T61 l0 Aa).f3),.int .i64 ((rd_T61 l0 Aa).f4),.slice A341_5 ((rd_T61 l0 Aa).f5).length c341_5,.int .i64 ((rd_T61 l0 Aa).f6),.bool ((rd_T61 l0 Aa).f7)]] (by rfl) rfl rfl (by (try simp only [List.map_toArray,List.map_cons,List.map_nil]);first | done | (simp only [hji8];rfl) | rfl | (simp only [List.length_drop,List.length_take];rfl)) ?_
          with_reducible refine (impl_Before.calls ((rd_T61 l0 (ji8)).f0) ((rd_T61 l0 (ji8)).f1) ((rd_T61 l0 (ji8)).f2) ((rd_T61 l0 (ji8)).f3) ((rd_T61 l0 (ji8)).f4) _ _ ((rd_T61 l0 (ji8)).f5) ((rd_T61 l0 (ji8)).f6) ((rd_T61 l0 (ji8)).f7) ((rd_T61 l0 Aa).f0) ((rd_T61 l0 Aa).f1) ((rd_T61 l0 Aa).f2) ((rd_T61 l0 Aa).f3) ((rd_T61 l0 Aa).f4) _ _ ((rd_T61 l0 Aa).f5) ((rd_T61 l0 Aa).f6) ((rd_T61 l0 Aa).f7) Aw _ ?_ ?_ ?_ ?_ A11.out).mono ?_
          exact ch_ Az HB
          exact Ba.out
          exact ch_ Au HB
          exact Av.out
          rintro e w18 ⟨rfl,hb⟩
          refine ⟨_,rfl,?_⟩
          replace Ac:=bb_ Ac hb;replace HB:=hB_ HB hb
          refine hK.out _ _ ⟨hb8_ HB hw344_0 hw344_1 hw344_2 hw344_3 hw344_4 hw344_5 hw344_6 hw344_7,cz8_ Ac⟩ (fun hHeld=> ?_)
          clear hK K
          refine norm_ (a':=?_) ?_ ?_;rotate_left;(show Act.put _ (some 25) _=_;simp only [Act.put,List.setIfInBounds_toArray,List.set_cons_zero,List.set_cons_succ,i64_w,i32_w];rfl)
          refine pQ_ 14 HT_ ?_
          refine pQ_ 15 HT_ ?_
          refine pQ_ 16 HT_ ?_
          have H:=HZ11.out;clear HZ11
          by_cases c12:Aw=true
          ·subst c12;rw [if_pos rfl] at H;have H':=ak H;clear H
           refine done_ (done_of HT_.out (by kernel_rfl)) ?_
           try go_wp2
           go_roundg k1
           case measure=> have:=Ax.out;omega
           case rel=> exact ⟨(wrap64 (Aa+1)),rs_q,H',⟨by have:=Ax.out;omega⟩,⟨bw_q HB⟩⟩
          ·replace c12:=Bool.eq_false_iff.mpr c12;subst c12
           rw [if_neg (show ¬(false=true) by decide)] at H
           obtain rfl:=Option.some.inj H
           refine done_ (done_of HT_.out (by kernel_rfl)) ?_
           try go_wp2
           go_ret
           exact ⟨by first | rfl | (simp [errW_none,errW_some] <;> rfl) | (simp only [←hji8];first | rfl | (simp [errW_none,errW_some] <;> rfl)) | (simp [*,errW_none,errW_some] <;> rfl),bw_q HB⟩
         ·rw [if_neg c10] at H
          exact absurd H (by simp)
        ·rw [if_neg c9] at H
         exact absurd H (by simp)
       ·rw [if_neg c7] at H;have Al:=decide_eq_false c7
        (first | rw [Al] | (simp only [i64_w,i32_w];first | rw [Al]) | skip)
        clear c7;have H':=ak H;clear H
        refine pU_ 7 HT_ ?_
        refine pU_ 8 HT_ ?_
        refine pU_ 9 HT_ ?_
        refine pU_ 10 HT_ ?_
        refine pU_ 11 HT_ ?_
        refine pU_ 12 HT_ ?_
        refine pU_ 13 HT_ ?_
        refine pU_ 14 HT_ ?_
        refine pQ_ 15 HT_ ?_
        refine pQ_ 16 HT_ ?_
        refine done_ (done_of HT_.out (by kernel_rfl)) ?_
        try go_wp2
        go_roundg k1
        case measure=> have:=Ax.out;omega
        case rel=> exact ⟨(wrap64 (Aa+1)),rs_q,H',⟨by have:=Ax.out;omega⟩,⟨bw_q HB⟩⟩
      ·replace c6:=Bool.eq_false_iff.mpr c6;subst c6
       rw [if_neg (show ¬(false=true) by decide)] at H
       obtain rfl:=Option.some.inj H
       refine pU_ 4 HT_ ?_
       refine pU_ 5 HT_ ?_
       refine pU_ 6 HT_ ?_
       refine pU_ 7 HT_ ?_
       refine pU_ 8 HT_ ?_
       refine pU_ 9 HT_ ?_
       refine pU_ 10 HT_ ?_
       refine pU_ 11 HT_ ?_
       refine pU_ 12 HT_ ?_
       refine pU_ 13 HT_ ?_
       refine pU_ 14 HT_ ?_
       refine pU_ 15 HT_ ?_
       refine pQ_ 16 HT_ ?_
       refine done_ (done_of HT_.out (by kernel_rfl)) ?_
       try go_wp2
       go_ret
       exact ⟨er_q,bw_q HB⟩
     ·rw [if_neg c4] at H
      exact absurd H (by simp)
    ·rw [if_neg c3] at H
     exact absurd H (by simp)
   ·rw [if_neg c2] at H;have Bd:=decide_eq_false c2
    clear c2;obtain rfl:=Option.some.inj H
    go_wp2
    go_ret
    exact ⟨er_q,bw_q HB⟩

/-! ### impl_linkAt: function 124 -/
def impl_linkAt.l0:Nat→Int→Int→Int→List (S93)→Int→Int→Option (Int)
 | 0,_,_,_,_,_,_=> none
 | k+1,d,e,g,b,c,a=> if a<c then (if 0≤a then (if a<(b.length:Int) then (if ((rd_T93 b a).f3)=g then (if ((rd_T93 b a).f0)=d then (if ((rd_T93 b a).f1)=e then (some a) else (if ((rd_T93 b a).f0)=e then (if ((rd_T93 b a).f1)=d then (some a) else (impl_linkAt.l0 k d e g b c (wrap64 (a+1)))) else (impl_linkAt.l0 k d e g b c (wrap64 (a+1))))) else (if ((rd_T93 b a).f0)=e then (if ((rd_T93 b a).f1)=d then (some a) else (impl_linkAt.l0 k d e g b c (wrap64 (a+1)))) else (impl_linkAt.l0 k d e g b c (wrap64 (a+1))))) else (impl_linkAt.l0 k d e g b c (wrap64 (a+1)))) else (none)) else (none)) else (some (-1))
def impl_linkAt.f (k:Nat) (b:Int) (a:List (S93)) (c:List (S102)) (a1:Int) (a2:Int) (a3:Int):Option (Int):=impl_linkAt.l0 k a1 a2 a3 a (a.length:Int) 0
theorem impl_linkAt.mono_l:∀k,(∀y0 y1 y2 y3 y4 y5,LeO (impl_linkAt.l0 k y0 y1 y2 y3 y4 y5) (impl_linkAt.l0 (k+1) y0 y1 y2 y3 y4 y5))
 | 0=> fun _ _ _ _ _ _ r h=> by simp [impl_linkAt.l0] at h
 | k+1=> by
  have ih0:=impl_linkAt.mono_l k
  ·intro y0 y1 y2 y3 y4 y5
   unfold impl_linkAt.l0
   with_reducible repeat' (first | apply ih0 | exact LeO.refl _ | exact LeO.none _ | refine LeO.ite ?_ ?_ | refine LeO.bind ?_ (fun _=> ?_))
theorem impl_linkAt.mono:∀a0 a1 a2 a3 a4 a5 k,LeO (impl_linkAt.f k a0 a1 a2 a3 a4 a5) (impl_linkAt.f (k+1) a0 a1 a2 a3 a4 a5):=by
 intro a0 a1 a2 a3 a4 a5 k
 have ih0:=impl_linkAt.mono_l k
 unfold impl_linkAt.f
 with_reducible repeat' (first | apply ih0 | exact LeO.refl _ | exact LeO.none _ | refine LeO.ite ?_ ?_ | refine LeO.bind ?_ (fun _=> ?_))
set_option maxHeartbeats 8000000 in
set_option maxRecDepth 100000 in
theorem impl_linkAt.calls (k:Nat) (An:Int) (Az:Option Addr) (Ao:Nat) (Ab:List (S93)) (Ap:Option Addr) (Aq:Nat) (Am:List (S102)) (a1:Int) (a2:Int) (a3:Int) (r:Int) (w:World) (hr0_1:Kd.C k93 w Az Ab.length Ab) (hc0_1:Ab.length≤Ao) (hr0_2:Kd.C k102 w Ap Am.length Am) (hc0_2:Am.length≤Aq) (h:impl_linkAt.f k An Ab Am a1 a2 a3=some r):
  Calls Try.prog 124 #[.agg #[.int .i64 An,.slice Az Ab.length Ao,.slice Ap Am.length Aq],.int .i64 a1,.int .i64 a2,.int .i64 a3] w fun e w'=> e=.returned (.int .i64 r)∧Below w.heap.size w w':=by
 have hu31:=Try.underlying31;have hu93:=Try.underlying93;have Ar:=ak hr0_1;have Ds:=ak hc0_1;clear hr0_1 hc0_1;have Dt:=ak hr0_2;have Du:=ak hc0_2;clear hr0_2 hc0_2;have HB:=ak (Below.refl w.heap.size w);have H:=h
 clear h;unfold impl_linkAt.f at H;have H':=ak H;clear H
 go_enter Try.func124,Try.ntmps124
 go_wp2_with (first | ((with_reducible refine gate_dst (N:=4) rfl ?_);refine box_q 4 #[.int .i64 An,.slice Az Ab.length Ao,.slice Ap Am.length Aq] 31 ?_;intro As hg w5 hbox hb;have Ad:=ak (hbox);have Dv:=gs_ HB hg;replace HB:=hB_ HB hb;clear hb hbox hg;obtain ⟨Ba,Bb,Bc,Bd,Be,Bf⟩:=cf3_ Ad))
 go_loopg [14] k (fun kq v14 w'=> ∃(Aa:Int),v14=.int .i64 Aa∧Aside0 (impl_linkAt.l0 kq a1 a2 a3 Ab (Ab.length:Int) Aa=some r)∧Aside0 (kq≤k)∧Aside0 (w'.heap[As]? =some (.cells #[.int .i64 An,(.slice Az Ab.length Ao),(.slice Ap Am.length Aq)] 31 (0,0)))∧Aside0 (Below w.heap.size w w'))
 case atStart=> exact ⟨(0),rs_q,H',⟨Nat.le_refl _⟩,⟨bk_q Ad⟩,⟨bw_q HB⟩⟩
 case round=>
  clear H';(try clear c1);(try clear p2)
  try clear Ba Bb Bc
  try clear Bd Be Bf
  obtain ⟨Aa,rfl,HA,At,Ad,HB⟩:=hrel
  cases gk with
  | zero=> exact absurd HA.out (by simp [impl_linkAt.l0])
  | succ k1=>
   have H:=HA.out;clear HA
   simp only [impl_linkAt.l0] at H
   by_cases c7:Aa<(Ab.length:Int)
   ·rw [if_pos c7] at H;have Bv:=decide_eq_true c7;clear c7
    by_cases c8:0≤Aa
    ·rw [if_pos c8] at H;have Ei:=decide_eq_true c8;clear c8
     by_cases c9:Aa<(Ab.length:Int)
     ·rw [if_pos c9] at H;have Ej:=decide_eq_true c9;clear c9
      by_cases c10:((rd_T93 Ab Aa).f3)=a3
      ·rw [if_pos c10] at H;have Bl:=bqi c10;have Bm:=bnf c10;clear c10
       by_cases c11:((rd_T93 Ab Aa).f0)=a1
       ·rw [if_pos c11] at H;have Bn:=bqi c11;have Bo:=bnf c11;clear c11
        by_cases c12:((rd_T93 Ab Aa).f1)=a2
        ·rw [if_pos c12] at H;have Bp:=bqi c12;have Bq:=bnf c12
         clear c12;obtain rfl:=Option.some.inj H
         have p347:0≤(Aa:Int):=of_decide_eq_true as_q
         have q347:Aa<(Ab.length:Int):=of_decide_eq_true as_q
         obtain ⟨Al,e347,Ae,Af,Ag,Ah⟩:=at_T93 Ar.out Aa p347 q347
         cases e347
         obtain ⟨Ae,Af,Ag,Ah⟩:=hb4_ HB Ae Af Ag Ah;replace p347:=eq_true p347;replace q347:=eq_true q347
         go_wp2_with (first | ((with_reducible refine gate_dst (N:=10) rfl ?_);refine box_q 10 #[.int .i64 0,.int .i64 0,.int .i64 0,.int .i64 0] 93 ?_;intro Ac hg w13 hbox hb;have Ai:=ak (hbox);have Au:=gs_ HB hg;replace HB:=hB_ HB hb;have Aj:=nb_ Ad hg;have Ak:=nB_ Ad hg;replace Ad:=bb_ Ad hb;clear hb hbox hg;have Dw:=Ak.out;have Dx:=Aj.out;obtain ⟨Bw,Bx,By,Bz,Ca,Cb,Cc,Cd⟩:=cf4_ Ai))
         go_ret
         exact ⟨er_q,bw_q HB⟩
        ·rw [if_neg c12] at H;have Bp:=bqf c12;have Bq:=bni c12
         by_cases c16:((rd_T93 Ab Aa).f0)=a2
         ·rw [if_pos c16] at H;have Br:=bqi c16;have Bs:=bnf c16
          clear c16;have Bg:=ak H;clear H
          have p347:0≤(Aa:Int):=of_decide_eq_true as_q
          have q347:Aa<(Ab.length:Int):=of_decide_eq_true as_q
          obtain ⟨Al,e347,Ae,Af,Ag,Ah⟩:=at_T93 Ar.out Aa p347 q347
          cases e347
          obtain ⟨Ae,Af,Ag,Ah⟩:=hb4_ HB Ae Af Ag Ah;replace p347:=eq_true p347;replace q347:=eq_true q347
          go_upto_if 46 with (first | ((with_reducible refine gate_dst (N:=10) rfl ?_);refine box_q 10 #[.int .i64 0,.int .i64 0,.int .i64 0,.int .i64 0] 93 ?_;intro Ac hg w18 hbox hb;have Ai:=ak (hbox);have Au:=gs_ HB hg;replace HB:=hB_ HB hb;have Aj:=nb_ Ad hg;have Ak:=nB_ Ad hg;replace Ad:=bb_ Ad hb;clear hb hbox hg;have Dy:=Ak.out;have Dz:=Aj.out;obtain ⟨Ce,Cf,Cg,Ch,Ci,Cj,Ck,Cl⟩:=cf4_ Ai))
          have n0_:Aside0 (((((w18.setCell ⟨Ac,0,none⟩ (.int .i64 ((rd_T93 Ab Aa).f0))).setCell ⟨Ac,1,none⟩ (.int .i64 ((rd_T93 Ab Aa).f1))).setCell ⟨Ac,2,none⟩ (.int .i64 ((rd_T93 Ab Aa).f2))).setCell ⟨Ac,3,none⟩ (.int .i64 ((rd_T93 Ab Aa).f3))).heap[As]? =some (.cells #[.int .i64 An,.slice (some Al) Ab.length Ao,.slice Ap Am.length Aq] 31 (0,0))):=⟨bp_ Ad⟩
          have n1_:Aside0 (((((w18.setCell ⟨Ac,0,none⟩ (.int .i64 ((rd_T93 Ab Aa).f0))).setCell ⟨Ac,1,none⟩ (.int .i64 ((rd_T93 Ab Aa).f1))).setCell ⟨Ac,2,none⟩ (.int .i64 ((rd_T93 Ab Aa).f2))).setCell ⟨Ac,3,none⟩ (.int .i64 ((rd_T93 Ab Aa).f3))).heap[Ac]? =some (.cells #[.int .i64 ((rd_T93 Ab Aa).f0),.int .i64 ((rd_T93 Ab Aa).f1),.int .i64 ((rd_T93 Ab Aa).f2),.int .i64 ((rd_T93 Ab Aa).f3)] 93 (0,0))):=⟨bp_ Ai⟩
          have n2_:Aside0 (Below w.heap.size w ((((w18.setCell ⟨Ac,0,none⟩ (.int .i64 ((rd_T93 Ab Aa).f0))).setCell ⟨Ac,1,none⟩ (.int .i64 ((rd_T93 Ab Aa).f1))).setCell ⟨Ac,2,none⟩ (.int .i64 ((rd_T93 Ab Aa).f2))).setCell ⟨Ac,3,none⟩ (.int .i64 ((rd_T93 Ab Aa).f3)))):=⟨bw_q HB⟩
          (try clear Ad);(try clear Ai);(try clear HB)
          generalize ((((w18.setCell ⟨Ac,0,none⟩ (.int .i64 ((rd_T93 Ab Aa).f0))).setCell ⟨Ac,1,none⟩ (.int .i64 ((rd_T93 Ab Aa).f1))).setCell ⟨Ac,2,none⟩ (.int .i64 ((rd_T93 Ab Aa).f2))).setCell ⟨Ac,3,none⟩ (.int .i64 ((rd_T93 Ab Aa).f3)))=w21 at n0_ n1_ n2_ ⊢
          have Ad:=n0_;have Ai:=n1_;have HB:=n2_;clear n0_ n1_ n2_;(try clear Ae);(try clear Af);(try clear Ag);(try clear Ah);have H:=Bg.out;clear Bg
          by_cases c22:((rd_T93 Ab Aa).f1)=a1
          ·rw [if_pos c22] at H;have Av:=bqi c22;have Aw:=bnf c22;clear c22
           (first | rw [Av] | rw [Aw] | (simp only [i64_w,i32_w];first | rw [Av] | rw [Aw]) | skip)
           obtain rfl:=Option.some.inj H
           go_wp2
           go_ret
           exact ⟨er_q,bw_q HB⟩
          ·rw [if_neg c22] at H;have Av:=bqf c22;have Aw:=bni c22
           (first | rw [Av] | rw [Aw] | (simp only [i64_w,i32_w];first | rw [Av] | rw [Aw]) | skip)
           have H':=ak H;clear H
           go_wp2
           go_roundg k1
           case measure=> have:=At.out;omega
           case rel=> exact ⟨(wrap64 (Aa+1)),rs_q,H',⟨by have:=At.out;omega⟩,⟨bk_q Ad⟩,⟨bw_q HB⟩⟩
         ·rw [if_neg c16] at H;have Br:=bqf c16;have Bs:=bni c16;have Bh:=ak H;clear H
          have p347:0≤(Aa:Int):=of_decide_eq_true as_q
          have q347:Aa<(Ab.length:Int):=of_decide_eq_true as_q
          obtain ⟨Al,e347,Ae,Af,Ag,Ah⟩:=at_T93 Ar.out Aa p347 q347
          cases e347
          obtain ⟨Ae,Af,Ag,Ah⟩:=hb4_ HB Ae Af Ag Ah;replace p347:=eq_true p347;replace q347:=eq_true q347
          go_upto_if 46 with (first | ((with_reducible refine gate_dst (N:=10) rfl ?_);refine box_q 10 #[.int .i64 0,.int .i64 0,.int .i64 0,.int .i64 0] 93 ?_;intro Ac hg w24 hbox hb;have Ai:=ak (hbox);have Au:=gs_ HB hg;replace HB:=hB_ HB hb;have Aj:=nb_ Ad hg;have Ak:=nB_ Ad hg;replace Ad:=bb_ Ad hb;clear hb hbox hg;have Ea:=Ak.out;have Eb:=Aj.out;obtain ⟨Cm,Cn,Co,Cp,Cq,Cr,Cs,Ct⟩:=cf4_ Ai))
          have n0_:Aside0 (((((w24.setCell ⟨Ac,0,none⟩ (.int .i64 ((rd_T93 Ab Aa).f0))).setCell ⟨Ac,1,none⟩ (.int .i64 ((rd_T93 Ab Aa).f1))).setCell ⟨Ac,2,none⟩ (.int .i64 ((rd_T93 Ab Aa).f2))).setCell ⟨Ac,3,none⟩ (.int .i64 ((rd_T93 Ab Aa).f3))).heap[As]? =some (.cells #[.int .i64 An,.slice (some Al) Ab.length Ao,.slice Ap Am.length Aq] 31 (0,0))):=⟨bp_ Ad⟩
          have n1_:Aside0 (((((w24.setCell ⟨Ac,0,none⟩ (.int .i64 ((rd_T93 Ab Aa).f0))).setCell ⟨Ac,1,none⟩ (.int .i64 ((rd_T93 Ab Aa).f1))).setCell ⟨Ac,2,none⟩ (.int .i64 ((rd_T93 Ab Aa).f2))).setCell ⟨Ac,3,none⟩ (.int .i64 ((rd_T93 Ab Aa).f3))).heap[Ac]? =some (.cells #[.int .i64 ((rd_T93 Ab Aa).f0),.int .i64 ((rd_T93 Ab Aa).f1),.int .i64 ((rd_T93 Ab Aa).f2),.int .i64 ((rd_T93 Ab Aa).f3)] 93 (0,0))):=⟨bp_ Ai⟩
          have n2_:Aside0 (Below w.heap.size w ((((w24.setCell ⟨Ac,0,none⟩ (.int .i64 ((rd_T93 Ab Aa).f0))).setCell ⟨Ac,1,none⟩ (.int .i64 ((rd_T93 Ab Aa).f1))).setCell ⟨Ac,2,none⟩ (.int .i64 ((rd_T93 Ab Aa).f2))).setCell ⟨Ac,3,none⟩ (.int .i64 ((rd_T93 Ab Aa).f3)))):=⟨bw_q HB⟩
          (try clear Ad);(try clear Ai);(try clear HB)
          generalize ((((w24.setCell ⟨Ac,0,none⟩ (.int .i64 ((rd_T93 Ab Aa).f0))).setCell ⟨Ac,1,none⟩ (.int .i64 ((rd_T93 Ab Aa).f1))).setCell ⟨Ac,2,none⟩ (.int .i64 ((rd_T93 Ab Aa).f2))).setCell ⟨Ac,3,none⟩ (.int .i64 ((rd_T93 Ab Aa).f3)))=w27 at n0_ n1_ n2_ ⊢
          have Ad:=n0_;have Ai:=n1_;have HB:=n2_;clear n0_ n1_ n2_;(try clear Ae);(try clear Af);(try clear Ag);(try clear Ah);have H:=Bh.out;clear Bh;have H':=ak H;clear H
          go_wp2
          go_roundg k1
          case measure=> have:=At.out;omega
          case rel=> exact ⟨(wrap64 (Aa+1)),rs_q,H',⟨by have:=At.out;omega⟩,⟨bk_q Ad⟩,⟨bw_q HB⟩⟩
       ·rw [if_neg c11] at H;have Bn:=bqf c11;have Bo:=bni c11
        by_cases c28:((rd_T93 Ab Aa).f0)=a2
        ·rw [if_pos c28] at H;have Bt:=bqi c28;have Bu:=bnf c28
         clear c28;have Bi:=ak H;clear H
         have p347:0≤(Aa:Int):=of_decide_eq_true as_q
         have q347:Aa<(Ab.length:Int):=of_decide_eq_true as_q
         obtain ⟨Al,e347,Ae,Af,Ag,Ah⟩:=at_T93 Ar.out Aa p347 q347
         cases e347
         obtain ⟨Ae,Af,Ag,Ah⟩:=hb4_ HB Ae Af Ag Ah;replace p347:=eq_true p347;replace q347:=eq_true q347
         go_upto_if 46 with (first | ((with_reducible refine gate_dst (N:=10) rfl ?_);refine box_q 10 #[.int .i64 0,.int .i64 0,.int .i64 0,.int .i64 0] 93 ?_;intro Ac hg w30 hbox hb;have Ai:=ak (hbox);have Au:=gs_ HB hg;replace HB:=hB_ HB hb;have Aj:=nb_ Ad hg;have Ak:=nB_ Ad hg;replace Ad:=bb_ Ad hb;clear hb hbox hg;have Ec:=Ak.out;have Ed:=Aj.out;obtain ⟨Cu,Cv,Cw,Cx,Cy,Cz,Da,Db⟩:=cf4_ Ai))
         have n0_:Aside0 (((((w30.setCell ⟨Ac,0,none⟩ (.int .i64 ((rd_T93 Ab Aa).f0))).setCell ⟨Ac,1,none⟩ (.int .i64 ((rd_T93 Ab Aa).f1))).setCell ⟨Ac,2,none⟩ (.int .i64 ((rd_T93 Ab Aa).f2))).setCell ⟨Ac,3,none⟩ (.int .i64 ((rd_T93 Ab Aa).f3))).heap[As]? =some (.cells #[.int .i64 An,.slice (some Al) Ab.length Ao,.slice Ap Am.length Aq] 31 (0,0))):=⟨bp_ Ad⟩
         have n1_:Aside0 (((((w30.setCell ⟨Ac,0,none⟩ (.int .i64 ((rd_T93 Ab Aa).f0))).setCell ⟨Ac,1,none⟩ (.int .i64 ((rd_T93 Ab Aa).f1))).setCell ⟨Ac,2,none⟩ (.int .i64 ((rd_T93 Ab Aa).f2))).setCell ⟨Ac,3,none⟩ (.int .i64 ((rd_T93 Ab Aa).f3))).heap[Ac]? =some (.cells #[.int .i64 ((rd_T93 Ab Aa).f0),.int .i64 ((rd_T93 Ab Aa).f1),.int .i64 ((rd_T93 Ab Aa).f2),.int .i64 ((rd_T93 Ab Aa).f3)] 93 (0,0))):=⟨bp_ Ai⟩
         have n2_:Aside0 (Below w.heap.size w ((((w30.setCell ⟨Ac,0,none⟩ (.int .i64 ((rd_T93 Ab Aa).f0))).setCell ⟨Ac,1,none⟩ (.int .i64 ((rd_T93 Ab Aa).f1))).setCell ⟨Ac,2,none⟩ (.int .i64 ((rd_T93 Ab Aa).f2))).setCell ⟨Ac,3,none⟩ (.int .i64 ((rd_T93 Ab Aa).f3)))):=⟨bw_q HB⟩
         (try clear Ad);(try clear Ai);(try clear HB)
         generalize ((((w30.setCell ⟨Ac,0,none⟩ (.int .i64 ((rd_T93 Ab Aa).f0))).setCell ⟨Ac,1,none⟩ (.int .i64 ((rd_T93 Ab Aa).f1))).setCell ⟨Ac,2,none⟩ (.int .i64 ((rd_T93 Ab Aa).f2))).setCell ⟨Ac,3,none⟩ (.int .i64 ((rd_T93 Ab Aa).f3)))=w33 at n0_ n1_ n2_ ⊢
         have Ad:=n0_;have Ai:=n1_;have HB:=n2_;clear n0_ n1_ n2_;(try clear Ae);(try clear Af);(try clear Ag);(try clear Ah);have H:=Bi.out;clear Bi
         by_cases c34:((rd_T93 Ab Aa).f1)=a1
         ·rw [if_pos c34] at H;have Ax:=bqi c34;have Ay:=bnf c34;clear c34
          (first | rw [Ax] | rw [Ay] | (simp only [i64_w,i32_w];first | rw [Ax] | rw [Ay]) | skip)
          obtain rfl:=Option.some.inj H
          go_wp2
          go_ret
          exact ⟨er_q,bw_q HB⟩
         ·rw [if_neg c34] at H;have Ax:=bqf c34;have Ay:=bni c34
          (first | rw [Ax] | rw [Ay] | (simp only [i64_w,i32_w];first | rw [Ax] | rw [Ay]) | skip)
          have H':=ak H;clear H
          go_wp2
          go_roundg k1
          case measure=> have:=At.out;omega
          case rel=> exact ⟨(wrap64 (Aa+1)),rs_q,H',⟨by have:=At.out;omega⟩,⟨bk_q Ad⟩,⟨bw_q HB⟩⟩
        ·rw [if_neg c28] at H;have Bt:=bqf c28;have Bu:=bni c28;have Bj:=ak H;clear H
         have p347:0≤(Aa:Int):=of_decide_eq_true as_q
         have q347:Aa<(Ab.length:Int):=of_decide_eq_true as_q
         obtain ⟨Al,e347,Ae,Af,Ag,Ah⟩:=at_T93 Ar.out Aa p347 q347
         cases e347
         obtain ⟨Ae,Af,Ag,Ah⟩:=hb4_ HB Ae Af Ag Ah;replace p347:=eq_true p347;replace q347:=eq_true q347
         go_upto_if 46 with (first | ((with_reducible refine gate_dst (N:=10) rfl ?_);refine box_q 10 #[.int .i64 0,.int .i64 0,.int .i64 0,.int .i64 0] 93 ?_;intro Ac hg w36 hbox hb;have Ai:=ak (hbox);have Au:=gs_ HB hg;replace HB:=hB_ HB hb;have Aj:=nb_ Ad hg;have Ak:=nB_ Ad hg;replace Ad:=bb_ Ad hb;clear hb hbox hg;have Ee:=Ak.out;have Ef:=Aj.out;obtain ⟨Dc,Dd,De,Df,Dg,Dh,Di,Dj⟩:=cf4_ Ai))
         have n0_:Aside0 (((((w36.setCell ⟨Ac,0,none⟩ (.int .i64 ((rd_T93 Ab Aa).f0))).setCell ⟨Ac,1,none⟩ (.int .i64 ((rd_T93 Ab Aa).f1))).setCell ⟨Ac,2,none⟩ (.int .i64 ((rd_T93 Ab Aa).f2))).setCell ⟨Ac,3,none⟩ (.int .i64 ((rd_T93 Ab Aa).f3))).heap[As]? =some (.cells #[.int .i64 An,.slice (some Al) Ab.length Ao,.slice Ap Am.length Aq] 31 (0,0))):=⟨bp_ Ad⟩
         have n1_:Aside0 (((((w36.setCell ⟨Ac,0,none⟩ (.int .i64 ((rd_T93 Ab Aa).f0))).setCell ⟨Ac,1,none⟩ (.int .i64 ((rd_T93 Ab Aa).f1))).setCell ⟨Ac,2,none⟩ (.int .i64 ((rd_T93 Ab Aa).f2))).setCell ⟨Ac,3,none⟩ (.int .i64 ((rd_T93 Ab Aa).f3))).heap[Ac]? =some (.cells #[.int .i64 ((rd_T93 Ab Aa).f0),.int .i64 ((rd_T93 Ab Aa).f1),.int .i64 ((rd_T93 Ab Aa).f2),.int .i64 ((rd_T93 Ab Aa).f3)] 93 (0,0))):=⟨bp_ Ai⟩
         have n2_:Aside0 (Below w.heap.size w ((((w36.setCell ⟨Ac,0,none⟩ (.int .i64 ((rd_T93 Ab Aa).f0))).setCell ⟨Ac,1,none⟩ (.int .i64 ((rd_T93 Ab Aa).f1))).setCell ⟨Ac,2,none⟩ (.int .i64 ((rd_T93 Ab Aa).f2))).setCell ⟨Ac,3,none⟩ (.int .i64 ((rd_T93 Ab Aa).f3)))):=⟨bw_q HB⟩
         (try clear Ad);(try clear Ai);(try clear HB)
         generalize ((((w36.setCell ⟨Ac,0,none⟩ (.int .i64 ((rd_T93 Ab Aa).f0))).setCell ⟨Ac,1,none⟩ (.int .i64 ((rd_T93 Ab Aa).f1))).setCell ⟨Ac,2,none⟩ (.int .i64 ((rd_T93 Ab Aa).f2))).setCell ⟨Ac,3,none⟩ (.int .i64 ((rd_T93 Ab Aa).f3)))=w39 at n0_ n1_ n2_ ⊢
         have Ad:=n0_;have Ai:=n1_;have HB:=n2_;clear n0_ n1_ n2_;(try clear Ae);(try clear Af);(try clear Ag);(try clear Ah);have H:=Bj.out;clear Bj;have H':=ak H;clear H
         go_wp2
         go_roundg k1
         case measure=> have:=At.out;omega
         case rel=> exact ⟨(wrap64 (Aa+1)),rs_q,H',⟨by have:=At.out;omega⟩,⟨bk_q Ad⟩,⟨bw_q HB⟩⟩
      ·rw [if_neg c10] at H;have Bl:=bqf c10;have Bm:=bni c10;have Bk:=ak H;clear H
       have p347:0≤(Aa:Int):=of_decide_eq_true as_q
       have q347:Aa<(Ab.length:Int):=of_decide_eq_true as_q
       obtain ⟨Al,e347,Ae,Af,Ag,Ah⟩:=at_T93 Ar.out Aa p347 q347
       cases e347
       obtain ⟨Ae,Af,Ag,Ah⟩:=hb4_ HB Ae Af Ag Ah;replace p347:=eq_true p347;replace q347:=eq_true q347
       go_upto_if 46 with (first | ((with_reducible refine gate_dst (N:=10) rfl ?_);refine box_q 10 #[.int .i64 0,.int .i64 0,.int .i64 0,.int .i64 0] 93 ?_;intro Ac hg w41 hbox hb;have Ai:=ak (hbox);have Au:=gs_ HB hg;replace HB:=hB_ HB hb;have Aj:=nb_ Ad hg;have Ak:=nB_ Ad hg;replace Ad:=bb_ Ad hb;clear hb hbox hg;have Eg:=Ak.out;have Eh:=Aj.out;obtain ⟨Dk,Dl,Dm,Dn,Do,Dp,Dq,Dr⟩:=cf4_ Ai))
       have n0_:Aside0 (((((w41.setCell ⟨Ac,0,none⟩ (.int .i64 ((rd_T93 Ab Aa).f0))).setCell ⟨Ac,1,none⟩ (.int .i64 ((rd_T93 Ab Aa).f1))).setCell ⟨Ac,2,none⟩ (.int .i64 ((rd_T93 Ab Aa).f2))).setCell ⟨Ac,3,none⟩ (.int .i64 ((rd_T93 Ab Aa).f3))).heap[As]? =some (.cells #[.int .i64 An,.slice (some Al) Ab.length Ao,.slice Ap Am.length Aq] 31 (0,0))):=⟨bp_ Ad⟩
       have n1_:Aside0 (((((w41.setCell ⟨Ac,0,none⟩ (.int .i64 ((rd_T93 Ab Aa).f0))).setCell ⟨Ac,1,none⟩ (.int .i64 ((rd_T93 Ab Aa).f1))).setCell ⟨Ac,2,none⟩ (.int .i64 ((rd_T93 Ab Aa).f2))).setCell ⟨Ac,3,none⟩ (.int .i64 ((rd_T93 Ab Aa).f3))).heap[Ac]? =some (.cells #[.int .i64 ((rd_T93 Ab Aa).f0),.int .i64 ((rd_T93 Ab Aa).f1),.int .i64 ((rd_T93 Ab Aa).f2),.int .i64 ((rd_T93 Ab Aa).f3)] 93 (0,0))):=⟨bp_ Ai⟩
       have n2_:Aside0 (Below w.heap.size w ((((w41.setCell ⟨Ac,0,none⟩ (.int .i64 ((rd_T93 Ab Aa).f0))).setCell ⟨Ac,1,none⟩ (.int .i64 ((rd_T93 Ab Aa).f1))).setCell ⟨Ac,2,none⟩ (.int .i64 ((rd_T93 Ab Aa).f2))).setCell ⟨Ac,3,none⟩ (.int .i64 ((rd_T93 Ab Aa).f3)))):=⟨bw_q HB⟩
       (try clear Ad);(try clear Ai);(try clear HB)
       generalize ((((w41.setCell ⟨Ac,0,none⟩ (.int .i64 ((rd_T93 Ab Aa).f0))).setCell ⟨Ac,1,none⟩ (.int .i64 ((rd_T93 Ab Aa).f1))).setCell ⟨Ac,2,none⟩ (.int .i64 ((rd_T93 Ab Aa).f2))).setCell ⟨Ac,3,none⟩ (.int .i64 ((rd_T93 Ab Aa).f3)))=w44 at n0_ n1_ n2_ ⊢
       have Ad:=n0_;have Ai:=n1_;have HB:=n2_;clear n0_ n1_ n2_;(try clear Ae);(try clear Af);(try clear Ag);(try clear Ah);have H:=Bk.out;clear Bk;have H':=ak H;clear H
       go_wp2
       go_roundg k1
       case measure=> have:=At.out;omega
       case rel=> exact ⟨(wrap64 (Aa+1)),rs_q,H',⟨by have:=At.out;omega⟩,⟨bk_q Ad⟩,⟨bw_q HB⟩⟩
     ·rw [if_neg c9] at H
      exact absurd H (by simp)
    ·rw [if_neg c8] at H
     exact absurd H (by simp)
   ·rw [if_neg c7] at H;have Bv:=decide_eq_false c7
    clear c7;obtain rfl:=Option.some.inj H
    go_wp2
    go_ret
    exact ⟨er_q,bw_q HB⟩

/-! ### impl_heardOk: function 90 -/
def impl_heardOk.l0:Nat→Int→Int→Int→Int→List (S93)→List (S102)→List Int→List (S61)→Option (Bool)
 | 0,_,_,_,_,_,_,_,_=> none
 | k+1,b,c,h,d,e,g,a,i=> if b<(a.length:Int) then (if 0≤b then (if 0≤(wrap64 (b+1)) then (if (wrap64 (b+1))<(a.length:Int) then ((impl_linkAt.f k d e g c (rd a b) (rd a (wrap64 (b+1)))).bind fun j=> (if j<0 then (some false) else (if b > 0 then (if 0≤(wrap64 (b-2)) then (if (wrap64 (b-2))<(a.length:Int) then (if (rd a (wrap64 (b-2))) > (rd a b) then (some false) else (if (rd a (wrap64 (b-2)))=(rd a b) then (if 0≤(wrap64 (b-1)) then (if (wrap64 (b-1))<(a.length:Int) then (if (rd a (wrap64 (b-1)))≥(rd a (wrap64 (b+1))) then (some false) else (impl_heardOk.l0 k (wrap64 (b+2)) c h d e g a i)) else (none)) else (none)) else (impl_heardOk.l0 k (wrap64 (b+2)) c h d e g a i))) else (none)) else (none)) else (impl_heardOk.l0 k (wrap64 (b+2)) c h d e g a i)))) else (none)) else (none)) else (none)) else (some true)
def impl_heardOk.f (k:Nat) (b:Int) (c:Int) (d:Int) (e:List (S93)) (g:List (S102)) (a:List Int) (h:List (S61)):Option (Bool):=if ((a.length:Int) % 2)=0 then (impl_heardOk.l0 k 0 b c d e g a h) else (some false)
theorem impl_heardOk.mono_l:∀k,(∀y0 y1 y2 y3 y4 y5 y6 y7,LeO (impl_heardOk.l0 k y0 y1 y2 y3 y4 y5 y6 y7) (impl_heardOk.l0 (k+1) y0 y1 y2 y3 y4 y5 y6 y7))
 | 0=> fun _ _ _ _ _ _ _ _ r h=> by simp [impl_heardOk.l0] at h
 | k+1=> by
  have ih0:=impl_heardOk.mono_l k
  ·intro y0 y1 y2 y3 y4 y5 y6 y7
   unfold impl_heardOk.l0
   with_reducible repeat' (first | apply ih0 | apply impl_linkAt.mono | exact LeO.refl _ | exact LeO.none _ | refine LeO.ite ?_ ?_ | refine LeO.bind ?_ (fun _=> ?_))
theorem impl_heardOk.mono:∀a0 a1 a2 a3 a4 a5 a6 k,LeO (impl_heardOk.f k a0 a1 a2 a3 a4 a5 a6) (impl_heardOk.f (k+1) a0 a1 a2 a3 a4 a5 a6):=by
 intro a0 a1 a2 a3 a4 a5 a6 k
 have ih0:=impl_heardOk.mono_l k
 unfold impl_heardOk.f
 with_reducible repeat' (first | apply ih0 | apply impl_linkAt.mono | exact LeO.refl _ | exact LeO.none _ | refine LeO.ite ?_ ?_ | refine LeO.bind ?_ (fun _=> ?_))
set_option maxHeartbeats 8000000 in
set_option maxRecDepth 100000 in
theorem impl_heardOk.calls (k:Nat) (Ag:Int) (Aj:Int) (Ah:Int) (Aq:Option Addr) (Ar:Nat) (Ad:List (S93)) (As:Option Addr) (At:Nat) (Ae:List (S102)) (Au:Option Addr) (Av:Nat) (Aa:List Int) (Aw:Option Addr) (Ax:Nat) (Ai:List (S61)) (r:Bool) (w:World) (hr0_3:Kd.C k93 w Aq Ad.length Ad) (hc0_3:Ad.length≤Ar) (hr0_4:Kd.C k102 w As Ae.length Ae) (hc0_4:Ae.length≤At) (hr0_5:Kd.C (Kd.int .i64) w Au Aa.length Aa) (hc0_5:Aa.length≤Av) (hr0_6:Kd.C k61 w Aw Ai.length Ai) (hc0_6:Ai.length≤Ax) (h:impl_heardOk.f k Ag Aj Ah Ad Ae Aa Ai=some r):
  Calls Try.prog 90 #[.agg #[.int .i64 Ag,.int .i64 Aj,.int .i64 Ah,.slice Aq Ad.length Ar,.slice As Ae.length At,.slice Au Aa.length Av,.slice Aw Ai.length Ax]] w fun e w'=> e=.returned (.bool r)∧Below w.heap.size w w':=by
 have hu43:=Try.underlying43;have hu31:=Try.underlying31;have Bt:=ak hr0_3;have Bu:=ak hc0_3;clear hr0_3 hc0_3;have Bv:=ak hr0_4;have Bw:=ak hc0_4;clear hr0_4 hc0_4;have Al:=ak hr0_5;have Ff:=ak hc0_5;clear hr0_5 hc0_5;have Fg:=ak hr0_6;have Fh:=ak hc0_6;clear hr0_6 hc0_6;have HB:=ak (Below.refl w.heap.size w);have H:=h
 clear h;unfold impl_heardOk.f at H;have Cl:=ak H;clear H
 go_enter Try.func90,Try.ntmps90
 go_upto_if 10 with (first | ((with_reducible refine gate_dst (N:=1) rfl ?_);refine box_q 1 #[.int .i64 Ag,.int .i64 Aj,.int .i64 Ah,.slice Aq Ad.length Ar,.slice As Ae.length At,.slice Au Aa.length Av,.slice Aw Ai.length Ax] 43 ?_;intro Bx hg w3 hbox hb;have Ac:=ak (hbox);have Cb:=gs_ HB hg;replace HB:=hB_ HB hb;clear hb hbox hg;obtain ⟨Be,Bf,Bg,Bh,Bi,Bj,Bk,Bl,Bm,Bn,Bo,Bp,Bq,Br⟩:=cf7_ Ac))
 repeat (go_quiet (first | ((with_reducible refine gate_dst (N:=1) rfl ?_);refine box_q 1 #[.int .i64 Ag,.int .i64 Aj,.int .i64 Ah,.slice Aq Ad.length Ar,.slice As Ae.length At,.slice Au Aa.length Av,.slice Aw Ai.length Ax] 43 ?_;intro Bx hg w3 hbox hb;have Ac:=ak (hbox);have Cb:=gs_ HB hg;replace HB:=hB_ HB hb;clear hb hbox hg;obtain ⟨Be,Bf,Bg,Bh,Bi,Bj,Bk,Bl,Bm,Bn,Bo,Bp,Bq,Br⟩:=cf7_ Ac));go_upto_if 10 with (first | ((with_reducible refine gate_dst (N:=1) rfl ?_);refine box_q 1 #[.int .i64 Ag,.int .i64 Aj,.int .i64 Ah,.slice Aq Ad.length Ar,.slice As Ae.length At,.slice Au Aa.length Av,.slice Aw Ai.length Ax] 43 ?_;intro Bx hg w3 hbox hb;have Ac:=ak (hbox);have Cb:=gs_ HB hg;replace HB:=hB_ HB hb;clear hb hbox hg;obtain ⟨Be,Bf,Bg,Bh,Bi,Bj,Bk,Bl,Bm,Bn,Bo,Bp,Bq,Br⟩:=cf7_ Ac)))
 have H:=Cl.out;clear Cl
 by_cases c5:((Aa.length:Int) % 2)=0
 ·rw [if_pos c5] at H;have Ay:=bqi c5;have Az:=bnf c5;clear c5
  (first | rw [Ay] | rw [Az] | (simp only [i64_w,i32_w];first | rw [Ay] | rw [Az]) | skip)
  have H':=ak H;clear H
  go_wp2
  repeat (go_quiet (fail);try go_wp2)
  go_loopg [3] k (fun kq v3 w'=> ∃(Ab:Int),v3=.int .i64 Ab∧Aside0 (impl_heardOk.l0 kq Ab Ag Aj Ah Ad Ae Aa Ai=some r)∧Aside0 (kq≤k)∧Aside0 (w'.heap[Bx]? =some (.cells #[.int .i64 Ag,.int .i64 Aj,.int .i64 Ah,(.slice Aq Ad.length Ar),(.slice As Ae.length At),(.slice Au Aa.length Av),(.slice Aw Ai.length Ax)] 43 (0,0)))∧Aside0 (Below w.heap.size w w'))
  case atStart=> exact ⟨(0),rs_q,H',⟨Nat.le_refl _⟩,⟨bk_q Ac⟩,⟨bw_q HB⟩⟩
  case round=>
   clear H';(try clear p2);(try clear c5);(try clear Ay);(try clear Az)
   try clear Be Bf Bg Bh Bi Bj Bk
   try clear Bl Bm Bn Bo Bp Bq Br
   obtain ⟨Ab,rfl,HA,Bs,Ac,HB⟩:=hrel
   cases gk with
   | zero=> exact absurd HA.out (by simp [impl_heardOk.l0])
   | succ k1=>
    have H:=HA.out;clear HA
    simp only [impl_heardOk.l0] at H
    by_cases c6:Ab<(Aa.length:Int)
    ·rw [if_pos c6] at H;have Cm:=decide_eq_true c6;clear c6
     by_cases c7:0≤Ab
     ·rw [if_pos c7] at H;have Fn:=decide_eq_true c7
      clear c7;obtain ⟨ji8,hji8⟩:∃j_:Int,(wrap64 (Ab+1))=j_:=⟨_,rfl⟩
      replace H:(if 0≤(ji8) then (if (ji8)<(Aa.length:Int) then ((impl_linkAt.f k1 Ah Ad Ae Ag (rd Aa Ab) (rd Aa (ji8))).bind fun Ba=> (if Ba<0 then (some false) else (if Ab > 0 then (if 0≤(wrap64 (Ab-2)) then (if (wrap64 (Ab-2))<(Aa.length:Int) then (if (rd Aa (wrap64 (Ab-2))) > (rd Aa Ab) then (some false) else (if (rd Aa (wrap64 (Ab-2)))=(rd Aa Ab) then (if 0≤(wrap64 (Ab-1)) then (if (wrap64 (Ab-1))<(Aa.length:Int) then (if (rd Aa (wrap64 (Ab-1)))≥(rd Aa (ji8)) then (some false) else (impl_heardOk.l0 k1 (wrap64 (Ab+2)) Ag Aj Ah Ad Ae Aa Ai)) else (none)) else (none)) else (impl_heardOk.l0 k1 (wrap64 (Ab+2)) Ag Aj Ah Ad Ae Aa Ai))) else (none)) else (none)) else (impl_heardOk.l0 k1 (wrap64 (Ab+2)) Ag Aj Ah Ad Ae Aa Ai)))) else (none)) else (none))=some r:=by first | (rw [hji8] at H;exact H) | (simp only [hji8] at H ⊢;exact H)
      have hji8w:(IntKind.i64.wrap (Ab+1))=ji8:=(i64_w _).trans hji8
      by_cases c9:0≤(ji8)
      ·rw [if_pos c9] at H;have Fo:=decide_eq_true c9;clear c9
       by_cases c10:(ji8)<(Aa.length:Int)
       ·rw [if_pos c10] at H;have Fi:=decide_eq_true c10
        clear c10;replace H:=bsi H;obtain ⟨Ba,A110,H⟩:=H
        (try dsimp only at H)
        have A11:=ak A110;clear A110;have Cc:=ak H;clear H;obtain ⟨Cn,Co,Cp,Cq,Cr,Cs,Ct,Cu,Cv,Cw,Cx,Cy,Cz,Da⟩:=cf7_ Ac
        have p350:0≤(Ab:Int):=of_decide_eq_true as_q
        have q350:Ab<(Aa.length:Int):=of_decide_eq_true as_q
        obtain ⟨Am,e350,Bb⟩:=Kd.at_int Al.out Ab p350 q350
        cases e350
        replace Bb:=hbc HB Bb;replace p350:=eq_true p350;replace q350:=eq_true q350
        have p351:0≤((ji8):Int):=of_decide_eq_true as_q
        have q351:(ji8)<(Aa.length:Int):=of_decide_eq_true as_q
        obtain ⟨Cf,e351,Bc⟩:=Kd.at_int Al.out (ji8) p351 q351
        obtain rfl:Am=Cf:=(by injection e351)
        replace Bc:=hbc HB Bc;replace p351:=eq_true p351;replace q351:=eq_true q351
        go_upto_if 36 with (first | (go_at_call 124;(with_reducible refine (impl_linkAt.calls k1 Ah _ _ Ad _ _ Ae Ag (rd Aa Ab) (rd Aa (ji8)) Ba _ ?_ ?_ ?_ ?_ A11.out).mono ?_);exact ch_ Bt HB;exact Bu.out;exact ch_ Bv HB;exact Bw.out;rintro e w14 ⟨rfl,hb⟩;replace Ac:=bb_ Ac hb;replace HB:=hB_ HB hb))
        repeat (go_quiet (first | (go_at_call 124;(with_reducible refine (impl_linkAt.calls k1 Ah _ _ Ad _ _ Ae Ag (rd Aa Ab) (rd Aa (ji8)) Ba _ ?_ ?_ ?_ ?_ A11.out).mono ?_);exact ch_ Bt HB;exact Bu.out;exact ch_ Bv HB;exact Bw.out;rintro e w14 ⟨rfl,hb⟩;replace Ac:=bb_ Ac hb;replace HB:=hB_ HB hb));go_upto_if 36 with (first | (go_at_call 124;(with_reducible refine (impl_linkAt.calls k1 Ah _ _ Ad _ _ Ae Ag (rd Aa Ab) (rd Aa (ji8)) Ba _ ?_ ?_ ?_ ?_ A11.out).mono ?_);exact ch_ Bt HB;exact Bu.out;exact ch_ Bv HB;exact Bw.out;rintro e w14 ⟨rfl,hb⟩;replace Ac:=bb_ Ac hb;replace HB:=hB_ HB hb)))
        (try clear Bb);(try clear Bc);have H:=Cc.out;clear Cc
        by_cases c15:Ba<0
        ·rw [if_pos c15] at H;have An:=decide_eq_true c15;clear c15
         (first | rw [An] | rw [By] | (simp only [i64_w,i32_w];first | rw [An] | rw [By]) | skip)
         obtain rfl:=Option.some.inj H
         go_wp2
         repeat (go_quiet (fail);try go_wp2)
         go_ret
         exact ⟨by first | rfl | (simp [errW_none,errW_some] <;> rfl) | (simp only [←hji8];first | rfl | (simp [errW_none,errW_some] <;> rfl)) | (simp [*,errW_none,errW_some] <;> rfl),bw_q HB⟩
        ·rw [if_neg c15] at H;have An:=decide_eq_false c15;clear c15
         (first | rw [An] | rw [By] | (simp only [i64_w,i32_w];first | rw [An] | rw [By]) | skip)
         by_cases c16:Ab > 0
         ·rw [if_pos c16] at H;have Cg:=decide_eq_true c16
          clear c16;obtain ⟨ji17,hji17⟩:∃j_:Int,(wrap64 (Ab-2))=j_:=⟨_,rfl⟩
          replace H:(if 0≤(ji17) then (if (ji17)<(Aa.length:Int) then (if (rd Aa (ji17)) > (rd Aa Ab) then (some false) else (if (rd Aa (ji17))=(rd Aa Ab) then (if 0≤(wrap64 (Ab-1)) then (if (wrap64 (Ab-1))<(Aa.length:Int) then (if (rd Aa (wrap64 (Ab-1)))≥(rd Aa (ji8)) then (some false) else (impl_heardOk.l0 k1 (wrap64 (Ab+2)) Ag Aj Ah Ad Ae Aa Ai)) else (none)) else (none)) else (impl_heardOk.l0 k1 (wrap64 (Ab+2)) Ag Aj Ah Ad Ae Aa Ai))) else (none)) else (none))=some r:=by first | (rw [hji17] at H;exact H) | (simp only [hji17] at H ⊢;exact H)
          have hji17w:(IntKind.i64.wrap (Ab-2))=ji17:=(i64_w _).trans hji17
          by_cases c18:0≤(ji17)
          ·rw [if_pos c18] at H;have Fj:=decide_eq_true c18;clear c18
           by_cases c19:(ji17)<(Aa.length:Int)
           ·rw [if_pos c19] at H;have Fk:=decide_eq_true c19;clear c19
            by_cases c20:(rd Aa (ji17)) > (rd Aa Ab)
            ·rw [if_pos c20] at H;have Ch:=decide_eq_true c20
             clear c20;obtain rfl:=Option.some.inj H;obtain ⟨Db,Dc,Dd,De,Df,Dg,Dh,Di,Dj,Dk,Dl,Dm,Dn,Do⟩:=cf7_ Ac
             have p353:0≤((ji17):Int):=of_decide_eq_true as_q
             have q353:(ji17)<(Aa.length:Int):=of_decide_eq_true as_q
             obtain ⟨Ao,e353,Af⟩:=Kd.at_int Al.out (ji17) p353 q353
             obtain rfl:Am=Ao:=(by injection e353)
             replace Af:=hbc HB Af;replace p353:=eq_true p353;replace q353:=eq_true q353
             go_wp2
             repeat (go_quiet (fail);try go_wp2)
             go_ret
             exact ⟨by first | rfl | (simp [errW_none,errW_some] <;> rfl) | (simp only [←hji8,←hji17];first | rfl | (simp [errW_none,errW_some] <;> rfl)) | (simp [*,errW_none,errW_some] <;> rfl),bw_q HB⟩
            ·rw [if_neg c20] at H;have Ch:=decide_eq_false c20;clear c20
             by_cases c22:(rd Aa (ji17))=(rd Aa Ab)
             ·rw [if_pos c22] at H;have Ci:=bqi c22;have Cj:=bnf c22
              clear c22;obtain ⟨ji23,hji23⟩:∃j_:Int,(wrap64 (Ab-1))=j_:=⟨_,rfl⟩
              replace H:(if 0≤(ji23) then (if (ji23)<(Aa.length:Int) then (if (rd Aa (ji23))≥(rd Aa (ji8)) then (some false) else (impl_heardOk.l0 k1 (wrap64 (Ab+2)) Ag Aj Ah Ad Ae Aa Ai)) else (none)) else (none))=some r:=by first | (rw [hji23] at H;exact H) | (simp only [hji23] at H ⊢;exact H)
              have hji23w:(IntKind.i64.wrap (Ab-1))=ji23:=(i64_w _).trans hji23
              by_cases c24:0≤(ji23)
              ·rw [if_pos c24] at H;have Fl:=decide_eq_true c24;clear c24
               by_cases c25:(ji23)<(Aa.length:Int)
               ·rw [if_pos c25] at H;have Fm:=decide_eq_true c25
                clear c25;have Cd:=ak H;clear H;obtain ⟨Dp,Dq,Dr,Ds,Dt,Du,Dv,Dw,Dx,Dy,Dz,Ea,Eb,Ec⟩:=cf7_ Ac
                have p353:0≤((ji17):Int):=of_decide_eq_true as_q
                have q353:(ji17)<(Aa.length:Int):=of_decide_eq_true as_q
                obtain ⟨Ao,e353,Af⟩:=Kd.at_int Al.out (ji17) p353 q353
                obtain rfl:Am=Ao:=(by injection e353)
                replace Af:=hbc HB Af;replace p353:=eq_true p353;replace q353:=eq_true q353
                have p354:0≤((ji17):Int):=of_decide_eq_true as_q
                have q354:(ji17)<(Aa.length:Int):=of_decide_eq_true as_q
                obtain ⟨Bz,e354,Ak⟩:=Kd.at_int Al.out (ji17) p354 q354
                obtain rfl:Am=Bz:=(by injection e354)
                replace Ak:=hbc HB Ak;replace p354:=eq_true p354;replace q354:=eq_true q354
                have p355:0≤((ji23):Int):=of_decide_eq_true as_q
                have q355:(ji23)<(Aa.length:Int):=of_decide_eq_true as_q
                obtain ⟨Ck,e355,Bd⟩:=Kd.at_int Al.out (ji23) p355 q355
                obtain rfl:Am=Ck:=(by injection e355)
                replace Bd:=hbc HB Bd;replace p355:=eq_true p355;replace q355:=eq_true q355
                go_upto_if 68 with (fail)
                repeat (go_quiet (fail);go_upto_if 68 with (fail))
                (try clear Af);(try clear Ak);(try clear Bd);have H:=Cd.out;clear Cd
                by_cases c28:(rd Aa (ji23))≥(rd Aa (ji8))
                ·rw [if_pos c28] at H;have Ap:=decide_eq_true c28;clear c28
                 (first | rw [Ap] | rw [Ca] | (simp only [i64_w,i32_w];first | rw [Ap] | rw [Ca]) | skip)
                 obtain rfl:=Option.some.inj H
                 go_wp2
                 repeat (go_quiet (fail);try go_wp2)
                 go_ret
                 exact ⟨by first | rfl | (simp [errW_none,errW_some] <;> rfl) | (simp only [←hji8,←hji17,←hji23];first | rfl | (simp [errW_none,errW_some] <;> rfl)) | (simp [*,errW_none,errW_some] <;> rfl),bw_q HB⟩
                ·rw [if_neg c28] at H;have Ap:=decide_eq_false c28;clear c28
                 (first | rw [Ap] | rw [Ca] | (simp only [i64_w,i32_w];first | rw [Ap] | rw [Ca]) | skip)
                 have H':=ak H;clear H
                 go_wp2
                 repeat (go_quiet (fail);try go_wp2)
                 go_roundg k1
                 case measure=> have:=Bs.out;omega
                 case rel=> exact ⟨(wrap64 (Ab+2)),rs_q,H',⟨by have:=Bs.out;omega⟩,⟨bk_q Ac⟩,⟨bw_q HB⟩⟩
               ·rw [if_neg c25] at H
                exact absurd H (by simp)
              ·rw [if_neg c24] at H
               exact absurd H (by simp)
             ·rw [if_neg c22] at H;have Ci:=bqf c22;have Cj:=bni c22;have Ce:=ak H;clear H;obtain ⟨Ed,Ee,Ef,Eg,Eh,Ei,Ej,Ek,El,Em,En,Eo,Ep,Eq⟩:=cf7_ Ac
              have p353:0≤((ji17):Int):=of_decide_eq_true as_q
              have q353:(ji17)<(Aa.length:Int):=of_decide_eq_true as_q
              obtain ⟨Ao,e353,Af⟩:=Kd.at_int Al.out (ji17) p353 q353
              obtain rfl:Am=Ao:=(by injection e353)
              replace Af:=hbc HB Af;replace p353:=eq_true p353;replace q353:=eq_true q353
              have p354:0≤((ji17):Int):=of_decide_eq_true as_q
              have q354:(ji17)<(Aa.length:Int):=of_decide_eq_true as_q
              obtain ⟨Bz,e354,Ak⟩:=Kd.at_int Al.out (ji17) p354 q354
              obtain rfl:Am=Bz:=(by injection e354)
              replace Ak:=hbc HB Ak;replace p354:=eq_true p354;replace q354:=eq_true q354
              go_upto_if 68 with (fail)
              repeat (go_quiet (fail);go_upto_if 68 with (fail))
              (try clear Af);(try clear Ak);have H:=Ce.out;clear Ce;have H':=ak H;clear H
              go_wp2
              repeat (go_quiet (fail);try go_wp2)
              go_roundg k1
              case measure=> have:=Bs.out;omega
              case rel=> exact ⟨(wrap64 (Ab+2)),rs_q,H',⟨by have:=Bs.out;omega⟩,⟨bk_q Ac⟩,⟨bw_q HB⟩⟩
           ·rw [if_neg c19] at H
            exact absurd H (by simp)
          ·rw [if_neg c18] at H
           exact absurd H (by simp)
         ·rw [if_neg c16] at H;have Cg:=decide_eq_false c16
          clear c16;have H':=ak H;clear H
          go_wp2
          repeat (go_quiet (fail);try go_wp2)
          go_roundg k1
          case measure=> have:=Bs.out;omega
          case rel=> exact ⟨(wrap64 (Ab+2)),rs_q,H',⟨by have:=Bs.out;omega⟩,⟨bk_q Ac⟩,⟨bw_q HB⟩⟩
       ·rw [if_neg c10] at H
        exact absurd H (by simp)
      ·rw [if_neg c9] at H
       exact absurd H (by simp)
     ·rw [if_neg c7] at H
      exact absurd H (by simp)
    ·rw [if_neg c6] at H;have Cm:=decide_eq_false c6
     clear c6;obtain rfl:=Option.some.inj H;obtain ⟨Er,Es,Et,Eu,Ev,Ew,Ex,Ey,Ez,Fa,Fb,Fc,Fd,Fe⟩:=cf7_ Ac
     go_wp2
     repeat (go_quiet (fail);try go_wp2)
     go_ret
     exact ⟨er_q,bw_q HB⟩
 ·rw [if_neg c5] at H;have Ay:=bqf c5;have Az:=bni c5
  (first | rw [Ay] | rw [Az] | (simp only [i64_w,i32_w];first | rw [Ay] | rw [Az]) | skip)
  obtain rfl:=Option.some.inj H
  go_wp2
  repeat (go_quiet (fail);try go_wp2)
  go_ret
  exact ⟨er_q,bw_q HB⟩

/-! ### impl_SelfOk: function 23 -/
def impl_SelfOk.f (k:Nat) (b:Int) (c:Int) (a:Int) (d:List (S93)) (e:List (S102)) (h:List Int) (g:List (S61)):Option (Bool):=(impl_NetOk.f k a d e).bind fun i=> (if i=true then ((impl_in.f b 1 a).bind fun j=> (if j=true then ((impl_in.f c 0 90).bind fun l=> (if l=true then ((impl_heardOk.f k b c a d e h g).bind fun m=> (if m=true then ((impl_StoreOk.f k g).bind fun n=> (some n)) else (some false))) else (some false))) else (some false))) else (some false))
theorem impl_SelfOk.mono:∀a0 a1 a2 a3 a4 a5 a6 k,LeO (impl_SelfOk.f k a0 a1 a2 a3 a4 a5 a6) (impl_SelfOk.f (k+1) a0 a1 a2 a3 a4 a5 a6):=by
 intro a0 a1 a2 a3 a4 a5 a6 k
 unfold impl_SelfOk.f
 with_reducible repeat' (first | apply impl_NetOk.mono | apply impl_StoreOk.mono | apply impl_heardOk.mono | exact LeO.refl _ | exact LeO.none _ | refine LeO.ite ?_ ?_ | refine LeO.bind ?_ (fun _=> ?_))
set_option maxHeartbeats 8000000 in
set_option maxRecDepth 100000 in
theorem impl_SelfOk.calls (k:Nat) (Ae:Int) (Ag:Int) (Ab:Int) (Ah:Option Addr) (Ai:Nat) (Ac:List (S93)) (Aj:Option Addr) (Ak:Nat) (Ad:List (S102)) (Aq:Option Addr) (Ar:Nat) (Al:List Int) (As:Option Addr) (At:Nat) (Af:List (S61)) (r:Bool) (w:World) (hr0_3:Kd.C k93 w Ah Ac.length Ac) (hc0_3:Ac.length≤Ai) (hr0_4:Kd.C k102 w Aj Ad.length Ad) (hc0_4:Ad.length≤Ak) (hr0_5:Kd.C (Kd.int .i64) w Aq Al.length Al) (hc0_5:Al.length≤Ar) (hr0_6:Kd.C k61 w As Af.length Af) (hc0_6:Af.length≤At) (h:impl_SelfOk.f k Ae Ag Ab Ac Ad Al Af=some r):
  Calls Try.prog 23 #[.agg #[.int .i64 Ae,.int .i64 Ag,.int .i64 Ab,.slice Ah Ac.length Ai,.slice Aj Ad.length Ak,.slice Aq Al.length Ar,.slice As Af.length At]] w fun e w'=> e=.returned (.bool r)∧Below w.heap.size w w':=by
 have hu43:=Try.underlying43;have hu31:=Try.underlying31;have Am:=ak hr0_3;have An:=ak hc0_3;clear hr0_3 hc0_3;have Ao:=ak hr0_4;have Ap:=ak hc0_4;clear hr0_4 hc0_4;have Ay:=ak hr0_5;have Az:=ak hc0_5;clear hr0_5 hc0_5;have Aw:=ak hr0_6;have Ax:=ak hc0_6;clear hr0_6 hc0_6;have HB:=ak (Below.refl w.heap.size w);have H:=h
 clear h;unfold impl_SelfOk.f at H;replace H:=bsi H;obtain ⟨Ba,A20,H⟩:=H
 (try dsimp only at H)
 have A2:=ak A20;clear A20
 by_cases c3:Ba=true
 ·subst c3;rw [if_pos rfl] at H;replace H:=bsi H;obtain ⟨Bb,A40,H⟩:=H
  (try dsimp only at H)
  have A4:=ak A40;clear A40
  by_cases c5:Bb=true
  ·subst c5;rw [if_pos rfl] at H;replace H:=bsi H;obtain ⟨Bc,A60,H⟩:=H
   (try dsimp only at H)
   have A6:=ak A60;clear A60
   by_cases c7:Bc=true
   ·subst c7;rw [if_pos rfl] at H;replace H:=bsi H;obtain ⟨Bd,A80,H⟩:=H
    (try dsimp only at H)
    have A8:=ak A80;clear A80
    by_cases c9:Bd=true
    ·subst c9;rw [if_pos rfl] at H;replace H:=bsi H;obtain ⟨Be,A100,H⟩:=H
     (try dsimp only at H)
     have A10:=ak A100;clear A100;obtain rfl:=Option.some.inj H
     go_enter Try.func23,Try.ntmps23
     go_wp2_with (first | ((with_reducible refine gate_dst (N:=1) rfl ?_);refine box_q 1 #[.int .i64 Ae,.int .i64 Ag,.int .i64 Ab,.slice Ah Ac.length Ai,.slice Aj Ad.length Ak,.slice Aq Al.length Ar,.slice As Af.length At] 43 ?_;intro Au hg w11 hbox hb;have Aa:=ak (hbox);have Av:=gs_ HB hg;replace HB:=hB_ HB hb;clear hb hbox hg;obtain ⟨Bf,Bg,Bh,Bi,Bj,Bk,Bl,Bm,Bn,Bo,Bp,Bq,Br,Bs⟩:=cf7_ Aa) | ((with_reducible refine gC_ 18 ?_);refine gL_ 5 Try.func18 #[.agg #[.int .i64 Ab,.slice Ah Ac.length Ai,.slice Aj Ad.length Ak]] ?_;(with_reducible refine (impl_NetOk.calls k Ab _ _ Ac _ _ Ad true _ ?_ ?_ ?_ ?_ A2.out).mono ?_);exact ch_ Am HB;exact An.out;exact ch_ Ao HB;exact Ap.out;rintro e w13 ⟨rfl,hb⟩;refine ⟨_,rfl,?_⟩;replace Aa:=bb_ Aa hb;replace HB:=hB_ HB hb;obtain ⟨Bt,Bu,Bv,Bw,Bx,By,Bz,Ca,Cb,Cc,Cd,Ce,Cf,Cg⟩:=cf7_ Aa) | (go_at_call 81;(with_reducible refine (impl_in.calls Ae 1 Ab true _ A4.out).mono ?_);rintro e w' ⟨rfl,⟨nd,rfl⟩⟩) | (go_at_call 81;(with_reducible refine (impl_in.calls Ag 0 90 true _ A6.out).mono ?_);rintro e w' ⟨rfl,⟨nd,rfl⟩⟩) | (go_at_call 90;(with_reducible refine (impl_heardOk.calls k Ae Ag Ab _ _ Ac _ _ Ad _ _ Al _ _ Af true _ ?_ ?_ ?_ ?_ ?_ ?_ ?_ ?_ A8.out).mono ?_);exact cs_q (Kd.C_below Am.out (bw_q HB));exact An.out;exact cs_q (Kd.C_below Ao.out (bw_q HB));exact Ap.out;exact cs_q (Kd.C_below Ay.out (bw_q HB));exact Az.out;exact cs_q (Kd.C_below Aw.out (bw_q HB));exact Ax.out;rintro e w15 ⟨rfl,hb⟩;replace Aa:=bb_ Aa hb;replace HB:=hB_ HB hb;obtain ⟨Ch,Ci,Cj,Ck,Cl,Cm,Cn,Co,Cp,Cq,Cr,Cs,Ct,Cu⟩:=cf7_ Aa) | (go_at_call 50;(with_reducible refine (impl_StoreOk.calls k _ _ Af Be _ ?_ ?_ A10.out).mono ?_);exact ch_ Aw HB;exact Ax.out;rintro e w17 ⟨rfl,hb⟩;replace Aa:=bb_ Aa hb;replace HB:=hB_ HB hb))
     go_ret
     exact ⟨er_q,bw_q HB⟩
    ·replace c9:=Bool.eq_false_iff.mpr c9;subst c9
     rw [if_neg (show ¬(false=true) by decide)] at H
     obtain rfl:=Option.some.inj H
     go_enter Try.func23,Try.ntmps23
     go_wp2_with (first | ((with_reducible refine gate_dst (N:=1) rfl ?_);refine box_q 1 #[.int .i64 Ae,.int .i64 Ag,.int .i64 Ab,.slice Ah Ac.length Ai,.slice Aj Ad.length Ak,.slice Aq Al.length Ar,.slice As Af.length At] 43 ?_;intro Au hg w18 hbox hb;have Aa:=ak (hbox);have Av:=gs_ HB hg;replace HB:=hB_ HB hb;clear hb hbox hg;obtain ⟨Cv,Cw,Cx,Cy,Cz,Da,Db,Dc,Dd,De,Df,Dg,Dh,Di⟩:=cf7_ Aa) | ((with_reducible refine gC_ 18 ?_);refine gL_ 5 Try.func18 #[.agg #[.int .i64 Ab,.slice Ah Ac.length Ai,.slice Aj Ad.length Ak]] ?_;(with_reducible refine (impl_NetOk.calls k Ab _ _ Ac _ _ Ad true _ ?_ ?_ ?_ ?_ A2.out).mono ?_);exact ch_ Am HB;exact An.out;exact ch_ Ao HB;exact Ap.out;rintro e w20 ⟨rfl,hb⟩;refine ⟨_,rfl,?_⟩;replace Aa:=bb_ Aa hb;replace HB:=hB_ HB hb;obtain ⟨Dj,Dk,Dl,Dm,Dn,Do,Dp,Dq,Dr,Ds,Dt,Du,Dv,Dw⟩:=cf7_ Aa) | (go_at_call 81;(with_reducible refine (impl_in.calls Ae 1 Ab true _ A4.out).mono ?_);rintro e w' ⟨rfl,⟨nd,rfl⟩⟩) | (go_at_call 81;(with_reducible refine (impl_in.calls Ag 0 90 true _ A6.out).mono ?_);rintro e w' ⟨rfl,⟨nd,rfl⟩⟩) | (go_at_call 90;(with_reducible refine (impl_heardOk.calls k Ae Ag Ab _ _ Ac _ _ Ad _ _ Al _ _ Af false _ ?_ ?_ ?_ ?_ ?_ ?_ ?_ ?_ A8.out).mono ?_);exact cs_q (Kd.C_below Am.out (bw_q HB));exact An.out;exact cs_q (Kd.C_below Ao.out (bw_q HB));exact Ap.out;exact cs_q (Kd.C_below Ay.out (bw_q HB));exact Az.out;exact cs_q (Kd.C_below Aw.out (bw_q HB));exact Ax.out;rintro e w22 ⟨rfl,hb⟩;replace Aa:=bb_ Aa hb;replace HB:=hB_ HB hb))
     go_ret
     exact ⟨er_q,bw_q HB⟩
   ·replace c7:=Bool.eq_false_iff.mpr c7;subst c7
    rw [if_neg (show ¬(false=true) by decide)] at H
    obtain rfl:=Option.some.inj H
    go_enter Try.func23,Try.ntmps23
    go_wp2_with (first | ((with_reducible refine gate_dst (N:=1) rfl ?_);refine box_q 1 #[.int .i64 Ae,.int .i64 Ag,.int .i64 Ab,.slice Ah Ac.length Ai,.slice Aj Ad.length Ak,.slice Aq Al.length Ar,.slice As Af.length At] 43 ?_;intro Au hg w23 hbox hb;have Aa:=ak (hbox);have Av:=gs_ HB hg;replace HB:=hB_ HB hb;clear hb hbox hg;obtain ⟨Dx,Dy,Dz,Ea,Eb,Ec,Ed,Ee,Ef,Eg,Eh,Ei,Ej,Ek⟩:=cf7_ Aa) | ((with_reducible refine gC_ 18 ?_);refine gL_ 5 Try.func18 #[.agg #[.int .i64 Ab,.slice Ah Ac.length Ai,.slice Aj Ad.length Ak]] ?_;(with_reducible refine (impl_NetOk.calls k Ab _ _ Ac _ _ Ad true _ ?_ ?_ ?_ ?_ A2.out).mono ?_);exact ch_ Am HB;exact An.out;exact ch_ Ao HB;exact Ap.out;rintro e w25 ⟨rfl,hb⟩;refine ⟨_,rfl,?_⟩;replace Aa:=bb_ Aa hb;replace HB:=hB_ HB hb;obtain ⟨El,Em,En,Eo,Ep,Eq,Er,Es,Et,Eu,Ev,Ew,Ex,Ey⟩:=cf7_ Aa) | (go_at_call 81;(with_reducible refine (impl_in.calls Ae 1 Ab true _ A4.out).mono ?_);rintro e w' ⟨rfl,⟨nd,rfl⟩⟩) | (go_at_call 81;(with_reducible refine (impl_in.calls Ag 0 90 false _ A6.out).mono ?_);rintro e w' ⟨rfl,⟨nd,rfl⟩⟩))
    go_ret
    exact ⟨er_q,bw_q HB⟩
  ·replace c5:=Bool.eq_false_iff.mpr c5;subst c5
   rw [if_neg (show ¬(false=true) by decide)] at H
   obtain rfl:=Option.some.inj H
   go_enter Try.func23,Try.ntmps23
   go_wp2_with (first | ((with_reducible refine gate_dst (N:=1) rfl ?_);refine box_q 1 #[.int .i64 Ae,.int .i64 Ag,.int .i64 Ab,.slice Ah Ac.length Ai,.slice Aj Ad.length Ak,.slice Aq Al.length Ar,.slice As Af.length At] 43 ?_;intro Au hg w27 hbox hb;have Aa:=ak (hbox);have Av:=gs_ HB hg;replace HB:=hB_ HB hb;clear hb hbox hg;obtain ⟨Ez,Fa,Fb,Fc,Fd,Fe,Ff,Fg,Fh,Fi,Fj,Fk,Fl,Fm⟩:=cf7_ Aa) | ((with_reducible refine gC_ 18 ?_);refine gL_ 5 Try.func18 #[.agg #[.int .i64 Ab,.slice Ah Ac.length Ai,.slice Aj Ad.length Ak]] ?_;(with_reducible refine (impl_NetOk.calls k Ab _ _ Ac _ _ Ad true _ ?_ ?_ ?_ ?_ A2.out).mono ?_);exact ch_ Am HB;exact An.out;exact ch_ Ao HB;exact Ap.out;rintro e w29 ⟨rfl,hb⟩;refine ⟨_,rfl,?_⟩;replace Aa:=bb_ Aa hb;replace HB:=hB_ HB hb;obtain ⟨Fn,Fo,Fp,Fq,Fr,Fs,Ft,Fu,Fv,Fw,Fx,Fy,Fz,Ga⟩:=cf7_ Aa) | (go_at_call 81;(with_reducible refine (impl_in.calls Ae 1 Ab false _ A4.out).mono ?_);rintro e w' ⟨rfl,⟨nd,rfl⟩⟩))
   go_ret
   exact ⟨er_q,bw_q HB⟩
 ·replace c3:=Bool.eq_false_iff.mpr c3;subst c3
  rw [if_neg (show ¬(false=true) by decide)] at H
  obtain rfl:=Option.some.inj H
  go_enter Try.func23,Try.ntmps23
  go_wp2_with (first | ((with_reducible refine gate_dst (N:=1) rfl ?_);refine box_q 1 #[.int .i64 Ae,.int .i64 Ag,.int .i64 Ab,.slice Ah Ac.length Ai,.slice Aj Ad.length Ak,.slice Aq Al.length Ar,.slice As Af.length At] 43 ?_;intro Au hg w31 hbox hb;have Aa:=ak (hbox);have Av:=gs_ HB hg;replace HB:=hB_ HB hb;clear hb hbox hg;obtain ⟨Gb,Gc,Gd,Ge,Gf,Gg,Gh,Gi,Gj,Gk,Gl,Gm,Gn,Go⟩:=cf7_ Aa) | ((with_reducible refine gC_ 18 ?_);refine gL_ 5 Try.func18 #[.agg #[.int .i64 Ab,.slice Ah Ac.length Ai,.slice Aj Ad.length Ak]] ?_;(with_reducible refine (impl_NetOk.calls k Ab _ _ Ac _ _ Ad false _ ?_ ?_ ?_ ?_ A2.out).mono ?_);exact ch_ Am HB;exact An.out;exact ch_ Ao HB;exact Ap.out;rintro e w33 ⟨rfl,hb⟩;refine ⟨_,rfl,?_⟩;replace Aa:=bb_ Aa hb;replace HB:=hB_ HB hb))
  go_ret
  exact ⟨er_q,bw_q HB⟩

/-! ### impl_copyNet: function 133 -/
def impl_copyNet.f (c:Int) (a:List (S93)) (b:List (S102)):Option (Int×(List (S93))×(List (S102))):=if ([]:List (S93)).length+a.length<4398046511104 then (if ([]:List (S102)).length+b.length<4398046511104 then (some (c,(([]:List (S93))++a),(([]:List (S102))++b))) else (none)) else (none)
def impl_copyNet.T1:Bool×List (List Nat×List Nat):=(true,[([],[]),([0],[0]),([],[]),([2],[2]),([3],[3]),([],[]),([5],[5]),([6,4],[6]),([1,4,7],[1,4,7]),([8,7,0,1,2,3,4,5,6,7,8],[8])])
def impl_copyNet.B1:List Nat:=[0,1,0,4,12,0,32,124,255,511]
theorem impl_copyNet.tab1:rtab .any (opsOf Try.f133 1)=impl_copyNet.T1:=by kernel_rfl
theorem impl_copyNet.bits1:waitsOk impl_copyNet.T1.2 impl_copyNet.B1=true:=by kernel_rfl
set_option maxHeartbeats 8000000 in
set_option maxRecDepth 100000 in
theorem impl_copyNet.calls (Ah:Int) (Al:Option Addr) (Am:Nat) (Af:List (S93)) (An:Option Addr) (Ao:Nat) (Ae:List (S102)) (r1:Int) (r2:List (S93)) (r3:List (S102)) (w:World) (hr0_1:Kd.C k93 w Al Af.length Af) (hc0_1:Af.length≤Am) (hr0_2:Kd.C k102 w An Ae.length Ae) (hc0_2:Ae.length≤Ao) (h:impl_copyNet.f Ah Af Ae=some (r1,r2,r3)):
  Calls Try.prog 133 #[.agg #[.int .i64 Ah,.slice Al Af.length Am,.slice An Ae.length Ao]] w fun e w'=> ∃v1_ v2_:Value,e=.returned (.agg #[.int .i64 r1,v1_,v2_])∧Kd.R k93 93 w' w.heap.size (fun _=> True) v1_ r2∧Kd.R k102 102 w' w.heap.size (fun _=> True) v2_ r3∧Below w.heap.size w w':=by
 have hu31:=Try.underlying31;have As:=ak hr0_1;have Az:=ak hc0_1;clear hr0_1 hc0_1;have At:=ak hr0_2;have Ba:=ak hc0_2;clear hr0_2 hc0_2;have HB:=ak (Below.refl w.heap.size w);have H:=h
 clear h;unfold impl_copyNet.f at H
 by_cases c2:([]:List (S93)).length+Af.length<4398046511104
 ·rw [if_pos c2] at H;have Ax:=ak c2;clear c2;obtain ⟨Ap,Ai⟩:∃y_:List (S93),y_=(([]:List (S93))++Af):=⟨_,rfl⟩
  replace H:(if ([]:List (S102)).length+Ae.length<4398046511104 then (some (Ah,Ap,(([]:List (S102))++Ae))) else (none))=some (r1,r2,r3):=by first | (rw [Ai];with_reducible exact H) | (have H2_:=(Option.bind_some _ _).symm.trans H;rw [Ai];with_reducible exact H2_) | (have H2_:=(Option.bind_some _ _).symm.trans H;with_reducible exact H2_) | with_reducible exact H | (rw [Ai];exact H) | exact H
  have Au:=ak Ai;clear Ai
  by_cases c3:([]:List (S102)).length+Ae.length<4398046511104
  ·rw [if_pos c3] at H;have Ay:=ak c3;clear c3;obtain ⟨Ar,Aj⟩:∃y_:List (S102),y_=(([]:List (S102))++Ae):=⟨_,rfl⟩
   replace H:(some (Ah,Ap,Ar))=some (r1,r2,r3):=by first | (rw [Aj];with_reducible exact H) | (have H2_:=(Option.bind_some _ _).symm.trans H;rw [Aj];with_reducible exact H2_) | (have H2_:=(Option.bind_some _ _).symm.trans H;with_reducible exact H2_) | with_reducible exact H | (rw [Aj];exact H) | exact H
   have Av:=ak Aj;clear Aj
   simp only [Option.some.injEq,Prod.mk.injEq] at H
   obtain ⟨rfl,rfl,rfl⟩:=H
   go_enter Try.func133,Try.ntmps133
   try go_wp2_with (first | ((with_reducible refine gate_dst (N:=1) rfl ?_);refine box_q 1 #[.int .i64 Ah,.slice Al Af.length Am,.slice An Ae.length Ao] 31 ?_;intro Aw hg w4 hbox hb;have Ac:=ak (hbox);have Bb:=gs_ HB hg;replace HB:=hB_ HB hb;clear hb hbox hg) | ((with_reducible refine gate_dst (N:=2) rfl ?_);refine box_q 2 #[.int .i64 0,.slice none 0 0,.slice none 0 0] 31 ?_;intro Ad hg w5 hbox hb;have Ab:=ak (hbox);have Bc:=gs_ HB hg;replace HB:=hB_ HB hb;have Aa:=nb_ Ac hg;have Ag:=nB_ Ac hg;replace Ac:=bb_ Ac hb;clear hb hbox hg))
   replace Ac:=ak (blk_drew Ac.out);replace Ab:=ak (blk_drew Ab.out);replace HB:=ak (below_drew1 HB.out)
   refine start_ (n:=10) (S:=fun w'=> cl3 w' Aw (.int .i64 Ah) (.slice Al Af.length Am) (.slice An Ae.length Ao)) (ds:=[]) (bL 10 0) (by kernel_rfl) rfl rfl (cz3_ Ac) (fun hHeld=> ?_);refine with_tabW impl_copyNet.tab1 impl_copyNet.bits1 (fun HT_ HW_=> ?_)
   generalize w5.drew=w6 at Ac Ab HB hHeld ⊢
   refine pQ_ 0 HT_ ?_
   refine pQ_ 2 HT_ ?_
   refine pQ_ 5 HT_ ?_
   refine take_ (i:=1) (N:=some 4) (v:=?_) (a':=?_) (bL 10 39) rfl rfl (take_ofW HT_.out HW_.out (by kernel_rfl)) (fun _ _ _ h=> h) (Or.inl ⟨by rfl,?_⟩) hHeld ?_ ?_;rotate_left;(rintro w' s0;go_simp;with_reducible rfl);rotate_left;(exact put_q)
   refine take_ (i:=3) (N:=some 6) (v:=?_) (a':=?_) (bL 10 47) rfl rfl (take_ofW HT_.out HW_.out (by kernel_rfl)) (fun _ _ _ h=> h) (Or.inl ⟨by rfl,?_⟩) hHeld ?_ ?_;rotate_left;(rintro w' s0;go_simp;with_reducible rfl);rotate_left;(exact put_q)
   refine take_ (i:=6) (N:=some 9) (v:=?_) (a':=?_) (bL 10 111) rfl rfl (take_ofW HT_.out HW_.out (by kernel_rfl)) (fun _ _ _ h=> h) (Or.inl ⟨by rfl,?_⟩) hHeld ?_ ?_;rotate_left;(rintro w' s0;go_simp;with_reducible rfl);rotate_left;(exact put_q)
   refine one_ (i:=4) (N:=some 7) (bL 10 127) rfl rfl (one_of HT_.out (by kernel_rfl)) (by decide) (fun K hK=> ?_)
   refine Kd.R_append_rows_step k93 (w0:=w) w.heap.size rfl (.const (.slice none 0 0)) (.tmp 6) 28 93 (.agg #[(.int .i64 0),(.int .i64 0),(.int .i64 0),(.int .i64 0)]) 32 rfl Try.underlying28 info93 rfl (by decide) (by omega) (.slice none 0 0) ([]:List (S93)) Af _ _ _ (fun _=> True) (fun _=> False) rfl rfl ?_ ?aR (fun _ _ h=> h) (fun _ h=> h.elim) ?_ ?_ ?_ ?_ ?_
   (case aR=> exact cs_q (Kd.C_below As.out HB.out))
   exact ((Kd.R_nil _ _ _ _ (fun _=> True)))
   exact (fun _ _=> trivial)
   exact (bw_q HB)
   exact (below_size (bw_q HB))
   (focus have:=Ax.out;omega)
   intro v566 w7 ho hb hg hat
   rw [←Au.out] at ho
   replace Ac:=bG_ Ac hg (by simp [Value.ownBlock])
   replace Ab:=bG_ Ab hg (by simp [Value.ownBlock])
   replace HB:=ak (hb);have Ak:=ak (ho);clear ho hb hg hat
   refine hK.out _ _ (cz3_ Ac) (fun hHeld=> ?_)
   clear hK K
   refine norm_ (a':=?_) ?_ ?_;rotate_left;(show Act.put _ (some 7) _=_;simp only [Act.put,List.setIfInBounds_toArray,List.set_cons_zero,List.set_cons_succ,i64_w,i32_w];rfl)
   refine one_ (i:=7) (N:=some 10) (bL 10 255) rfl rfl (one_of HT_.out (by kernel_rfl)) (by decide) (fun K hK=> ?_)
   refine Kd.R_append_rows_step k102 (w0:=w) w.heap.size rfl (.const (.slice none 0 0)) (.tmp 9) 29 102 (.agg #[(.int .i64 0),(.int .i64 0),(.int .i64 0),(.bool false)]) 32 rfl Try.underlying29 info102 rfl (by decide) (by omega) (.slice none 0 0) ([]:List (S102)) Ae _ _ _ (fun _=> True) (fun _=> False) rfl rfl ?_ ?aR (fun _ _ h=> h) (fun _ h=> h.elim) ?_ ?_ ?_ ?_ ?_
   (case aR=> exact cs_q (Kd.C_below At.out HB.out))
   exact ((Kd.R_nil _ _ _ _ (fun _=> True)))
   exact (fun _ _=> trivial)
   exact (bw_q HB)
   exact (below_size (bw_q HB))
   (focus have:=Ay.out;omega)
   intro v569 w8 ho hb hg hat
   rw [←Av.out] at ho
   replace Ac:=bG_ Ac hg (by simp [Value.ownBlock])
   replace Ab:=bG_ Ab hg (by simp [Value.ownBlock])
   replace Ak:=ak (Kd.R_grown (kR_q Ak) hg (fun _ _=> by simp [Value.ownBlock]))
   replace HB:=ak (hb);have Aq:=ak (ho);clear ho hb hg hat;obtain ⟨Ao9,co9,eo9⟩:=Kd.R_slice Aq.out
   (first | subst eo9 | (injection eo9 with f1_ f2_ f3_;have f4_:=f1_.symm;have f5_:=f3_.symm;clear f1_ f2_ f3_;subst f4_;subst f5_))
   obtain ⟨Ao10,co10,eo10⟩:=Kd.R_slice Ak.out
   (first | subst eo10 | (injection eo10 with f1_ f2_ f3_;have f4_:=f1_.symm;have f5_:=f3_.symm;clear f1_ f2_ f3_;subst f4_;subst f5_))
   refine hK.out _ _ (cz3_ Ac) (fun hHeld=> ?_)
   clear hK K
   refine norm_ (a':=?_) ?_ ?_;rotate_left;(show Act.put _ (some 10) _=_;simp only [Act.put,List.setIfInBounds_toArray,List.set_cons_zero,List.set_cons_succ,i64_w,i32_w];rfl)
   refine pQ_ 8 HT_ ?_
   refine one_ (i:=9) (N:=none) (bL 10 1023) rfl rfl (one_of HT_.out (by kernel_rfl)) (by decide) (fun K hK=> ?_)
   have hs11:w8.cell? ⟨Ad,0,none⟩=some (.int .i64 0):=(blk_cell Ab.out 0).trans rfl
   have hfs11:=blk_frozen Ab.out 0;have hns11_0:=Aa.out;have hms11_0:=Ag.out
   have hs12:w8.cell? ⟨Ad,1,none⟩=some (.slice none 0 0):=(blk_cell Ab.out 1).trans rfl
   have hfs12:=blk_frozen Ab.out 1;have hns12_0:=Aa.out;have hms12_0:=Ag.out
   have hs13:w8.cell? ⟨Ad,2,none⟩=some (.slice none 0 0):=(blk_cell Ab.out 2).trans rfl
   have hfs13:=blk_frozen Ab.out 2;have hns13_0:=Aa.out;have hms13_0:=Ag.out
   refine skip_ (w1:=?_) (by rfl) rfl ?_ ?_
   rotate_left
   ·go_simp
    rfl
   refine hK.out _ _ (⟨((cell_far (p:=⟨Ad,_,none⟩) Aa.out _).trans (((cell_far (p:=⟨Ad,_,none⟩) Aa.out _).trans (((cell_far (p:=⟨Ad,_,none⟩) Aa.out _).trans (hHeld.1)))))),((cell_far (p:=⟨Ad,_,none⟩) Aa.out _).trans (((cell_far (p:=⟨Ad,_,none⟩) Aa.out _).trans (((cell_far (p:=⟨Ad,_,none⟩) Aa.out _).trans (hHeld.2.1)))))),((cell_far (p:=⟨Ad,_,none⟩) Aa.out _).trans (((cell_far (p:=⟨Ad,_,none⟩) Aa.out _).trans (((cell_far (p:=⟨Ad,_,none⟩) Aa.out _).trans (hHeld.2.2))))))⟩) (fun hHeld=> ?_)
   clear hK K
   refine done_ (done_of HT_.out (by kernel_rfl)) ?_
   try go_wp2
   refine bodyPost_ret (results_cell_row rfl _ _ Ad 31 #[.int .i64 Ah,.slice Ao10 Ap.length co10,.slice Ao9 Ar.length co9] (0,0) _ rfl (bp_ Ab) Try.underlying31 rfl (by kernel_rfl)) rfl ?_
   exact ⟨_,_,er_q,by exact Kd.R_mono (rF_ (Kd.R_types Ak.out Ab.out (by decide))) (fun _ hk=> trivial),by exact Kd.R_mono (rF_ (Kd.R_types Aq.out Ab.out (by decide))) (fun _ hk=> trivial),bw_q HB⟩
  ·rw [if_neg c3] at H
   exact absurd H (by simp)
 ·rw [if_neg c2] at H
  exact absurd H (by simp)

/-! ### impl_copyInts: function 134 -/
def impl_copyInts.f (l0:List Int):Option (List Int):=if ([]:List Int).length+l0.length<17592186044416 then (some (([]:List Int)++l0)) else (none)
set_option maxHeartbeats 8000000 in
set_option maxRecDepth 100000 in
theorem impl_copyInts.calls (A0:Option Addr) (c0:Nat) (l0:List Int) (r:List Int) (w:World) (hr0:Kd.C (Kd.int .i64) w A0 l0.length l0) (hc0:l0.length≤c0) (h:impl_copyInts.f l0=some r):
  Calls Try.prog 134 #[.slice A0 l0.length c0] w fun e w'=> ∃v0_:Value,e=.returned (v0_)∧Kd.R (Kd.int .i64) 3 w' w.heap.size (fun _=> True) v0_ r∧Below w.heap.size w w':=by
 have HR0:=ak hr0;have Af:=ak hc0;clear hr0 hc0;have HB:=ak (Below.refl w.heap.size w);have H:=h
 clear h;unfold impl_copyInts.f at H
 by_cases c2:([]:List Int).length+l0.length<17592186044416
 ·rw [if_pos c2] at H;have Ad:=ak c2;clear c2;obtain ⟨Ae,Aa⟩:∃y_:List Int,y_=(([]:List Int)++l0):=⟨_,rfl⟩
  replace H:(some Ae)=some r:=by first | (rw [Aa];with_reducible exact H) | (have H2_:=(Option.bind_some _ _).symm.trans H;rw [Aa];with_reducible exact H2_) | (have H2_:=(Option.bind_some _ _).symm.trans H;with_reducible exact H2_) | with_reducible exact H | (rw [Aa];exact H) | exact H
  have Ab:=ak Aa;clear Aa;obtain rfl:=Option.some.inj H
  go_enter Try.func134,Try.ntmps134
  go_wp2_with (first | ((with_reducible refine gate_builtin (b:=.append) (xs:=#[(.const (.slice none 0 0)),.tmp 3]) rfl ?_);at_builtin;refine Kd.R_append_rows (Kd.int .i64) (w0:=w) w.heap.size rfl (.const (.slice none 0 0)) (.tmp 3) 35 3 (.int .i64 0) 8 rfl Try.underlying35 info3 rfl (by decide) (by omega) (.slice none 0 0) ([]:List Int) l0 _ _ _ (fun _=> True) (fun _=> False) rfl rfl ?_ ?aR (fun _ _ h=> h) (fun _ h=> h.elim) ?_ ?_ ?_ ?_ ?_;(case aR=> repeat (first | exact HR0.out | (with_reducible refine Kd.C_alloc ?_ _) | (with_reducible refine Kd.C_drewN ?_ _) | (with_reducible refine Kd.C_drew ?_)));exact ((Kd.R_nil _ _ _ _ (fun _=> True)));exact (fun _ _=> trivial);exact (bw_q HB);exact (below_size (bw_q HB));(focus have:=Ad.out;omega);intro v572 w3 ho hb hg hat;rw [←Ab.out] at ho;replace HB:=ak (hb);have Ac:=ak (ho);clear ho hb hg hat))
  go_ret
  exact ⟨_,er_q,kR_q Ac,bw_q HB⟩
 ·rw [if_neg c2] at H
  exact absurd H (by simp)

/-! ### impl_copyRecord: function 108 -/
def impl_copyRecord.f (b:Int) (c:Int) (d:Int) (e:Int) (g:Int) (a:List (S127)) (h:Int) (i:Bool):Option (Int×Int×Int×Int×Int×(List (S127))×Int×Bool):=if ([]:List (S127)).length+a.length<8796093022208 then (some (b,c,d,e,g,(([]:List (S127))++a),h,i)) else (none)
set_option maxHeartbeats 8000000 in
set_option maxRecDepth 100000 in
theorem impl_copyRecord.calls (Ae:Int) (Af:Int) (Ag:Int) (Ah:Int) (Ai:Int) (An:Option Addr) (Ao:Nat) (Ab:List (S127)) (Aj:Int) (Ak:Bool) (r1:Int) (r2:Int) (r3:Int) (r4:Int) (r5:Int) (r6:List (S127)) (r7:Int) (r8:Bool) (w:World) (hr0_5:Kd.C k127 w An Ab.length Ab) (hc0_5:Ab.length≤Ao) (h:impl_copyRecord.f Ae Af Ag Ah Ai Ab Aj Ak=some (r1,r2,r3,r4,r5,r6,r7,r8)):
  Calls Try.prog 108 #[.agg #[.int .i64 Ae,.int .i64 Af,.int .i64 Ag,.int .i64 Ah,.int .i64 Ai,.slice An Ab.length Ao,.int .i64 Aj,.bool Ak]] w fun e w'=> ∃v5_:Value,e=.returned (.agg #[.int .i64 r1,.int .i64 r2,.int .i64 r3,.int .i64 r4,.int .i64 r5,v5_,.int .i64 r7,.bool r8])∧Kd.R k127 127 w' w.heap.size (fun _=> True) v5_ r6∧Below w.heap.size w w':=by
 have hu61:=Try.underlying61;have Ar:=ak hr0_5;have Cr:=ak hc0_5;clear hr0_5 hc0_5;have HB:=ak (Below.refl w.heap.size w);have H:=h
 clear h;unfold impl_copyRecord.f at H
 by_cases c2:([]:List (S127)).length+Ab.length<8796093022208
 ·rw [if_pos c2] at H;have Au:=ak c2;clear c2;obtain ⟨Aq,Ac⟩:∃y_:List (S127),y_=(([]:List (S127))++Ab):=⟨_,rfl⟩
  replace H:(some (Ae,Af,Ag,Ah,Ai,Aq,Aj,Ak))=some (r1,r2,r3,r4,r5,r6,r7,r8):=by first | (rw [Ac];with_reducible exact H) | (have H2_:=(Option.bind_some _ _).symm.trans H;rw [Ac];with_reducible exact H2_) | (have H2_:=(Option.bind_some _ _).symm.trans H;with_reducible exact H2_) | with_reducible exact H | (rw [Ac];exact H) | exact H
  have As:=ak Ac;clear Ac
  simp only [Option.some.injEq,Prod.mk.injEq] at H
  obtain ⟨rfl,rfl,rfl,rfl,rfl,rfl,rfl,rfl⟩:=H
  go_enter Try.func108,Try.ntmps108
  go_wp2_with (first | ((with_reducible refine gate_dst (N:=1) rfl ?_);refine box_q 1 #[.int .i64 Ae,.int .i64 Af,.int .i64 Ag,.int .i64 Ah,.int .i64 Ai,.slice An Ab.length Ao,.int .i64 Aj,.bool Ak] 61 ?_;intro Cs hg w3 hbox hb;have Aa:=ak (hbox);have Ct:=gs_ HB hg;replace HB:=hB_ HB hb;clear hb hbox hg) | ((with_reducible refine gate_dst (N:=2) rfl ?_);refine box_q 2 #[.int .i64 0,.int .i64 0,.int .i64 0,.int .i64 0,.int .i64 0,.slice none 0 0,.int .i64 0,.bool false] 61 ?_;intro At hg w4 hbox hb;have Ad:=ak (hbox);have Cu:=gs_ HB hg;replace HB:=hB_ HB hb;have Al:=nb_ Aa hg;have Am:=nB_ Aa hg;replace Aa:=bb_ Aa hb;clear hb hbox hg;have Cv:=Al.out;have Cw:=Am.out;obtain ⟨Bl,Bm,Bn,Bo,Bp,Bq,Br,Bs,Bt,Bu,Bv,Bw,Bx,By,Bz,Ca⟩:=cf8_ Aa) | ((with_reducible refine gate_builtin (b:=.append) (xs:=#[(.const (.slice none 0 0)),.tmp 4]) rfl ?_);at_builtin;refine Kd.R_append_rows k127 (w0:=w) w.heap.size rfl (.const (.slice none 0 0)) (.tmp 4) 59 127 (.agg #[(.int .i64 0),(.int .i64 0)]) 16 rfl Try.underlying59 info127 rfl (by decide) (by omega) (.slice none 0 0) ([]:List (S127)) Ab _ _ _ (fun _=> True) (fun _=> False) rfl rfl ?_ ?aR (fun _ _ h=> h) (fun _ h=> h.elim) ?_ ?_ ?_ ?_ ?_;(case aR=> exact cs_q (Kd.C_below Ar.out HB.out));exact ((Kd.R_nil _ _ _ _ (fun _=> True)));exact (fun _ _=> trivial);exact (bw_q HB);exact (below_size (bw_q HB));(focus have:=Au.out;omega);intro v577 w7 ho hb hg hat;rw [←As.out] at ho;replace Aa:=bG_ Aa hg (by simp [Value.ownBlock]);replace Ad:=bG_ Ad hg (by simp [Value.ownBlock]);replace HB:=ak (hb);have Ap:=ak (ho);clear ho hb hg hat;obtain ⟨Ao8,co8,eo8⟩:=Kd.R_slice Ap.out;subst eo8;obtain ⟨Cb,Cc,Cd,Ce,Cf,Cg,Ch,Ci,Cj,Ck,Cl,Cm,Cn,Co,Cp,Cq⟩:=cf8_ Aa;obtain ⟨Av,Aw,Ax,Ay,Az,Ba,Bb,Bc,Bd,Be,Bf,Bg,Bh,Bi,Bj,Bk⟩:=cf8_ Ad))
  refine bodyPost_ret (results_cell_row rfl _ _ At 61 #[.int .i64 Ae,.int .i64 Af,.int .i64 Ag,.int .i64 Ah,.int .i64 Ai,.slice Ao8 Aq.length co8,.int .i64 Aj,.bool Ak] (0,0) _ rfl (bp_ Ad) Try.underlying61 rfl (by kernel_rfl)) rfl ?_
  exact ⟨_,er_q,by exact Kd.R_mono (rF_ (Kd.R_types (Kd.R_types Ap.out Aa.out (by decide)) Ad.out (by decide))) (fun _ hk=> trivial),bw_q HB⟩
 ·rw [if_neg c2] at H
  exact absurd H (by simp)

end Go.Proofs.Ythjmdiggglkeaaa.Q
