import Derived.Test.YthjmdiggglkeaaaXLearnQlawsszRecordS
import Derived.Test.YthjmdiggglkeaaaXLearnQimplcopyRecord
/- The contract of a Go function. -/


namespace Go.Proofs.Ythjmdiggglkeaaa.Q
open Go.RowKit Go.Proofs.YthjmdiggglkeaaaW.PrintWords Go.Proofs.YthjmdiggglkeaaaW.PrintLast Go.Proofs.YthjmdiggglkeaaaW.PrintMore
attribute [local go_sem] max2_int min2_int max_two min_two max_three min_three max_four min_four   -- for this text's walks alone
set_option linter.unusedVariables false
set_option linter.unusedSimpArgs false

/-! ### impl_copyRecords: function 135 -/
def impl_copyRecords.l0:Nat→List (S61)→List (S61)→Int→Int→Option ((List (S61)))
 | 0,_,_,_,_=> none
 | k+1,d,c,e,b=> if b<e then (if 0≤b then (if b<(c.length:Int) then ((impl_copyRecord.f ((rd_T61 c b).f0) ((rd_T61 c b).f1) ((rd_T61 c b).f2) ((rd_T61 c b).f3) ((rd_T61 c b).f4) ((rd_T61 c b).f5) ((rd_T61 c b).f6) ((rd_T61 c b).f7)).bind fun a=> (if d.length<1759218604441 then (impl_copyRecords.l0 k (d++[(⟨a.1,a.2.1,a.2.2.1,a.2.2.2.1,a.2.2.2.2.1,a.2.2.2.2.2.1,a.2.2.2.2.2.2.1,a.2.2.2.2.2.2.2⟩:S61)]) c e (wrap64 (b+1))) else (none))) else (none)) else (none)) else (some d)
def impl_copyRecords.f (k:Nat) (l0:List (S61)):Option ((List (S61))):=impl_copyRecords.l0 k ([]:List (S61)) l0 (l0.length:Int) 0
theorem impl_copyRecords.mono_l:∀k,(∀y0 y1 y2 y3,LeO (impl_copyRecords.l0 k y0 y1 y2 y3) (impl_copyRecords.l0 (k+1) y0 y1 y2 y3))
 | 0=> fun _ _ _ _ r h=> by simp [impl_copyRecords.l0] at h
 | k+1=> by
  have ih0:=impl_copyRecords.mono_l k
  ·intro y0 y1 y2 y3
   unfold impl_copyRecords.l0
   with_reducible repeat' (first | apply ih0 | exact LeO.refl _ | exact LeO.none _ | refine LeO.ite ?_ ?_ | refine LeO.bind ?_ (fun _=> ?_))
theorem impl_copyRecords.mono:∀a0 k,LeO (impl_copyRecords.f k a0) (impl_copyRecords.f (k+1) a0):=by
 intro a0 k
 have ih0:=impl_copyRecords.mono_l k
 unfold impl_copyRecords.f
 with_reducible repeat' (first | apply ih0 | exact LeO.refl _ | exact LeO.none _ | refine LeO.ite ?_ ?_ | refine LeO.bind ?_ (fun _=> ?_))
set_option maxHeartbeats 8000000 in
set_option maxRecDepth 100000 in
theorem impl_copyRecords.calls (k:Nat) (A0:Option Addr) (c0:Nat) (l0:List (S61)) (r:List (S61)) (w:World) (hr0:Kd.C k61 w A0 l0.length l0) (hc0:l0.length≤c0) (h:impl_copyRecords.f k l0=some r):
  Calls Try.prog 135 #[.slice A0 l0.length c0] w fun e w'=> ∃v0_:Value,e=.returned (v0_)∧Kd.S k61 61 w' w.heap.size (fun _=> True) v0_ r∧Below w.heap.size w w':=by
 have hu61:=Try.underlying61;have HR0:=ak hr0;have Bz:=ak hc0;clear hr0 hc0;have HB:=ak (Below.refl w.heap.size w);have H:=h
 clear h;unfold impl_copyRecords.f at H;have H':=ak H;clear H
 go_enter Try.func135,Try.ntmps135
 go_wp2
 go_loopg [3,8] k (fun kq v3 v8 w'=> ∃(Af:List (S61)) (Aa:Int),v8=.int .i64 Aa∧Aside0 (impl_copyRecords.l0 kq Af l0 (l0.length:Int) Aa=some r)∧Aside0 (kq≤k)∧Aside0 (Kd.S k61 61 w' w.heap.size (fun _=> True) v3 Af)∧Aside0 (Below w.heap.size w w'))
 case atStart=> exact ⟨(([]:List (S61))),(0),rs_q,H',⟨Nat.le_refl _⟩,⟨by first | exact Kd.S_nil _ _ _ _ _ | exact Kd.N_nil _ _ _ _ _ | exact Kd.V_nil _ _ _ _ _ | exact Kd.Q_nil _ _ _ _ _ | exact Kd.R_nil _ _ _ _ _⟩,⟨bw_q HB⟩⟩
 case round=>
  clear H';(try clear c1);obtain ⟨Af,Aa,rfl,HA,Bc,Ac,HB⟩:=hrel
  cases gk with
  | zero=> exact absurd HA.out (by simp [impl_copyRecords.l0])
  | succ k1=>
   have H:=HA.out;clear HA
   simp only [impl_copyRecords.l0] at H
   by_cases c2:Aa<(l0.length:Int)
   ·rw [if_pos c2] at H;have Bd:=decide_eq_true c2;clear c2
    by_cases c3:0≤Aa
    ·rw [if_pos c3] at H;have Bx:=decide_eq_true c3;clear c3
     by_cases c4:Aa<(l0.length:Int)
     ·rw [if_pos c4] at H;have By:=decide_eq_true c4
      clear c4;replace H:=bsi H;obtain ⟨⟨Ai,Aj,Ak,Al,Am,Ag,An,Ao⟩,A50,H⟩:=H
      (try dsimp only at H)
      have A5:=ak A50;clear A50
      by_cases c6:Af.length<1759218604441
      ·rw [if_pos c6] at H;have Be:=ak c6;clear c6;obtain ⟨Az,Ad⟩:∃y_:List (S61),y_=(Af++[(⟨Ai,Aj,Ak,Al,Am,Ag,An,Ao⟩:S61)]):=⟨_,rfl⟩
       replace H:(impl_copyRecords.l0 k1 Az l0 (l0.length:Int) (wrap64 (Aa+1)))=some r:=by first | (rw [Ad];with_reducible exact H) | (have H2_:=(Option.bind_some _ _).symm.trans H;rw [Ad];with_reducible exact H2_) | (have H2_:=(Option.bind_some _ _).symm.trans H;with_reducible exact H2_) | with_reducible exact H | (rw [Ad];exact H) | exact H
       have Ba:=ak Ad;clear Ad;have H':=ak H;clear H
       have p579:0≤(Aa:Int):=of_decide_eq_true as_q
       have q579:Aa<(l0.length:Int):=of_decide_eq_true as_q
       obtain ⟨Bv,A579_5,c579_5,e579,Ap,Aq,Ar,As,At,Au,Av,Aw,hl579_5,hi579_5⟩:=at_T61 HR0.out Aa p579 q579
       cases e579
       obtain ⟨Ap,Aq,Ar,As,At,Au,Av,Aw⟩:=hb8_ HB Ap Aq Ar As At Au Av Aw;have Ax:=ak hi579_5;have Ay:=ak hl579_5;clear hi579_5 hl579_5;replace p579:=eq_true p579;replace q579:=eq_true q579
       go_wp2_with (first | ((with_reducible refine gate_dst (N:=5) rfl ?_);refine box_q 5 #[.int .i64 0,.int .i64 0,.int .i64 0,.int .i64 0,.int .i64 0,.slice none 0 0,.int .i64 0,.bool false] 61 ?_;intro Ae hg w7 hbox hb;replace Ac:=ak (Kd.S_below (Kd.S_elderB (kS_q Ac) Ae (Nat.le_of_eq hg.symm)) hb);have Ab:=ak (hbox);have Bw:=gs_ HB hg;replace HB:=hB_ HB hb;clear hb hbox hg;obtain ⟨Bf,Bg,Bh,Bi,Bj,Bk,Bl,Bm,Bn,Bo,Bp,Bq,Br,Bs,Bt,Bu⟩:=cf8_ Ab) | ((with_reducible refine gC_ 108 ?_);refine gL_ 14 Try.func108 #[.agg #[.int .i64 ((rd_T61 l0 Aa).f0),.int .i64 ((rd_T61 l0 Aa).f1),.int .i64 ((rd_T61 l0 Aa).f2),.int .i64 ((rd_T61 l0 Aa).f3),.int .i64 ((rd_T61 l0 Aa).f4),.slice A579_5 ((rd_T61 l0 Aa).f5).length c579_5,.int .i64 ((rd_T61 l0 Aa).f6),.bool ((rd_T61 l0 Aa).f7)]] ?_;(with_reducible refine (impl_copyRecord.calls ((rd_T61 l0 Aa).f0) ((rd_T61 l0 Aa).f1) ((rd_T61 l0 Aa).f2) ((rd_T61 l0 Aa).f3) ((rd_T61 l0 Aa).f4) _ _ ((rd_T61 l0 Aa).f5) ((rd_T61 l0 Aa).f6) ((rd_T61 l0 Aa).f7) Ai Aj Ak Al Am Ag An Ao _ ?_ ?_ A5.out).mono ?_);exact Kd.C_below Ax.out (bw_q HB);exact Ay.out;rintro e w9 ⟨v587,rfl,ho0,hb⟩;refine ⟨_,rfl,?_⟩;have hs_v587:(v587:Value).oneCell'=true:=(by first | (have h_:=Kd.R_slice ho0;obtain ⟨A_,c_,e_⟩:=h_;simp [e_,Value.oneCell']) | (have h_:=Kd.S_slice ho0;obtain ⟨A_,c_,e_⟩:=h_;simp [e_,Value.oneCell']) | (have h_:=Kd.N_slice ho0;obtain ⟨A_,c_,e_⟩:=h_;simp [e_,Value.oneCell']) | (have h_:=Kd.V_slice ho0;obtain ⟨A_,c_,e_⟩:=h_;simp [e_,Value.oneCell']));have hst_v587:=fun (w_:World) (a_:Addr) m_=> run_store Try.prog w_ a_ v587 m_ hs_v587;replace Ac:=ak (Kd.S_elder' (sF_ Ac.out) (Kd.R_base ho0) hb);have Ah:=ak (Kd.R_lower ho0 (below_size (bw_q HB)));replace Ab:=bB_ #[.int .i64 ((rd_T61 l0 Aa).f0),.int .i64 ((rd_T61 l0 Aa).f1),.int .i64 ((rd_T61 l0 Aa).f2),.int .i64 ((rd_T61 l0 Aa).f3),.int .i64 ((rd_T61 l0 Aa).f4),.slice A579_5 ((rd_T61 l0 Aa).f5).length c579_5,.int .i64 ((rd_T61 l0 Aa).f6),.bool ((rd_T61 l0 Aa).f7)] Ab hb;replace HB:=hB_ HB hb;(try clear ho0);obtain ⟨Ao11,co11,eo11⟩:=Kd.R_slice Ah.out;subst eo11) | ((with_reducible refine gate_builtin (b:=.append) (xs:=#[.tmp 12,.tmp 15]) rfl ?_);at_builtin;refine Kd.S_append k61 (w0:=w) w.heap.size rfl (.tmp 12) (.tmp 15) 41 61 (.agg #[(.int .i64 0),(.int .i64 0),(.int .i64 0),(.int .i64 0),(.int .i64 0),(.slice none 0 0),(.int .i64 0),(.bool false)]) 80 rfl Try.underlying41 info61 rfl (by decide) (by omega) u3 Af (⟨Ai,Aj,Ak,Al,Am,Ag,An,Ao⟩:S61) [.int .i64 Ai,.int .i64 Aj,.int .i64 Ak,.int .i64 Al,.int .i64 Am,.slice Ao11 Ag.length co11,.int .i64 An,.bool Ao] (fun k_=> k_≠Ae) (fun k_=> some k_=(.slice Ao11 Ag.length co11:Value).ownBlock) rfl rfl ?_ (fun k_ hk_=> ((Kd.R_mono (ok':=fun k_=> ((fun k_=> k_≠Ae)) k_∧some k_≠(u3:Value).ownBlock) (Kd.R_types (Kd.R_apart' (Ah.out) (Kd.S_typed Ac.out) (by decide)) Ab.out (by decide)) (fun k_ hk=> ⟨hk.2,hk.1.2⟩))).1 k_ hk_.symm) ?_ ?_ ?_ ?_ ?_ ?_;exact k61_mkM _ _ _ (⟨Ai,Aj,Ak,Al,Am,Ag,An,Ao⟩:S61) (Kd.R_mono (Kd.R_tight rfl (Kd.R_mono (ok':=fun k_=> ((fun k_=> k_≠Ae)) k_∧some k_≠(u3:Value).ownBlock) (Kd.R_types (Kd.R_apart' (Ah.out) (Kd.S_typed Ac.out) (by decide)) Ab.out (by decide)) (fun k_ hk=> ⟨hk.2,hk.1.2⟩))) (fun _ h_=> h_));exact (fun k_ hk=> Kd.freshB (g:=Ae) (o:=.cells #[.int .i64 ((rd_T61 l0 Aa).f0),.int .i64 ((rd_T61 l0 Aa).f1),.int .i64 ((rd_T61 l0 Aa).f2),.int .i64 ((rd_T61 l0 Aa).f3),.int .i64 ((rd_T61 l0 Aa).f4),.slice A579_5 ((rd_T61 l0 Aa).f5).length c579_5,.int .i64 ((rd_T61 l0 Aa).f6),.bool ((rd_T61 l0 Aa).f7)] 61 (0,0)) (bk_q Ab) k_ hk);(focus exact (by (with_reducible repeat (first | apply Kd.S_alloc | apply Kd.S_drewN | apply Kd.S_drew));exact Kd.S_mono Ac.out (fun k_ hk=> ⟨hk.1.2,fun e_=> hk.2 e_⟩)));exact (bw_q HB);exact (below_size (bw_q HB));(focus have:=Be.out;omega);intro v592 w10 ho hb hg hat;rw [←Ba.out] at ho;replace Ab:=bG_ Ab hg (Kd.S_away Ac.out (fun _ hk=> hk.1.2));replace HB:=ak (hb);have Bb:=ak (ho);clear Ac Ah;clear ho hb hg hat))
       go_roundg k1
       case measure=> have:=Bc.out;omega
       case rel=> exact ⟨(Az),(wrap64 (Aa+1)),rs_q,H',⟨by have:=Bc.out;omega⟩,⟨by (with_reducible repeat (first | apply Kd.S_alloc | apply Kd.S_drewN | apply Kd.S_drew));exact Kd.S_mono Bb.out (fun _ hk=> trivial)⟩,⟨bw_q HB⟩⟩
      ·rw [if_neg c6] at H
       exact absurd H (by simp)
     ·rw [if_neg c4] at H
      exact absurd H (by simp)
    ·rw [if_neg c3] at H
     exact absurd H (by simp)
   ·rw [if_neg c2] at H;have Bd:=decide_eq_false c2
    clear c2;obtain rfl:=Option.some.inj H
    go_wp2
    go_ret
    exact ⟨_,er_q,kS_q Ac,bw_q HB⟩

/-! ### impl_copySelf: function 96 -/
def impl_copySelf.f (k:Nat) (b:Int) (c:Int) (d:Int) (e:List (S93)) (g:List (S102)) (h:List Int) (i:List (S61)):Option (Int×Int×Int×(List (S93))×(List (S102))×List Int×(List (S61))):=(impl_copyNet.f d e g).bind fun a=> ((impl_copyInts.f h).bind fun j=> ((impl_copyRecords.f k i).bind fun l=> (some (b,c,a.1,a.2.1,a.2.2,j,l))))
theorem impl_copySelf.mono:∀a0 a1 a2 a3 a4 a5 a6 k,LeO (impl_copySelf.f k a0 a1 a2 a3 a4 a5 a6) (impl_copySelf.f (k+1) a0 a1 a2 a3 a4 a5 a6):=by
 intro a0 a1 a2 a3 a4 a5 a6 k
 unfold impl_copySelf.f
 with_reducible repeat' (first | apply impl_copyRecords.mono | exact LeO.refl _ | exact LeO.none _ | refine LeO.ite ?_ ?_ | refine LeO.bind ?_ (fun _=> ?_))
def impl_copySelf.T1:Bool×List (List Nat×List Nat):=(true,[([],[]),([0],[0]),([1],[1]),([],[]),([3],[3]),([4,2],[4]),([],[]),([6],[6]),([7,5],[7]),([0,1,2,3,4,6,7],[]),([9,2,8,0,1,2,3,4,6,7],[2,9]),([0,1,2,3,4,5,6,7,9,10],[]),([11,5,10,0,1,2,3,4,5,6,7,9,10],[5,11]),([0,1,2,3,4,5,6,7,8,9,10,11,12],[]),([13,8,12,0,1,2,3,4,5,6,7,8,9,10,11,12],[8,13])])
def impl_copySelf.B1:List Nat:=[0,1,3,0,8,31,0,64,255,223,1023,2047,4095,8191,16383]
theorem impl_copySelf.tab1:rtab .any (opsOf Try.f96 1)=impl_copySelf.T1:=by kernel_rfl
theorem impl_copySelf.bits1:waitsOk impl_copySelf.T1.2 impl_copySelf.B1=true:=by kernel_rfl
set_option maxHeartbeats 8000000 in
set_option maxRecDepth 100000 in
theorem impl_copySelf.calls (k:Nat) (Av:Int) (Aw:Int) (Al:Int) (Am:Option Addr) (An:Nat) (Ae:List (S93)) (Ao:Option Addr) (Ap:Nat) (Af:List (S102)) (Aq:Option Addr) (Ar:Nat) (Ag:List Int) (As:Option Addr) (At:Nat) (Ah:List (S61)) (r1:Int) (r2:Int) (r3:Int) (r4:List (S93)) (r5:List (S102)) (r6:List Int) (r7:List (S61)) (w:World) (hr0_3:Kd.C k93 w Am Ae.length Ae) (hc0_3:Ae.length≤An) (hr0_4:Kd.C k102 w Ao Af.length Af) (hc0_4:Af.length≤Ap) (hr0_5:Kd.C (Kd.int .i64) w Aq Ag.length Ag) (hc0_5:Ag.length≤Ar) (hr0_6:Kd.C k61 w As Ah.length Ah) (hc0_6:Ah.length≤At) (h:impl_copySelf.f k Av Aw Al Ae Af Ag Ah=some (r1,r2,r3,r4,r5,r6,r7)):
  Calls Try.prog 96 #[.agg #[.int .i64 Av,.int .i64 Aw,.int .i64 Al,.slice Am Ae.length An,.slice Ao Af.length Ap,.slice Aq Ag.length Ar,.slice As Ah.length At]] w fun e w'=> ∃v3_ v4_ v5_ v6_:Value,e=.returned (.agg #[.int .i64 r1,.int .i64 r2,.int .i64 r3,v3_,v4_,v5_,v6_])∧Kd.R k93 93 w' w.heap.size (fun _=> True) v3_ r4∧Kd.R k102 102 w' w.heap.size (fun _=> True) v4_ r5∧Kd.R (Kd.int .i64) 3 w' w.heap.size (fun _=> True) v5_ r6∧Kd.S k61 61 w' w.heap.size (fun _=> True) v6_ r7∧Below w.heap.size w w':=by
 have hu43:=Try.underlying43;have hu31:=Try.underlying31;have Bd:=ak hr0_3;have Be:=ak hc0_3;clear hr0_3 hc0_3;have Bf:=ak hr0_4;have Bg:=ak hc0_4;clear hr0_4 hc0_4;have Bh:=ak hr0_5;have Bi:=ak hc0_5;clear hr0_5 hc0_5;have Bj:=ak hr0_6;have Bk:=ak hc0_6;clear hr0_6 hc0_6;have HB:=ak (Below.refl w.heap.size w);have H:=h
 clear h;unfold impl_copySelf.f at H;replace H:=bsi H;obtain ⟨⟨Ay,Az,Ba⟩,A20,H⟩:=H
 (try dsimp only at H)
 have A2:=ak A20;clear A20;replace H:=bsi H;obtain ⟨Bb,A30,H⟩:=H
 (try dsimp only at H)
 have A3:=ak A30;clear A30;replace H:=bsi H;obtain ⟨Bc,A40,H⟩:=H
 (try dsimp only at H)
 have A4:=ak A40;clear A40
 simp only [Option.some.injEq,Prod.mk.injEq] at H
 obtain ⟨rfl,rfl,rfl,rfl,rfl,rfl,rfl⟩:=H
 go_enter Try.func96,Try.ntmps96
 try go_wp2_with (first | ((with_reducible refine gate_dst (N:=1) rfl ?_);refine box_q 1 #[.int .i64 Av,.int .i64 Aw,.int .i64 Al,.slice Am Ae.length An,.slice Ao Af.length Ap,.slice Aq Ag.length Ar,.slice As Ah.length At] 43 ?_;intro Ai hg w5 hbox hb;have Aa:=ak (hbox);have Co:=gs_ HB hg;replace HB:=hB_ HB hb;clear hb hbox hg) | ((with_reducible refine gate_dst (N:=2) rfl ?_);refine box_q 2 #[.int .i64 0,.int .i64 0,.int .i64 0,.slice none 0 0,.slice none 0 0,.slice none 0 0,.slice none 0 0] 43 ?_;intro Bl hg w6 hbox hb;have Ab:=ak (hbox);have Cp:=gs_ HB hg;replace HB:=hB_ HB hb;have Ac:=nb_ Aa hg;have Ad:=nB_ Aa hg;replace Aa:=bb_ Aa hb;clear hb hbox hg))
 replace Aa:=ak (blk_drew Aa.out);replace Ab:=ak (blk_drew Ab.out);replace HB:=ak (below_drew1 HB.out)
 refine start_ (n:=15) (S:=fun w'=> cl7 w' Ai (.int .i64 Av) (.int .i64 Aw) (.int .i64 Al) (.slice Am Ae.length An) (.slice Ao Af.length Ap) (.slice Aq Ag.length Ar) (.slice As Ah.length At)) (ds:=[10,12,14]) (bL 15 0) (by kernel_rfl) rfl rfl (cz7_ Aa) (fun hHeld=> ?_);refine with_tabW impl_copySelf.tab1 impl_copySelf.bits1 (fun HT_ HW_=> ?_)
 generalize w6.drew=w7 at Aa Ab HB hHeld ⊢
 refine pQ_ 0 HT_ ?_
 refine pQ_ 3 HT_ ?_
 refine pQ_ 6 HT_ ?_
 refine take_ (i:=1) (N:=some 4) (v:=?_) (a':=?_) (bL 15 75) rfl rfl (take_ofW HT_.out HW_.out (by kernel_rfl)) (fun _ _ _ h=> h) (Or.inl ⟨by rfl,?_⟩) hHeld ?_ ?_;rotate_left;(rintro w' s0;go_simp;with_reducible rfl);rotate_left;(exact put_q)
 refine take_ (i:=4) (N:=some 7) (v:=?_) (a':=?_) (bL 15 91) rfl rfl (take_ofW HT_.out HW_.out (by kernel_rfl)) (fun _ _ _ h=> h) (Or.inl ⟨by rfl,?_⟩) hHeld ?_ ?_;rotate_left;(rintro w' s0;go_simp;with_reducible rfl);rotate_left;(exact put_q)
 refine take_ (i:=7) (N:=some 10) (v:=?_) (a':=?_) (bL 15 219) rfl rfl (take_ofW HT_.out HW_.out (by kernel_rfl)) (fun _ _ _ h=> h) (Or.inl ⟨by rfl,?_⟩) hHeld ?_ ?_;rotate_left;(rintro w' s0;go_simp;with_reducible rfl);rotate_left;(exact put_q)
 refine one_ (i:=2) (N:=some 5) (bL 15 223) rfl rfl (one_of HT_.out (by kernel_rfl)) (by decide) (fun K hK=> ?_)
 refine goes_ Try.func133 (by kernel_rfl) rfl #[.agg #[.int .i64 Al,.slice Am Ae.length An,.slice Ao Af.length Ap]] (by rfl) rfl rfl mp_q ?_
 with_reducible refine (impl_copyNet.calls Al _ _ Ae _ _ Af Ay Az Ba _ ?_ ?_ ?_ ?_ A2.out).mono ?_
 exact ch_ Bd HB
 exact Be.out
 exact ch_ Bf HB
 exact Bg.out
 rintro e w8 ⟨v598,v601,rfl,ho0,ho1,hb⟩
 refine ⟨_,rfl,?_⟩
 have hs_v598:(v598:Value).oneCell'=true:=(by first | (have h_:=Kd.R_slice ho0;obtain ⟨A_,c_,e_⟩:=h_;simp [e_,Value.oneCell']) | (have h_:=Kd.S_slice ho0;obtain ⟨A_,c_,e_⟩:=h_;simp [e_,Value.oneCell']) | (have h_:=Kd.N_slice ho0;obtain ⟨A_,c_,e_⟩:=h_;simp [e_,Value.oneCell']) | (have h_:=Kd.V_slice ho0;obtain ⟨A_,c_,e_⟩:=h_;simp [e_,Value.oneCell']))
 have hst_v598:=fun (w_:World) (a_:Addr) m_=> run_store Try.prog w_ a_ v598 m_ hs_v598
 have hs_v601:(v601:Value).oneCell'=true:=(by first | (have h_:=Kd.R_slice ho1;obtain ⟨A_,c_,e_⟩:=h_;simp [e_,Value.oneCell']) | (have h_:=Kd.S_slice ho1;obtain ⟨A_,c_,e_⟩:=h_;simp [e_,Value.oneCell']) | (have h_:=Kd.N_slice ho1;obtain ⟨A_,c_,e_⟩:=h_;simp [e_,Value.oneCell']) | (have h_:=Kd.V_slice ho1;obtain ⟨A_,c_,e_⟩:=h_;simp [e_,Value.oneCell']))
 have hst_v601:=fun (w_:World) (a_:Addr) m_=> run_store Try.prog w_ a_ v601 m_ hs_v601
 have Aj:=ak (Kd.R_lower ho0 (below_size (bw_q HB)));have Ak:=ak (Kd.R_lower ho1 (below_size (bw_q HB)));replace Aa:=bb_ Aa hb;replace Ab:=bb_ Ab hb;replace HB:=hB_ HB hb;(try clear ho0);(try clear ho1)
 refine hK.out _ _ (cz7_ Aa) (fun hHeld=> ?_)
 clear hK K
 refine norm_ (a':=?_) ?_ ?_;rotate_left;(show Act.put _ (some 5) _=_;simp only [Act.put,List.setIfInBounds_toArray,List.set_cons_zero,List.set_cons_succ,i64_w,i32_w];rfl)
 refine pQ_ 9 HT_ ?_
 refine one_ (i:=5) (N:=some 8) (bL 15 767) rfl rfl (one_of HT_.out (by kernel_rfl)) (by decide) (fun K hK=> ?_)
 refine goes_ Try.func134 (by kernel_rfl) rfl #[.slice Aq Ag.length Ar] (by rfl) rfl rfl mp_q ?_
 with_reducible refine (impl_copyInts.calls _ _ Ag Bb _ ?_ ?_ A3.out).mono ?_
 exact ch_ Bh HB
 exact Bi.out
 rintro e w9 ⟨v604,rfl,ho0,hb⟩
 refine ⟨_,rfl,?_⟩
 replace Aj:=rb_ Aj hb;replace Ak:=rb_ Ak hb;have Au:=ak (Kd.R_lower ho0 (below_size (bw_q HB)));replace Aa:=bb_ Aa hb;replace Ab:=bb_ Ab hb;replace HB:=hB_ HB hb;(try clear ho0)
 refine hK.out _ _ (cz7_ Aa) (fun hHeld=> ?_)
 clear hK K
 refine norm_ (a':=?_) ?_ ?_;rotate_left;(show Act.put _ (some 8) _=_;simp only [Act.put,List.setIfInBounds_toArray,List.set_cons_zero,List.set_cons_succ,i64_w,i32_w];rfl)
 refine one_ (i:=8) (N:=some 11) (bL 15 1023) rfl rfl (one_of HT_.out (by kernel_rfl)) (by decide) (fun K hK=> ?_)
 refine goes_ Try.func135 (by kernel_rfl) rfl #[.slice As Ah.length At] (by rfl) rfl rfl mp_q ?_
 with_reducible refine (impl_copyRecords.calls k _ _ Ah Bc _ ?_ ?_ A4.out).mono ?_
 exact ch_ Bj HB
 exact Bk.out
 rintro e w10 ⟨v607,rfl,ho0,hb⟩
 refine ⟨_,rfl,?_⟩
 replace Aj:=rb_ Aj hb;replace Ak:=rb_ Ak hb;replace Au:=rb_ Au hb;have Ax:=ak (Kd.S_lower ho0 (below_size (bw_q HB)));replace Aa:=bb_ Aa hb;replace Ab:=bb_ Ab hb;replace HB:=hB_ HB hb;(try clear ho0);obtain ⟨Ao12,co12,eo12⟩:=Kd.R_slice Aj.out
 (first | subst eo12 | (injection eo12 with f1_ f2_ f3_;have f4_:=f1_.symm;have f5_:=f3_.symm;clear f1_ f2_ f3_;subst f4_;subst f5_))
 obtain ⟨Ao14,co14,eo14⟩:=Kd.R_slice Ak.out
 (first | subst eo14 | (injection eo14 with f1_ f2_ f3_;have f4_:=f1_.symm;have f5_:=f3_.symm;clear f1_ f2_ f3_;subst f4_;subst f5_))
 obtain ⟨Ao16,co16,eo16⟩:=Kd.R_slice Au.out
 (first | subst eo16 | (injection eo16 with f1_ f2_ f3_;have f4_:=f1_.symm;have f5_:=f3_.symm;clear f1_ f2_ f3_;subst f4_;subst f5_))
 obtain ⟨Ao18,co18,eo18⟩:=Kd.S_slice Ax.out
 (first | subst eo18 | (injection eo18 with f1_ f2_ f3_;have f4_:=f1_.symm;have f5_:=f3_.symm;clear f1_ f2_ f3_;subst f4_;subst f5_))
 refine hK.out _ _ (cz7_ Aa) (fun hHeld=> ?_)
 clear hK K
 refine norm_ (a':=?_) ?_ ?_;rotate_left;(show Act.put _ (some 11) _=_;simp only [Act.put,List.setIfInBounds_toArray,List.set_cons_zero,List.set_cons_succ,i64_w,i32_w];rfl)
 refine last_ (i:=10) (N:=none) (bL 15 2047) rfl rfl (one_of HT_.out (by kernel_rfl)) (by decide) (fun K hK=> ?_)
 have hs11:w10.cell? ⟨Ai,2,none⟩=some (.int .i64 Al):=(blk_cell Aa.out 2).trans rfl
 have hfs11:=blk_frozen Aa.out 2;have hns11_1:=Ad.out;have hms11_1:=Ac.out
 have hs13:w10.cell? ⟨Ai,3,none⟩=some (.slice Am Ae.length An):=(blk_cell Aa.out 3).trans rfl
 have hfs13:=blk_frozen Aa.out 3;have hns13_1:=Ad.out;have hms13_1:=Ac.out
 have hs15:w10.cell? ⟨Ai,4,none⟩=some (.slice Ao Af.length Ap):=(blk_cell Aa.out 4).trans rfl
 have hfs15:=blk_frozen Aa.out 4;have hns15_1:=Ad.out;have hms15_1:=Ac.out
 refine skip_ (w1:=?_) (by rfl) rfl ?_ ?_
 rotate_left
 ·go_simp
  rfl
 refine hK.out _ _ ?_
 clear hK K
 refine pQ_ 11 HT_ ?_
 refine last_ (i:=12) (N:=none) (bL 15 8191) rfl rfl (one_of HT_.out (by kernel_rfl)) (by decide) (fun K hK=> ?_)
 have hs17:w10.cell? ⟨Ai,5,none⟩=some (.slice Aq Ag.length Ar):=(blk_cell Aa.out 5).trans rfl
 have hfs17:=blk_frozen Aa.out 5;have hns17_1:=Ad.out;have hms17_1:=Ac.out
 refine skip_ (w1:=?_) (by rfl) rfl ?_ ?_
 rotate_left
 ·go_simp
  rfl
 refine hK.out _ _ ?_
 clear hK K
 refine pQ_ 13 HT_ ?_
 refine last_ (i:=14) (N:=none) (bL 15 32767) rfl rfl (one_of HT_.out (by kernel_rfl)) (by decide) (fun K hK=> ?_)
 have hs19:w10.cell? ⟨Ai,6,none⟩=some (.slice As Ah.length At):=(blk_cell Aa.out 6).trans rfl
 have hfs19:=blk_frozen Aa.out 6;have hns19_1:=Ad.out;have hms19_1:=Ac.out
 refine skip_ (w1:=?_) (by rfl) rfl ?_ ?_
 rotate_left
 ·go_simp
  rfl
 refine hK.out _ _ ?_
 clear hK K
 refine done_ (done_of HT_.out (by kernel_rfl)) ?_
 have Cq:=Ac.out;have Cr:=Ad.out;obtain ⟨Bm,Bn,Bo,Bp,Bq,Br,Bs,Bt,Bu,Bv,Bw,Bx,By,Bz⟩:=cf7_ Aa;obtain ⟨Ca,Cb,Cc,Cd,Ce,Cf,Cg,Ch,Ci,Cj,Ck,Cl,Cm,Cn⟩:=cf7_ Ab
 try go_wp2
 refine bodyPost_ret (results_cell_row rfl _ _ Bl 43 #[.int .i64 Av,.int .i64 Aw,.int .i64 Ay,.slice Ao12 Az.length co12,.slice Ao14 Ba.length co14,.slice Ao16 Bb.length co16,.slice Ao18 Bc.length co18] (0,0) _ rfl (bp_ Ab) Try.underlying43 rfl (by kernel_rfl)) rfl ?_
 exact ⟨_,_,_,_,er_q,by exact Kd.R_mono (rF_ (Kd.R_types (Kd.R_types Aj.out Aa.out (by decide)) Ab.out (by decide))) (fun _ hk=> trivial),by exact Kd.R_mono (rF_ (Kd.R_types (Kd.R_types Ak.out Aa.out (by decide)) Ab.out (by decide))) (fun _ hk=> trivial),by exact Kd.R_mono (rF_ (Kd.R_types (Kd.R_types Au.out Aa.out (by decide)) Ab.out (by decide))) (fun _ hk=> trivial),by exact Kd.S_mono (sF_ (Kd.S_types (Kd.S_types Ax.out Aa.out (by decide)) Ab.out (by decide))) (fun _ hk=> trivial),bw_q HB⟩

/-! ### impl_SameKey: function 69 -/
def impl_SameKey.f (a:Int) (b:Int) (c:Int) (d:Int) (j:Int) (l:List (S127)) (m:Int) (n:Bool) (e:Int) (g:Int) (h:Int) (i:Int) (o:Int) (p:List (S127)) (q:Int) (s:Bool):Option (Bool):=if a=e then (if b=g then (if c=h then (some (d==i)) else (some false)) else (some false)) else (some false)
set_option maxHeartbeats 8000000 in
set_option maxRecDepth 100000 in
theorem impl_SameKey.calls (Ag:Int) (Ah:Int) (Ai:Int) (Am:Int) (An:Int) (Ao:Option Addr) (Ap:Nat) (Ad:List (S127)) (Aq:Int) (Ar:Bool) (Aj:Int) (Ak:Int) (Al:Int) (As:Int) (At:Int) (Au:Option Addr) (Av:Nat) (Ae:List (S127)) (Aw:Int) (Ax:Bool) (r:Bool) (w:World) (hr0_5:Kd.C k127 w Ao Ad.length Ad) (hc0_5:Ad.length≤Ap) (hr1_5:Kd.C k127 w Au Ae.length Ae) (hc1_5:Ae.length≤Av) (h:impl_SameKey.f Ag Ah Ai Am An Ad Aq Ar Aj Ak Al As At Ae Aw Ax=some r):
  Calls Try.prog 69 #[.agg #[.int .i64 Ag,.int .i64 Ah,.int .i64 Ai,.int .i64 Am,.int .i64 An,.slice Ao Ad.length Ap,.int .i64 Aq,.bool Ar],.agg #[.int .i64 Aj,.int .i64 Ak,.int .i64 Al,.int .i64 As,.int .i64 At,.slice Au Ae.length Av,.int .i64 Aw,.bool Ax]] w fun e w'=> e=.returned (.bool r)∧Below w.heap.size w w':=by
 have hu61:=Try.underlying61;have Gg:=ak hr0_5;have Gh:=ak hc0_5;clear hr0_5 hc0_5;have Gi:=ak hr1_5;have Gj:=ak hc1_5;clear hr1_5 hc1_5;have HB:=ak (Below.refl w.heap.size w);have H:=h
 clear h;unfold impl_SameKey.f at H
 by_cases c3:Ag=Aj
 ·rw [if_pos c3] at H;have Bc:=bqi c3;have Bd:=bnf c3;clear c3
  by_cases c4:Ah=Ak
  ·rw [if_pos c4] at H;have Be:=bqi c4;have Bf:=bnf c4;clear c4
   by_cases c5:Ai=Al
   ·rw [if_pos c5] at H;have Bg:=bqi c5;have Bh:=bnf c5
    clear c5;obtain rfl:=Option.some.inj H
    go_enter Try.func69,Try.ntmps69
    go_wp2_with (first | ((with_reducible refine gate_dst (N:=2) rfl ?_);refine box_q 2 #[.int .i64 Ag,.int .i64 Ah,.int .i64 Ai,.int .i64 Am,.int .i64 An,.slice Ao Ad.length Ap,.int .i64 Aq,.bool Ar] 61 ?_;intro Ay hg w6 hbox hb;have Aa:=ak (hbox);have Az:=gs_ HB hg;replace HB:=hB_ HB hb;clear hb hbox hg) | ((with_reducible refine gate_dst (N:=3) rfl ?_);refine box_q 3 #[.int .i64 Aj,.int .i64 Ak,.int .i64 Al,.int .i64 As,.int .i64 At,.slice Au Ae.length Av,.int .i64 Aw,.bool Ax] 61 ?_;intro Ba hg w7 hbox hb;have Af:=ak (hbox);have Bb:=gs_ HB hg;replace HB:=hB_ HB hb;have Ab:=nb_ Aa hg;have Ac:=nB_ Aa hg;replace Aa:=bb_ Aa hb;clear hb hbox hg;have Gq:=Ab.out;have Gr:=Ac.out;obtain ⟨Fq,Fr,Fs,Ft,Fu,Fv,Fw,Fx,Fy,Fz,Ga,Gb,Gc,Gd,Ge,Gf⟩:=cf8_ Aa;obtain ⟨Bi,Bj,Bk,Bl,Bm,Bn,Bo,Bp,Bq,Br,Bs,Bt,Bu,Bv,Bw,Bx⟩:=cf8_ Af))
    go_ret
    exact ⟨er_q,bw_q HB⟩
   ·rw [if_neg c5] at H;have Bg:=bqf c5;have Bh:=bni c5;obtain rfl:=Option.some.inj H
    go_enter Try.func69,Try.ntmps69
    go_wp2_with (first | ((with_reducible refine gate_dst (N:=2) rfl ?_);refine box_q 2 #[.int .i64 Ag,.int .i64 Ah,.int .i64 Ai,.int .i64 Am,.int .i64 An,.slice Ao Ad.length Ap,.int .i64 Aq,.bool Ar] 61 ?_;intro Ay hg w11 hbox hb;have Aa:=ak (hbox);have Az:=gs_ HB hg;replace HB:=hB_ HB hb;clear hb hbox hg) | ((with_reducible refine gate_dst (N:=3) rfl ?_);refine box_q 3 #[.int .i64 Aj,.int .i64 Ak,.int .i64 Al,.int .i64 As,.int .i64 At,.slice Au Ae.length Av,.int .i64 Aw,.bool Ax] 61 ?_;intro Ba hg w12 hbox hb;have Af:=ak (hbox);have Bb:=gs_ HB hg;replace HB:=hB_ HB hb;have Ab:=nb_ Aa hg;have Ac:=nB_ Aa hg;replace Aa:=bb_ Aa hb;clear hb hbox hg;have Gk:=Ab.out;have Gl:=Ac.out;obtain ⟨By,Bz,Ca,Cb,Cc,Cd,Ce,Cf,Cg,Ch,Ci,Cj,Ck,Cl,Cm,Cn⟩:=cf8_ Aa;obtain ⟨Co,Cp,Cq,Cr,Cs,Ct,Cu,Cv,Cw,Cx,Cy,Cz,Da,Db,Dc,Dd⟩:=cf8_ Af))
    go_ret
    exact ⟨er_q,bw_q HB⟩
  ·rw [if_neg c4] at H;have Be:=bqf c4;have Bf:=bni c4;obtain rfl:=Option.some.inj H
   go_enter Try.func69,Try.ntmps69
   go_wp2_with (first | ((with_reducible refine gate_dst (N:=2) rfl ?_);refine box_q 2 #[.int .i64 Ag,.int .i64 Ah,.int .i64 Ai,.int .i64 Am,.int .i64 An,.slice Ao Ad.length Ap,.int .i64 Aq,.bool Ar] 61 ?_;intro Ay hg w16 hbox hb;have Aa:=ak (hbox);have Az:=gs_ HB hg;replace HB:=hB_ HB hb;clear hb hbox hg) | ((with_reducible refine gate_dst (N:=3) rfl ?_);refine box_q 3 #[.int .i64 Aj,.int .i64 Ak,.int .i64 Al,.int .i64 As,.int .i64 At,.slice Au Ae.length Av,.int .i64 Aw,.bool Ax] 61 ?_;intro Ba hg w17 hbox hb;have Af:=ak (hbox);have Bb:=gs_ HB hg;replace HB:=hB_ HB hb;have Ab:=nb_ Aa hg;have Ac:=nB_ Aa hg;replace Aa:=bb_ Aa hb;clear hb hbox hg;have Gm:=Ab.out;have Gn:=Ac.out;obtain ⟨De,Df,Dg,Dh,Di,Dj,Dk,Dl,Dm,Dn,Do,Dp,Dq,Dr,Ds,Dt⟩:=cf8_ Aa;obtain ⟨Du,Dv,Dw,Dx,Dy,Dz,Ea,Eb,Ec,Ed,Ee,Ef,Eg,Eh,Ei,Ej⟩:=cf8_ Af))
   go_ret
   exact ⟨er_q,bw_q HB⟩
 ·rw [if_neg c3] at H;have Bc:=bqf c3;have Bd:=bni c3;obtain rfl:=Option.some.inj H
  go_enter Try.func69,Try.ntmps69
  go_wp2_with (first | ((with_reducible refine gate_dst (N:=2) rfl ?_);refine box_q 2 #[.int .i64 Ag,.int .i64 Ah,.int .i64 Ai,.int .i64 Am,.int .i64 An,.slice Ao Ad.length Ap,.int .i64 Aq,.bool Ar] 61 ?_;intro Ay hg w21 hbox hb;have Aa:=ak (hbox);have Az:=gs_ HB hg;replace HB:=hB_ HB hb;clear hb hbox hg) | ((with_reducible refine gate_dst (N:=3) rfl ?_);refine box_q 3 #[.int .i64 Aj,.int .i64 Ak,.int .i64 Al,.int .i64 As,.int .i64 At,.slice Au Ae.length Av,.int .i64 Aw,.bool Ax] 61 ?_;intro Ba hg w22 hbox hb;have Af:=ak (hbox);have Bb:=gs_ HB hg;replace HB:=hB_ HB hb;have Ab:=nb_ Aa hg;have Ac:=nB_ Aa hg;replace Aa:=bb_ Aa hb;clear hb hbox hg;have Go:=Ab.out;have Gp:=Ac.out;obtain ⟨Ek,El,Em,En,Eo,Ep,Eq,Er,Es,Et,Eu,Ev,Ew,Ex,Ey,Ez⟩:=cf8_ Aa;obtain ⟨Fa,Fb,Fc,Fd,Fe,Ff,Fg,Fh,Fi,Fj,Fk,Fl,Fm,Fn,Fo,Fp⟩:=cf8_ Af))
  go_ret
  exact ⟨er_q,bw_q HB⟩

/-! ### impl_keyAt: function 107 -/
def impl_keyAt.l0:Nat→List (S61)→Int→Int→Int→Int→Int→Int→Int→List (S127)→Int→Bool→Option (Int)
 | 0,_,_,_,_,_,_,_,_,_,_,_=> none
 | k+1,b,n,a,c,d,e,g,h,i,j,l=> if a<n then (if 0≤a then (if a<(b.length:Int) then ((impl_SameKey.f ((rd_T61 b a).f0) ((rd_T61 b a).f1) ((rd_T61 b a).f2) ((rd_T61 b a).f3) ((rd_T61 b a).f4) ((rd_T61 b a).f5) ((rd_T61 b a).f6) ((rd_T61 b a).f7) c d e g h i j l).bind fun m=> (if m=true then (some a) else (impl_keyAt.l0 k b n (wrap64 (a+1)) c d e g h i j l))) else (none)) else (none)) else (some (-1))
def impl_keyAt.f (k:Nat) (l0:List (S61)) (a:Int) (b:Int) (c:Int) (d:Int) (e:Int) (g:List (S127)) (h:Int) (i:Bool):Option (Int):=impl_keyAt.l0 k l0 (l0.length:Int) 0 a b c d e g h i
theorem impl_keyAt.mono_l:∀k,(∀y0 y1 y2 y3 y4 y5 y6 y7 y8 y9 y10,LeO (impl_keyAt.l0 k y0 y1 y2 y3 y4 y5 y6 y7 y8 y9 y10) (impl_keyAt.l0 (k+1) y0 y1 y2 y3 y4 y5 y6 y7 y8 y9 y10))
 | 0=> fun _ _ _ _ _ _ _ _ _ _ _ r h=> by simp [impl_keyAt.l0] at h
 | k+1=> by
  have ih0:=impl_keyAt.mono_l k
  ·intro y0 y1 y2 y3 y4 y5 y6 y7 y8 y9 y10
   unfold impl_keyAt.l0
   with_reducible repeat' (first | apply ih0 | exact LeO.refl _ | exact LeO.none _ | refine LeO.ite ?_ ?_ | refine LeO.bind ?_ (fun _=> ?_))
theorem impl_keyAt.mono:∀a0 a1 a2 a3 a4 a5 a6 a7 a8 k,LeO (impl_keyAt.f k a0 a1 a2 a3 a4 a5 a6 a7 a8) (impl_keyAt.f (k+1) a0 a1 a2 a3 a4 a5 a6 a7 a8):=by
 intro a0 a1 a2 a3 a4 a5 a6 a7 a8 k
 have ih0:=impl_keyAt.mono_l k
 unfold impl_keyAt.f
 with_reducible repeat' (first | apply ih0 | exact LeO.refl _ | exact LeO.none _ | refine LeO.ite ?_ ?_ | refine LeO.bind ?_ (fun _=> ?_))
set_option maxHeartbeats 8000000 in
set_option maxRecDepth 100000 in
theorem impl_keyAt.calls (k:Nat) (A0:Option Addr) (c0:Nat) (l0:List (S61)) (Ad:Int) (Ae:Int) (Af:Int) (Ag:Int) (Ah:Int) (As:Option Addr) (At:Nat) (Ac:List (S127)) (Ai:Int) (Aj:Bool) (r:Int) (w:World) (hr0:Kd.C k61 w A0 l0.length l0) (hc0:l0.length≤c0) (hr1_5:Kd.C k127 w As Ac.length Ac) (hc1_5:Ac.length≤At) (h:impl_keyAt.f k l0 Ad Ae Af Ag Ah Ac Ai Aj=some r):
  Calls Try.prog 107 #[.slice A0 l0.length c0,.agg #[.int .i64 Ad,.int .i64 Ae,.int .i64 Af,.int .i64 Ag,.int .i64 Ah,.slice As Ac.length At,.int .i64 Ai,.bool Aj]] w fun e w'=> e=.returned (.int .i64 r)∧Below w.heap.size w w':=by
 have hu61:=Try.underlying61;have HR0:=ak hr0;have Cu:=ak hc0;clear hr0 hc0;have Ba:=ak hr1_5;have Bb:=ak hc1_5;clear hr1_5 hc1_5;have HB:=ak (Below.refl w.heap.size w);have H:=h
 clear h;unfold impl_keyAt.f at H;have H':=ak H;clear H
 go_enter Try.func107,Try.ntmps107
 go_wp2_with (first | ((with_reducible refine gate_dst (N:=3) rfl ?_);refine box_q 3 #[.int .i64 Ad,.int .i64 Ae,.int .i64 Af,.int .i64 Ag,.int .i64 Ah,.slice As Ac.length At,.int .i64 Ai,.bool Aj] 61 ?_;intro Bc hg w3 hbox hb;have Ab:=ak (hbox);have Cm:=gs_ HB hg;replace HB:=hB_ HB hb;clear hb hbox hg))
 go_loopg [9] k (fun kq v9 w'=> ∃(Aa:Int),v9=.int .i64 Aa∧Aside0 (impl_keyAt.l0 kq l0 (l0.length:Int) Aa Ad Ae Af Ag Ah Ac Ai Aj=some r)∧Aside0 (kq≤k)∧Aside0 (w'.heap[Bc]? =some (.cells #[.int .i64 Ad,.int .i64 Ae,.int .i64 Af,.int .i64 Ag,.int .i64 Ah,(.slice As Ac.length At),.int .i64 Ai,.bool Aj] 61 (0,0)))∧Aside0 (Below w.heap.size w w'))
 case atStart=> exact ⟨(0),rs_q,H',⟨Nat.le_refl _⟩,⟨bk_q Ab⟩,⟨bw_q HB⟩⟩
 case round=>
  clear H';(try clear c1);(try clear p2);obtain ⟨Aa,rfl,HA,Bd,Ab,HB⟩:=hrel
  cases gk with
  | zero=> exact absurd HA.out (by simp [impl_keyAt.l0])
  | succ k1=>
   have H:=HA.out;clear HA
   simp only [impl_keyAt.l0] at H
   by_cases c4:Aa<(l0.length:Int)
   ·rw [if_pos c4] at H;have Bf:=decide_eq_true c4;clear c4
    by_cases c5:0≤Aa
    ·rw [if_pos c5] at H;have Cs:=decide_eq_true c5;clear c5
     by_cases c6:Aa<(l0.length:Int)
     ·rw [if_pos c6] at H;have Ct:=decide_eq_true c6
      clear c6;replace H:=bsi H;obtain ⟨Az,A70,H⟩:=H
      (try dsimp only at H)
      have A7:=ak A70;clear A70;have Be:=ak H;clear H
      have p612:0≤(Aa:Int):=of_decide_eq_true as_q
      have q612:Aa<(l0.length:Int):=of_decide_eq_true as_q
      obtain ⟨Cn,A612_5,c612_5,e612,Ak,Al,Am,An,Ao,Ap,Aq,Ar,hl612_5,hi612_5⟩:=at_T61 HR0.out Aa p612 q612
      cases e612
      obtain ⟨Ak,Al,Am,An,Ao,Ap,Aq,Ar⟩:=hb8_ HB Ak Al Am An Ao Ap Aq Ar;have Ax:=ak hi612_5;have Ay:=ak hl612_5;clear hi612_5 hl612_5;replace p612:=eq_true p612;replace q612:=eq_true q612
      go_upto_if 16 with (first | ((with_reducible refine gate_dst (N:=6) rfl ?_);refine box_q 6 #[.int .i64 0,.int .i64 0,.int .i64 0,.int .i64 0,.int .i64 0,.slice none 0 0,.int .i64 0,.bool false] 61 ?_;intro Co hg w9 hbox hb;have Au:=ak (hbox);have Cp:=gs_ HB hg;replace HB:=hB_ HB hb;have Av:=nb_ Ab hg;have Aw:=nB_ Ab hg;replace Ab:=bb_ Ab hb;clear hb hbox hg;have Cq:=Aw.out;have Cr:=Av.out;obtain ⟨Bg,Bh,Bi,Bj,Bk,Bl,Bm,Bn,Bo,Bp,Bq,Br,Bs,Bt,Bu,Bv⟩:=cf8_ Au;obtain ⟨Bw,Bx,By,Bz,Ca,Cb,Cc,Cd,Ce,Cf,Cg,Ch,Ci,Cj,Ck,Cl⟩:=cf8_ Ab) | ((with_reducible refine gC_ 69 ?_);refine gL_ 16 Try.func69 #[.agg #[.int .i64 ((rd_T61 l0 Aa).f0),.int .i64 ((rd_T61 l0 Aa).f1),.int .i64 ((rd_T61 l0 Aa).f2),.int .i64 ((rd_T61 l0 Aa).f3),.int .i64 ((rd_T61 l0 Aa).f4),.slice A612_5 ((rd_T61 l0 Aa).f5).length c612_5,.int .i64 ((rd_T61 l0 Aa).f6),.bool ((rd_T61 l0 Aa).f7)],.agg #[.int .i64 Ad,.int .i64 Ae,.int .i64 Af,.int .i64 Ag,.int .i64 Ah,.slice As Ac.length At,.int .i64 Ai,.bool Aj]] ?_;(with_reducible refine (impl_SameKey.calls ((rd_T61 l0 Aa).f0) ((rd_T61 l0 Aa).f1) ((rd_T61 l0 Aa).f2) ((rd_T61 l0 Aa).f3) ((rd_T61 l0 Aa).f4) _ _ ((rd_T61 l0 Aa).f5) ((rd_T61 l0 Aa).f6) ((rd_T61 l0 Aa).f7) Ad Ae Af Ag Ah _ _ Ac Ai Aj Az _ ?_ ?_ ?_ ?_ A7.out).mono ?_);exact Kd.C_below Ax.out (bw_q HB);exact Ay.out;exact Kd.C_below Ba.out (bw_q HB);exact Bb.out;rintro e w13 ⟨rfl,hb⟩;refine ⟨_,rfl,?_⟩;replace Ab:=bF_ Ab hb;replace Au:=bB_ #[.int .i64 ((rd_T61 l0 Aa).f0),.int .i64 ((rd_T61 l0 Aa).f1),.int .i64 ((rd_T61 l0 Aa).f2),.int .i64 ((rd_T61 l0 Aa).f3),.int .i64 ((rd_T61 l0 Aa).f4),.slice A612_5 ((rd_T61 l0 Aa).f5).length c612_5,.int .i64 ((rd_T61 l0 Aa).f6),.bool ((rd_T61 l0 Aa).f7)] Au hb;replace HB:=hB_ HB hb))
      (try clear Ak);(try clear Al);(try clear Am);(try clear An);(try clear Ao);(try clear Ap);(try clear Aq);(try clear Ar);have H:=Be.out;clear Be
      by_cases c14:Az=true
      ·subst c14;rw [if_pos rfl] at H;obtain rfl:=Option.some.inj H
       go_wp2
       go_ret
       exact ⟨er_q,bw_q HB⟩
      ·replace c14:=Bool.eq_false_iff.mpr c14;subst c14
       rw [if_neg (show ¬(false=true) by decide)] at H
       have H':=ak H;clear H
       go_wp2
       go_roundg k1
       case measure=> have:=Bd.out;omega
       case rel=> exact ⟨(wrap64 (Aa+1)),rs_q,H',⟨by have:=Bd.out;omega⟩,⟨bk_q Ab⟩,⟨bw_q HB⟩⟩
     ·rw [if_neg c6] at H
      exact absurd H (by simp)
    ·rw [if_neg c5] at H
     exact absurd H (by simp)
   ·rw [if_neg c4] at H;have Bf:=decide_eq_false c4
    clear c4;obtain rfl:=Option.some.inj H
    go_wp2
    go_ret
    exact ⟨er_q,bw_q HB⟩

end Go.Proofs.Ythjmdiggglkeaaa.Q
