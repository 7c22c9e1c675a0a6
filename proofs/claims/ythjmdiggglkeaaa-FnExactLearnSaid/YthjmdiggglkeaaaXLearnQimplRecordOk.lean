import Derived.Test.YthjmdiggglkeaaaXLearnQlawsszRecordS
import Derived.Test.YthjmdiggglkeaaaXLearnQimplless
/- The contract of a Go function. -/





namespace Go.Proofs.Ythjmdiggglkeaaa.Q
open Go.RowKit Go.Proofs.YthjmdiggglkeaaaW.PrintWords Go.Proofs.YthjmdiggglkeaaaW.PrintLast Go.Proofs.YthjmdiggglkeaaaW.PrintMore
attribute [local go_sem] max2_int min2_int max_two min_two max_three min_three max_four min_four   -- for this text's walks alone
set_option linter.unusedVariables false
set_option linter.unusedSimpArgs false

/-! ### impl_NetOk: function 18 -/
mutual
def impl_NetOk.j0:Nat→Bool→Int→List (S93)→List (S102)→Option (Bool)
 | 0,_,_,_,_=> none
 | k+1,d,b,a,c=> if d=true then (some false) else (impl_NetOk.l0 k a (a.length:Int) 0 b a c)
def impl_NetOk.l0:Nat→List (S93)→Int→Int→Int→List (S93)→List (S102)→Option (Bool)
 | 0,_,_,_,_,_,_=> none
 | k+1,d,g,a,e,b,c=> if a<g then (if 0≤a then (if a<(d.length:Int) then ((impl_LinkOk.f e ((rd_T93 d a).f0) ((rd_T93 d a).f1) ((rd_T93 d a).f2) ((rd_T93 d a).f3)).bind fun h=> (if h=true then (if a > 0 then (if 0≤(wrap64 (a-1)) then (if (wrap64 (a-1))<(b.length:Int) then ((impl_ahead.f ((rd_T93 b (wrap64 (a-1))).f0) ((rd_T93 b (wrap64 (a-1))).f1) ((rd_T93 b (wrap64 (a-1))).f2) ((rd_T93 b (wrap64 (a-1))).f3) ((rd_T93 d a).f0) ((rd_T93 d a).f1) ((rd_T93 d a).f2) ((rd_T93 d a).f3)).bind fun i=> (if i=true then (impl_NetOk.l0 k d g (wrap64 (a+1)) e b c) else (some false))) else (none)) else (none)) else (impl_NetOk.l0 k d g (wrap64 (a+1)) e b c)) else (some false))) else (none)) else (none)) else (impl_NetOk.l1 k c (c.length:Int) 0 e b c)
def impl_NetOk.l1:Nat→List (S102)→Int→Int→Int→List (S93)→List (S102)→Option (Bool)
 | 0,_,_,_,_,_,_=> none
 | k+1,c,g,a,d,e,b=> if a<g then (if 0≤a then (if a<(c.length:Int) then ((impl_in.f ((rd_T102 c a).f1) 1 9).bind fun h=> (if h=true then ((impl_in.f ((rd_T102 c a).f0) 1 d).bind fun i=> (if i=true then ((impl_in.f ((rd_T102 c a).f2) 1 1000).bind fun j=> (if j=true then (if a > 0 then (if 0≤(wrap64 (a-1)) then (if (wrap64 (a-1))<(b.length:Int) then ((impl_less.f ((rd_T102 b (wrap64 (a-1))).f0) ((rd_T102 b (wrap64 (a-1))).f1) ((rd_T102 b (wrap64 (a-1))).f2) ((rd_T102 b (wrap64 (a-1))).f3) ((rd_T102 c a).f0) ((rd_T102 c a).f1) ((rd_T102 c a).f2) ((rd_T102 c a).f3)).bind fun l=> (if l=true then (impl_NetOk.l1 k c g (wrap64 (a+1)) d e b) else (some false))) else (none)) else (none)) else (impl_NetOk.l1 k c g (wrap64 (a+1)) d e b)) else (some false))) else (some false))) else (some false))) else (none)) else (none)) else (some true)
end
def impl_NetOk.f (k:Nat) (a:Int) (b:List (S93)) (c:List (S102)):Option (Bool):=(impl_in.f a 1 6).bind fun d=> (if d=true then (if (b.length:Int) > 12 then (impl_NetOk.j0 k true a b c) else (impl_NetOk.j0 k (decide ((c.length:Int) > 4)) a b c)) else (impl_NetOk.j0 k true a b c))
theorem impl_NetOk.mono_l:∀k,(∀y0 y1 y2 y3,LeO (impl_NetOk.j0 k y0 y1 y2 y3) (impl_NetOk.j0 (k+1) y0 y1 y2 y3))∧(∀y0 y1 y2 y3 y4 y5,LeO (impl_NetOk.l0 k y0 y1 y2 y3 y4 y5) (impl_NetOk.l0 (k+1) y0 y1 y2 y3 y4 y5))∧(∀y0 y1 y2 y3 y4 y5,LeO (impl_NetOk.l1 k y0 y1 y2 y3 y4 y5) (impl_NetOk.l1 (k+1) y0 y1 y2 y3 y4 y5))
 | 0=> ⟨fun _ _ _ _ r h=> by simp [impl_NetOk.j0] at h,fun _ _ _ _ _ _ r h=> by simp [impl_NetOk.l0] at h,fun _ _ _ _ _ _ r h=> by simp [impl_NetOk.l1] at h⟩
 | k+1=> by
  obtain ⟨ih0,ih1,ih2⟩:=impl_NetOk.mono_l k
  refine ⟨?_,?_,?_⟩
  ·intro y0 y1 y2 y3
   unfold impl_NetOk.j0
   with_reducible repeat' (first | apply ih0 | apply ih1 | apply ih2 | exact LeO.refl _ | exact LeO.none _ | refine LeO.ite ?_ ?_ | refine LeO.bind ?_ (fun _=> ?_))
  ·intro y0 y1 y2 y3 y4 y5
   unfold impl_NetOk.l0
   with_reducible repeat' (first | apply ih0 | apply ih1 | apply ih2 | exact LeO.refl _ | exact LeO.none _ | refine LeO.ite ?_ ?_ | refine LeO.bind ?_ (fun _=> ?_))
  ·intro y0 y1 y2 y3 y4 y5
   unfold impl_NetOk.l1
   with_reducible repeat' (first | apply ih0 | apply ih1 | apply ih2 | exact LeO.refl _ | exact LeO.none _ | refine LeO.ite ?_ ?_ | refine LeO.bind ?_ (fun _=> ?_))
theorem impl_NetOk.mono:∀a0 a1 a2 k,LeO (impl_NetOk.f k a0 a1 a2) (impl_NetOk.f (k+1) a0 a1 a2):=by
 intro a0 a1 a2 k
 obtain ⟨ih0,ih1,ih2⟩:=impl_NetOk.mono_l k
 unfold impl_NetOk.f
 with_reducible repeat' (first | apply ih0 | apply ih1 | apply ih2 | exact LeO.refl _ | exact LeO.none _ | refine LeO.ite ?_ ?_ | refine LeO.bind ?_ (fun _=> ?_))
def impl_NetOk.T6:Bool×List (List Nat×List Nat):=(true,[([],[]),([0],[0]),([],[]),([1,2],[1,2]),([3],[3]),([4,3],[4]),([5],[5]),([6,5],[5,6]),([7,5,5],[5,7]),([8],[8]),([9,8],[8,9]),([8],[8]),([11,8],[8,11]),([10,12,8],[8,10,12]),([13,8],[8,13]),([8],[8]),([14,15,8,8],[8,14,15]),([16,8],[8,16]),([8,17,5],[5,8,17]),([5,18],[5,18])])
def impl_NetOk.B6:List Nat:=[0,1,0,7,15,31,63,127,255,511,1023,511,2559,8191,16383,511,65535,131071,262143,524287]
theorem impl_NetOk.tab6:rtab .any (opsOf Try.f18 6)=impl_NetOk.T6:=by kernel_rfl
theorem impl_NetOk.bits6:waitsOk impl_NetOk.T6.2 impl_NetOk.B6=true:=by kernel_rfl
def impl_NetOk.T12:Bool×List (List Nat×List Nat):=(true,[([],[]),([0],[0]),([1],[1]),([2],[2]),([3,2],[3]),([4],[4]),([5,4],[4,5]),([4],[4]),([7,4],[4,7]),([6,8,4,4],[4,6,8]),([9,4],[4,9]),([4,10],[4,10]),([11,9],[11]),([12],[12]),([13,12],[12,13]),([14,12,12],[12,14]),([15,12],[12,15]),([12,16],[12,16]),([17,15],[17]),([18],[18]),([19,18],[18,19]),([20,18,18],[18,20]),([21],[21]),([22,21],[21,22]),([21],[21]),([24,21],[21,24]),([23,25,21],[21,23,25]),([26,21],[21,26]),([21],[21]),([27,28,21,21],[21,27,28]),([29,21],[21,29]),([21,30,18],[18,21,30]),([18,31],[18,31])])
def impl_NetOk.B12:List Nat:=[0,1,3,7,15,31,63,31,159,511,1023,2047,4095,8191,16383,32767,65535,131071,262143,524287,1048575,2097151,4194303,8388607,4194303,20971519,67108863,134217727,4194303,536870911,1073741823,2147483647,4294967295]
theorem impl_NetOk.tab12:rtab .any (opsOf Try.f18 12)=impl_NetOk.T12:=by kernel_rfl
theorem impl_NetOk.bits12:waitsOk impl_NetOk.T12.2 impl_NetOk.B12=true:=by kernel_rfl
set_option maxHeartbeats 8000000 in
set_option maxRecDepth 100000 in
theorem impl_NetOk.calls (k:Nat) (Af:Int) (An:Option Addr) (Ak:Nat) (Aa:List (S93)) (Ao:Option Addr) (Al:Nat) (Ab:List (S102)) (r:Bool) (w:World) (hr0_1:Kd.C k93 w An Aa.length Aa) (hc0_1:Aa.length≤Ak) (hr0_2:Kd.C k102 w Ao Ab.length Ab) (hc0_2:Ab.length≤Al) (h:impl_NetOk.f k Af Aa Ab=some r):
  Calls Try.prog 18 #[.agg #[.int .i64 Af,.slice An Aa.length Ak,.slice Ao Ab.length Al]] w fun e w'=> e=.returned (.bool r)∧Below w.heap.size w w':=by
 have hu31:=Try.underlying31;have hu93:=Try.underlying93;have hu102:=Try.underlying102;have Cl:=ak hr0_1;have Eq:=ak hc0_1;clear hr0_1 hc0_1;have Cm:=ak hr0_2;have Er:=ak hc0_2;clear hr0_2 hc0_2;have HB:=ak (Below.refl w.heap.size w);have H:=h
 clear h;unfold impl_NetOk.f at H;have Db:=ak H;clear H
 go_enter Try.func18,Try.ntmps18
 go_upto_region 1 with (first | ((with_reducible refine gate_dst (N:=1) rfl ?_);(try (refine gate_guard (by rfl) ?_;dsimp only));refine box_q 1 #[.int .i64 Af,.slice An Aa.length Ak,.slice Ao Ab.length Al] 31 ?_;intro Am hg w3 hbox hb;have Ae:=ak (hbox);have Es:=gs_ HB hg;replace HB:=hB_ HB hb;clear hb hbox hg))
 (try simp only [Act.put,List.setIfInBounds_toArray,List.set_cons_zero,List.set_cons_succ])
 go_cut [22] (fun v22 wc=> ∃(kq:Nat) (Bg:Bool),v22=.bool Bg∧Aside0 (impl_NetOk.j0 kq Bg Af Aa Ab=some r)∧Aside0 (kq≤k)∧Aside0 (wc.heap[Am]? =some (.cells #[.int .i64 Af,(.slice An Aa.length Ak),(.slice Ao Ab.length Al)] 31 (0,0)))∧Aside0 (Below w.heap.size w wc))
 case first=>
  have H:=Db.out;clear Db;replace H:=bsi H;obtain ⟨Dj,A40,H⟩:=H
  (try dsimp only at H)
  have A4:=ak A40;clear A40
  by_cases c5:Dj=true
  ·subst c5;rw [if_pos rfl] at H
   by_cases c6:(Aa.length:Int) > 12
   ·rw [if_pos c6] at H;have Au:=decide_eq_true c6
    have Av:decide (12<Aa.length)=true:=decide_eq_true (by omega)
    clear c6
    (first | rw [Au] | rw [Av] | (simp only [i64_w,i32_w];first | rw [Au] | rw [Av]) | skip)
    have H':=ak H;clear H;obtain ⟨Bp,Bq,Br,Bs,Bt,Bu⟩:=cf3_ Ae
    go_wp2_with (first | ((with_reducible refine gC_ 81 ?_);refine gL_ 9 Try.func81 #[.int .i64 Af,.int .i64 1,.int .i64 6] ?_;(with_reducible refine (impl_in.calls Af 1 6 true _ A4.out).mono ?_);rintro e w' ⟨rfl,⟨nd,rfl⟩⟩;refine ⟨_,rfl,?_⟩))
    go_meet
    case rel=> exact ⟨_,(true),rs_q,H',⟨by first | omega | exact Nat.le_refl _⟩,⟨bk_q Ae⟩,⟨bw_q HB⟩⟩
   ·rw [if_neg c6] at H;have Au:=decide_eq_false c6
    have Av:decide (12<Aa.length)=false:=decide_eq_false (by omega)
    clear c6
    (first | rw [Au] | rw [Av] | (simp only [i64_w,i32_w];first | rw [Au] | rw [Av]) | skip)
    have H':=ak H;clear H;obtain ⟨Bv,Bw,Bx,By,Bz,Ca⟩:=cf3_ Ae
    go_wp2_with (first | ((with_reducible refine gC_ 81 ?_);refine gL_ 9 Try.func81 #[.int .i64 Af,.int .i64 1,.int .i64 6] ?_;(with_reducible refine (impl_in.calls Af 1 6 true _ A4.out).mono ?_);rintro e w' ⟨rfl,⟨nd,rfl⟩⟩;refine ⟨_,rfl,?_⟩))
    go_meet
    case rel=> exact ⟨_,(decide ((Ab.length:Int) > 4)),rs_q,H',⟨by first | omega | exact Nat.le_refl _⟩,⟨bk_q Ae⟩,⟨bw_q HB⟩⟩
  ·replace c5:=Bool.eq_false_iff.mpr c5;subst c5
   rw [if_neg (show ¬(false=true) by decide)] at H
   have H':=ak H;clear H;obtain ⟨Cb,Cc,Cd,Ce,Cf,Cg⟩:=cf3_ Ae
   go_wp2_with (first | ((with_reducible refine gC_ 81 ?_);refine gL_ 9 Try.func81 #[.int .i64 Af,.int .i64 1,.int .i64 6] ?_;(with_reducible refine (impl_in.calls Af 1 6 false _ A4.out).mono ?_);rintro e w' ⟨rfl,⟨nd,rfl⟩⟩;refine ⟨_,rfl,?_⟩))
   go_meet
   case rel=> exact ⟨_,(true),rs_q,H',⟨by first | omega | exact Nat.le_refl _⟩,⟨bk_q Ae⟩,⟨bw_q HB⟩⟩
 case rest=>
  clear Db;(try clear c1);(try clear p2);(try clear c5);(try clear c6);(try clear Au);(try clear Av);(try clear c8)
  try clear Bp Bq Br
  try clear Bv Bw Bx
  try clear Cb Cc Cd
  try clear Bs Bt Bu
  try clear By Bz Ca
  try clear Ce Cf Cg
  obtain ⟨kq,Bg,rfl,HA,HJ1,Ae,HB⟩:=hcut
  cases kq with
  | zero=> exact absurd HA.out (by simp [impl_NetOk.j0])
  | succ kj1=>
   have H:=HA.out;clear HA
   simp only [impl_NetOk.j0] at H
   by_cases c10:Bg=true
   ·subst c10;rw [if_pos rfl] at H;obtain rfl:=Option.some.inj H
    go_wp2
    go_ret
    exact ⟨er_q,bw_q HB⟩
   ·replace c10:=Bool.eq_false_iff.mpr c10;subst c10
    rw [if_neg (show ¬(false=true) by decide)] at H
    have H':=ak H;clear H;obtain ⟨Cp,Cq,Cr,Cs,Ct,Cu⟩:=cf3_ Ae
    go_wp2
    go_loopg [26] kj1 (fun kq v26 w'=> ∃(Ac:Int),v26=.int .i64 Ac∧Aside0 (impl_NetOk.l0 kq Aa (Aa.length:Int) Ac Af Aa Ab=some r)∧Aside0 (kq≤kj1)∧Aside0 (w'.heap[Am]? =some (.cells #[.int .i64 Af,(.slice An Aa.length Ak),(.slice Ao Ab.length Al)] 31 (0,0)))∧Aside0 (Below w.heap.size w w'))
    case atStart=> exact ⟨(0),rs_q,H',⟨Nat.le_refl _⟩,⟨bk_q Ae⟩,⟨bw_q HB⟩⟩
    case round=>
     clear H';(try clear c1);(try clear p2);(try clear c5);(try clear c6);(try clear Au);(try clear Av);(try clear c8);(try clear c10)
     try clear Cp Cq Cr
     try clear Bp Bq Br
     try clear Bv Bw Bx
     try clear Cb Cc Cd
     try clear Cs Ct Cu
     try clear Bs Bt Bu
     try clear By Bz Ca
     try clear Ce Cf Cg
     (try clear p2);obtain ⟨Ac,rfl,HA,Bf,Ae,HB⟩:=hrel
     cases gk with
     | zero=> exact absurd HA.out (by simp [impl_NetOk.l0])
     | succ k2=>
      have H:=HA.out;clear HA
      simp only [impl_NetOk.l0] at H
      by_cases c12:Ac<(Aa.length:Int)
      ·rw [if_pos c12] at H;have Cn:=decide_eq_true c12;clear c12
       by_cases c13:0≤Ac
       ·rw [if_pos c13] at H;have Et:=decide_eq_true c13;clear c13
        by_cases c14:Ac<(Aa.length:Int)
        ·rw [if_pos c14] at H;have Eu:=decide_eq_true c14
         clear c14;replace H:=bsi H;obtain ⟨Dc,A150,H⟩:=H
         (try dsimp only at H)
         have A15:=ak A150;clear A150;have HZ1:=ak H;clear H
         have p172:0≤(Ac:Int):=of_decide_eq_true as_q
         have q172:Ac<(Aa.length:Int):=of_decide_eq_true as_q
         obtain ⟨Bh,e172,Ax,Ay,Az,Ba⟩:=at_T93 Cl.out Ac p172 q172
         cases e172
         obtain ⟨Ax,Ay,Az,Ba⟩:=hb4_ HB Ax Ay Az Ba;replace p172:=eq_true p172;replace q172:=eq_true q172
         try go_wp2_with (first | ((with_reducible refine gate_dst (N:=4) rfl ?_);(try (refine gate_guard (by rfl) ?_;dsimp only));refine box_q 4 #[.int .i64 0,.int .i64 0,.int .i64 0,.int .i64 0] 93 ?_;intro Ag hg w23 hbox hb;have Ai:=ak (hbox);have Ev:=gs_ HB hg;replace HB:=hB_ HB hb;have Ch:=nb_ Ae hg;have Ci:=nB_ Ae hg;replace Ae:=bb_ Ae hb;clear hb hbox hg;have Ew:=Ci.out;have Ex:=Ch.out;obtain ⟨Dk,Dl,Dm,Dn,Do,Dp,Dq,Dr⟩:=cf4_ Ai))
         have n0_:Aside0 (((((w23.setCell ⟨Ag,0,none⟩ (.int .i64 ((rd_T93 Aa Ac).f0))).setCell ⟨Ag,1,none⟩ (.int .i64 ((rd_T93 Aa Ac).f1))).setCell ⟨Ag,2,none⟩ (.int .i64 ((rd_T93 Aa Ac).f2))).setCell ⟨Ag,3,none⟩ (.int .i64 ((rd_T93 Aa Ac).f3))).heap[Am]? =some (.cells #[.int .i64 Af,.slice (some Bh) Aa.length Ak,.slice Ao Ab.length Al] 31 (0,0))):=⟨bp_ Ae⟩
         have n1_:Aside0 (((((w23.setCell ⟨Ag,0,none⟩ (.int .i64 ((rd_T93 Aa Ac).f0))).setCell ⟨Ag,1,none⟩ (.int .i64 ((rd_T93 Aa Ac).f1))).setCell ⟨Ag,2,none⟩ (.int .i64 ((rd_T93 Aa Ac).f2))).setCell ⟨Ag,3,none⟩ (.int .i64 ((rd_T93 Aa Ac).f3))).heap[Ag]? =some (.cells #[.int .i64 ((rd_T93 Aa Ac).f0),.int .i64 ((rd_T93 Aa Ac).f1),.int .i64 ((rd_T93 Aa Ac).f2),.int .i64 ((rd_T93 Aa Ac).f3)] 93 (0,0))):=⟨bp_ Ai⟩
         have n2_:Aside0 (Below w.heap.size w ((((w23.setCell ⟨Ag,0,none⟩ (.int .i64 ((rd_T93 Aa Ac).f0))).setCell ⟨Ag,1,none⟩ (.int .i64 ((rd_T93 Aa Ac).f1))).setCell ⟨Ag,2,none⟩ (.int .i64 ((rd_T93 Aa Ac).f2))).setCell ⟨Ag,3,none⟩ (.int .i64 ((rd_T93 Aa Ac).f3)))):=⟨bw_q HB⟩
         (try clear Ae);(try clear Ai);(try clear HB)
         generalize ((((w23.setCell ⟨Ag,0,none⟩ (.int .i64 ((rd_T93 Aa Ac).f0))).setCell ⟨Ag,1,none⟩ (.int .i64 ((rd_T93 Aa Ac).f1))).setCell ⟨Ag,2,none⟩ (.int .i64 ((rd_T93 Aa Ac).f2))).setCell ⟨Ag,3,none⟩ (.int .i64 ((rd_T93 Aa Ac).f3)))=w26 at n0_ n1_ n2_ ⊢
         have Ae:=n0_;have Ai:=n1_;have HB:=n2_;clear n0_ n1_ n2_;replace Ae:=ak (blk_drew Ae.out);replace Ai:=ak (blk_drew Ai.out);replace HB:=ak (below_drew1 HB.out)
         refine start_ (n:=20) (S:=fun w'=> cl3 w' Am (.int .i64 Af) (.slice (some Bh) Aa.length Ak) (.slice Ao Ab.length Al)∧cl4 w' Ag (.int .i64 ((rd_T93 Aa Ac).f0)) (.int .i64 ((rd_T93 Aa Ac).f1)) (.int .i64 ((rd_T93 Aa Ac).f2)) (.int .i64 ((rd_T93 Aa Ac).f3))) (ds:=[]) (bL 20 0) (by kernel_rfl) rfl rfl ⟨cz3_ Ae,cz4_ Ai⟩ (fun hHeld=> ?_);refine with_tabW impl_NetOk.tab6 impl_NetOk.bits6 (fun HT_ HW_=> ?_)
         generalize w26.drew=w27 at Ae Ai HB hHeld ⊢
         refine pQ_ 0 HT_ ?_
         refine take_ (i:=1) (N:=some 32) (v:=?_) (a':=?_) (bL 20 3) rfl rfl (take_ofW HT_.out HW_.out (by kernel_rfl)) (fun _ _ _ h=> h) (Or.inl ⟨by rfl,?_⟩) hHeld ?_ ?_;rotate_left;(rintro w' ⟨s0,s1⟩;go_simp;with_reducible rfl);rotate_left;(exact put_q)
         refine take_ (i:=2) (N:=some 33) (v:=?_) (a':=?_) (bL 20 7) rfl rfl (take_ofW HT_.out HW_.out (by kernel_rfl)) (fun _ _ _ h=> h) (Or.inl ⟨by rfl,?_⟩) hHeld ?_ ?_;rotate_left;(rintro w' ⟨s0,s1⟩;go_simp;with_reducible rfl);rotate_left;(exact put_q)
         refine one_ (i:=3) (N:=some 34) (bL 20 15) rfl rfl (one_of HT_.out (by kernel_rfl)) (by decide) (fun K hK=> ?_)
         refine goes_ Try.func66 (by kernel_rfl) rfl #[.int .i64 Af,.agg #[.int .i64 ((rd_T93 Aa Ac).f0),.int .i64 ((rd_T93 Aa Ac).f1),.int .i64 ((rd_T93 Aa Ac).f2),.int .i64 ((rd_T93 Aa Ac).f3)]] (by rfl) rfl rfl mp_q ?_
         with_reducible refine (impl_LinkOk.calls Af ((rd_T93 Aa Ac).f0) ((rd_T93 Aa Ac).f1) ((rd_T93 Aa Ac).f2) ((rd_T93 Aa Ac).f3) Dc _ A15.out).mono ?_
         rintro e w28 ⟨rfl,hb⟩
         refine ⟨_,rfl,?_⟩
         replace Ae:=bb_ Ae hb;replace Ai:=bb_ Ai hb;replace HB:=hB_ HB hb
         refine hK.out _ _ ⟨cz3_ Ae,cz4_ Ai⟩ (fun hHeld=> ?_)
         clear hK K
         refine norm_ (a':=?_) ?_ ?_;rotate_left;(show Act.put _ (some 34) _=_;simp only [Act.put,List.setIfInBounds_toArray,List.set_cons_zero,List.set_cons_succ,i64_w,i32_w];rfl)
         refine pQ_ 4 HT_ ?_
         refine pQ_ 5 HT_ ?_
         have H:=HZ1.out;clear HZ1
         by_cases c16:Dc=true
         ·subst c16;rw [if_pos rfl] at H;have HZ2:=ak H;clear H
          refine pQ_ 6 HT_ ?_
          refine pQ_ 7 HT_ ?_
          refine pQ_ 8 HT_ ?_
          have H:=HZ2.out;clear HZ2
          by_cases c17:Ac > 0
          ·rw [if_pos c17] at H;have Ap:=decide_eq_true c17
           (first | rw [Ap] | (simp only [i64_w,i32_w];first | rw [Ap]) | skip)
           clear c17;obtain ⟨ji18,hji18⟩:∃j_:Int,(wrap64 (Ac-1))=j_:=⟨_,rfl⟩
           replace H:(if 0≤(ji18) then (if (ji18)<(Aa.length:Int) then ((impl_ahead.f ((rd_T93 Aa (ji18)).f0) ((rd_T93 Aa (ji18)).f1) ((rd_T93 Aa (ji18)).f2) ((rd_T93 Aa (ji18)).f3) ((rd_T93 Aa Ac).f0) ((rd_T93 Aa Ac).f1) ((rd_T93 Aa Ac).f2) ((rd_T93 Aa Ac).f3)).bind fun Bn=> (if Bn=true then (impl_NetOk.l0 k2 Aa (Aa.length:Int) (wrap64 (Ac+1)) Af Aa Ab) else (some false))) else (none)) else (none))=some r:=by first | (rw [hji18] at H;exact H) | (simp only [hji18] at H ⊢;exact H)
           (try rw [hji18] at A15)
           have hji18w:(IntKind.i64.wrap (Ac-1))=ji18:=(i64_w _).trans hji18
           by_cases c19:0≤(ji18)
           ·rw [if_pos c19] at H;have Ey:=decide_eq_true c19;clear c19
            by_cases c20:(ji18)<(Aa.length:Int)
            ·rw [if_pos c20] at H;have Ez:=decide_eq_true c20
             clear c20;replace H:=bsi H;obtain ⟨Bn,A210,H⟩:=H
             (try dsimp only at H)
             have A21:=ak A210;clear A210;have HZ3:=ak H;clear H
             have p175:0≤((ji18):Int):=of_decide_eq_true as_q
             have q175:(ji18)<(Aa.length:Int):=of_decide_eq_true as_q
             obtain ⟨Dg,e175,Aq,Ar,As,At⟩:=at_T93 Cl.out (ji18) p175 q175;have hw175_3:=At;have hw175_2:=As;have hw175_1:=Ar;have hw175_0:=Aq
             obtain rfl:Bh=Dg:=(by injection e175)
             obtain ⟨Aq,Ar,As,At⟩:=hb4_ HB Aq Ar As At;replace p175:=eq_true p175;replace q175:=eq_true q175
             refine lw_ (fun w'=> el4 w' (Bh.add (((ji18)).toNat*4)) (.int .i64 ((rd_T93 Aa (ji18)).f0)) (.int .i64 ((rd_T93 Aa (ji18)).f1)) (.int .i64 ((rd_T93 Aa (ji18)).f2)) (.int .i64 ((rd_T93 Aa (ji18)).f3))) (hb4_ HB hw175_0 hw175_1 hw175_2 hw175_3) hHeld (fun hHeld=> ?_)
             refine pQ_ 9 HT_ ?_
             refine pQ_ 11 HT_ ?_
             refine pQ_ 12 HT_ ?_
             refine take_ (i:=10) (N:=some 41) (v:=?_) (a':=?_) (bL 20 8191) rfl rfl (take_ofW HT_.out HW_.out (by kernel_rfl)) (fun _ _ _ h=> h) (Or.inl ⟨by rfl,?_⟩) hHeld ?_ ?_;rotate_left;(rintro w' ⟨s0,s1⟩;go_simp;with_reducible rfl);rotate_left;(exact put_q)
             refine pQ_ 13 HT_ ?_
             refine take_ (i:=14) (N:=some 45) (v:=?_) (a':=?_) (bL 20 32767) rfl rfl (take_ofW HT_.out HW_.out (by kernel_rfl)) (fun _ _ _ h=> h) (Or.inl ⟨by rfl,?_⟩) hHeld ?_ ?_;rotate_left;(rintro w' ⟨s0,s1⟩;go_simp;with_reducible rfl);rotate_left;(exact put_q)
             refine take_ (i:=15) (N:=some 46) (v:=?_) (a':=?_) (bL 20 65535) rfl rfl (take_ofW HT_.out HW_.out (by kernel_rfl)) (fun _ _ _ h=> h) (Or.inl ⟨by rfl,?_⟩) hHeld ?_ ?_;rotate_left;(rintro w' ⟨s0,s1⟩;go_simp;with_reducible rfl);rotate_left;(exact put_q)
             refine one_ (i:=16) (N:=some 47) (bL 20 131071) rfl rfl (one_of HT_.out (by kernel_rfl)) (by decide) (fun K hK=> ?_)
             refine goes_ Try.func82 (by kernel_rfl) rfl #[.agg #[.int .i64 ((rd_T93 Aa (ji18)).f0),.int .i64 ((rd_T93 Aa (ji18)).f1),.int .i64 ((rd_T93 Aa (ji18)).f2),.int .i64 ((rd_T93 Aa (ji18)).f3)],.agg #[.int .i64 ((rd_T93 Aa Ac).f0),.int .i64 ((rd_T93 Aa Ac).f1),.int .i64 ((rd_T93 Aa Ac).f2),.int .i64 ((rd_T93 Aa Ac).f3)]] (by rfl) rfl rfl (by (try simp only [List.map_toArray,List.map_cons,List.map_nil]);first | done | (simp only [hji18];rfl) | rfl | (simp only [List.length_drop,List.length_take];rfl)) ?_
             with_reducible refine (impl_ahead.calls ((rd_T93 Aa (ji18)).f0) ((rd_T93 Aa (ji18)).f1) ((rd_T93 Aa (ji18)).f2) ((rd_T93 Aa (ji18)).f3) ((rd_T93 Aa Ac).f0) ((rd_T93 Aa Ac).f1) ((rd_T93 Aa Ac).f2) ((rd_T93 Aa Ac).f3) Bn _ A21.out).mono ?_
             rintro e w29 ⟨rfl,hb⟩
             refine ⟨_,rfl,?_⟩
             replace Ae:=bb_ Ae hb;replace Ai:=bb_ Ai hb;replace HB:=hB_ HB hb
             refine hK.out _ _ ⟨hb4_ HB hw175_0 hw175_1 hw175_2 hw175_3,⟨cz3_ Ae,cz4_ Ai⟩⟩ (fun hHeld=> ?_)
             clear hK K
             refine norm_ (a':=?_) ?_ ?_;rotate_left;(show Act.put _ (some 47) _=_;simp only [Act.put,List.setIfInBounds_toArray,List.set_cons_zero,List.set_cons_succ,i64_w,i32_w];rfl)
             refine pQ_ 17 HT_ ?_
             refine pQ_ 18 HT_ ?_
             refine pQ_ 19 HT_ ?_
             have H:=HZ3.out;clear HZ3
             by_cases c22:Bn=true
             ·subst c22;rw [if_pos rfl] at H;have H':=ak H;clear H
              refine done_ (done_of HT_.out (by kernel_rfl)) ?_
              try go_wp2
              go_roundg k2
              case measure=> have:=HJ1.out;have:=Bf.out;omega
              case rel=> exact ⟨(wrap64 (Ac+1)),rs_q,H',⟨by have:=HJ1.out;have:=Bf.out;omega⟩,⟨bk_q Ae⟩,⟨bw_q HB⟩⟩
             ·replace c22:=Bool.eq_false_iff.mpr c22;subst c22
              rw [if_neg (show ¬(false=true) by decide)] at H
              obtain rfl:=Option.some.inj H
              refine done_ (done_of HT_.out (by kernel_rfl)) ?_
              try go_wp2
              go_ret
              exact ⟨by first | rfl | (simp [errW_none,errW_some] <;> rfl) | (simp only [←hji18];first | rfl | (simp [errW_none,errW_some] <;> rfl)) | (simp [*,errW_none,errW_some] <;> rfl),bw_q HB⟩
            ·rw [if_neg c20] at H
             exact absurd H (by simp)
           ·rw [if_neg c19] at H
            exact absurd H (by simp)
          ·rw [if_neg c17] at H;have Ap:=decide_eq_false c17
           (first | rw [Ap] | (simp only [i64_w,i32_w];first | rw [Ap]) | skip)
           clear c17;have H':=ak H;clear H
           refine pU_ 9 HT_ ?_
           refine pU_ 10 HT_ ?_
           refine pU_ 11 HT_ ?_
           refine pU_ 12 HT_ ?_
           refine pU_ 13 HT_ ?_
           refine pU_ 14 HT_ ?_
           refine pU_ 15 HT_ ?_
           refine pU_ 16 HT_ ?_
           refine pU_ 17 HT_ ?_
           refine pQ_ 18 HT_ ?_
           refine pQ_ 19 HT_ ?_
           refine done_ (done_of HT_.out (by kernel_rfl)) ?_
           try go_wp2
           go_roundg k2
           case measure=> have:=HJ1.out;have:=Bf.out;omega
           case rel=> exact ⟨(wrap64 (Ac+1)),rs_q,H',⟨by have:=HJ1.out;have:=Bf.out;omega⟩,⟨bk_q Ae⟩,⟨bw_q HB⟩⟩
         ·replace c16:=Bool.eq_false_iff.mpr c16;subst c16
          rw [if_neg (show ¬(false=true) by decide)] at H
          obtain rfl:=Option.some.inj H
          refine pU_ 6 HT_ ?_
          refine pU_ 7 HT_ ?_
          refine pU_ 8 HT_ ?_
          refine pU_ 9 HT_ ?_
          refine pU_ 10 HT_ ?_
          refine pU_ 11 HT_ ?_
          refine pU_ 12 HT_ ?_
          refine pU_ 13 HT_ ?_
          refine pU_ 14 HT_ ?_
          refine pU_ 15 HT_ ?_
          refine pU_ 16 HT_ ?_
          refine pU_ 17 HT_ ?_
          refine pU_ 18 HT_ ?_
          refine pQ_ 19 HT_ ?_
          refine done_ (done_of HT_.out (by kernel_rfl)) ?_
          try go_wp2
          go_ret
          exact ⟨er_q,bw_q HB⟩
        ·rw [if_neg c14] at H
         exact absurd H (by simp)
       ·rw [if_neg c13] at H
        exact absurd H (by simp)
      ·rw [if_neg c12] at H;have Cn:=decide_eq_false c12
       clear c12;have H':=ak H;clear H;obtain ⟨Cv,Cw,Cx,Cy,Cz,Da⟩:=cf3_ Ae
       go_wp2
       go_loopg [55] k2 (fun kq v55 w'=> ∃(Ad:Int),v55=.int .i64 Ad∧Aside0 (impl_NetOk.l1 kq Ab (Ab.length:Int) Ad Af Aa Ab=some r)∧Aside0 (kq≤k2)∧Aside0 (w'.heap[Am]? =some (.cells #[.int .i64 Af,(.slice An Aa.length Ak),(.slice Ao Ab.length Al)] 31 (0,0)))∧Aside0 (Below w.heap.size w w'))
       case atStart=> exact ⟨(0),rs_q,H',⟨Nat.le_refl _⟩,⟨bk_q Ae⟩,⟨bw_q HB⟩⟩
       case round=>
        clear H';(try clear c1);(try clear p1);(try clear q1);(try clear hx1);(try clear c2);(try clear p2);(try clear c3);(try clear c4);(try clear c6);(try clear p6);(try clear c8);(try clear c12);(try clear Cn);(try clear c13);(try clear c14);(try clear c16);(try clear c17);(try clear Ap);(try clear p17);(try clear q17);(try clear hx17);(try clear c19);(try clear c20);(try clear c38);(try clear c44)
        try clear Ds Dt Du Dv
        try clear Dw Dx Dy Dz
        try clear Cv Cw Cx
        try clear Ea Eb Ec Ed
        try clear Ee Ef Eg Eh
        try clear Cy Cz Da
        (try clear Ax);(try clear Ay);(try clear Az);(try clear Ba);(try clear Aq);(try clear Ar);(try clear As);(try clear At);(try clear p172);(try clear p175);(try clear q172);(try clear q175);obtain ⟨Ad,rfl,HA,Co,Ae,HB⟩:=hrel
        cases gk with
        | zero=> exact absurd HA.out (by simp [impl_NetOk.l1])
        | succ k3=>
         have H:=HA.out;clear HA
         simp only [impl_NetOk.l1] at H
         by_cases c50:Ad<(Ab.length:Int)
         ·rw [if_pos c50] at H;have Dh:=decide_eq_true c50;clear c50
          by_cases c51:0≤Ad
          ·rw [if_pos c51] at H;have Fa:=decide_eq_true c51;clear c51
           by_cases c52:Ad<(Ab.length:Int)
           ·rw [if_pos c52] at H;have Fb:=decide_eq_true c52
            clear c52;replace H:=bsi H;obtain ⟨Dd,A530,H⟩:=H
            (try dsimp only at H)
            have A53:=ak A530;clear A530;have HZ4:=ak H;clear H
            have p177:0≤(Ad:Int):=of_decide_eq_true as_q
            have q177:Ad<(Ab.length:Int):=of_decide_eq_true as_q
            obtain ⟨Bi,e177,Bj,Bk,Bl,Bm⟩:=at_T102 Cm.out Ad p177 q177
            cases e177
            obtain ⟨Bj,Bk,Bl,Bm⟩:=hb4_ HB Bj Bk Bl Bm;replace p177:=eq_true p177;replace q177:=eq_true q177
            try go_wp2_with (first | ((with_reducible refine gate_dst (N:=6) rfl ?_);(try (refine gate_guard (by rfl) ?_;dsimp only));refine box_q 6 #[.int .i64 0,.int .i64 0,.int .i64 0,.bool false] 102 ?_;intro Ah hg w65 hbox hb;have Aj:=ak (hbox);have Fc:=gs_ HB hg;replace HB:=hB_ HB hb;have Cj:=nb_ Ae hg;have Ck:=nB_ Ae hg;replace Ae:=bb_ Ae hb;clear hb hbox hg;have Fd:=Ck.out;have Fe:=Cj.out;obtain ⟨Ei,Ej,Ek,El,Em,En,Eo,Ep⟩:=cf4_ Aj))
            have n0_:Aside0 (((((w65.setCell ⟨Ah,0,none⟩ (.int .i64 ((rd_T102 Ab Ad).f0))).setCell ⟨Ah,1,none⟩ (.int .i64 ((rd_T102 Ab Ad).f1))).setCell ⟨Ah,2,none⟩ (.int .i64 ((rd_T102 Ab Ad).f2))).setCell ⟨Ah,3,none⟩ (.bool ((rd_T102 Ab Ad).f3))).heap[Am]? =some (.cells #[.int .i64 Af,.slice An Aa.length Ak,.slice (some Bi) Ab.length Al] 31 (0,0))):=⟨bp_ Ae⟩
            have n1_:Aside0 (((((w65.setCell ⟨Ah,0,none⟩ (.int .i64 ((rd_T102 Ab Ad).f0))).setCell ⟨Ah,1,none⟩ (.int .i64 ((rd_T102 Ab Ad).f1))).setCell ⟨Ah,2,none⟩ (.int .i64 ((rd_T102 Ab Ad).f2))).setCell ⟨Ah,3,none⟩ (.bool ((rd_T102 Ab Ad).f3))).heap[Ah]? =some (.cells #[.int .i64 ((rd_T102 Ab Ad).f0),.int .i64 ((rd_T102 Ab Ad).f1),.int .i64 ((rd_T102 Ab Ad).f2),.bool ((rd_T102 Ab Ad).f3)] 102 (0,0))):=⟨bp_ Aj⟩
            have n2_:Aside0 (Below w.heap.size w ((((w65.setCell ⟨Ah,0,none⟩ (.int .i64 ((rd_T102 Ab Ad).f0))).setCell ⟨Ah,1,none⟩ (.int .i64 ((rd_T102 Ab Ad).f1))).setCell ⟨Ah,2,none⟩ (.int .i64 ((rd_T102 Ab Ad).f2))).setCell ⟨Ah,3,none⟩ (.bool ((rd_T102 Ab Ad).f3)))):=⟨bw_q HB⟩
            (try clear Ae);(try clear Aj);(try clear HB)
            generalize ((((w65.setCell ⟨Ah,0,none⟩ (.int .i64 ((rd_T102 Ab Ad).f0))).setCell ⟨Ah,1,none⟩ (.int .i64 ((rd_T102 Ab Ad).f1))).setCell ⟨Ah,2,none⟩ (.int .i64 ((rd_T102 Ab Ad).f2))).setCell ⟨Ah,3,none⟩ (.bool ((rd_T102 Ab Ad).f3)))=w68 at n0_ n1_ n2_ ⊢
            have Ae:=n0_;have Aj:=n1_;have HB:=n2_;clear n0_ n1_ n2_;replace Ae:=ak (blk_drew Ae.out);replace Aj:=ak (blk_drew Aj.out);replace HB:=ak (below_drew1 HB.out)
            refine start_ (n:=33) (S:=fun w'=> cl4 w' Ah (.int .i64 ((rd_T102 Ab Ad).f0)) (.int .i64 ((rd_T102 Ab Ad).f1)) (.int .i64 ((rd_T102 Ab Ad).f2)) (.bool ((rd_T102 Ab Ad).f3))) (ds:=[]) (bL 33 0) (by kernel_rfl) rfl rfl (cz4_ Aj) (fun hHeld=> ?_);refine with_tabW impl_NetOk.tab12 impl_NetOk.bits12 (fun HT_ HW_=> ?_)
            generalize w68.drew=w69 at Ae Aj HB hHeld ⊢
            refine pQ_ 0 HT_ ?_
            refine take_ (i:=1) (N:=some 61) (v:=?_) (a':=?_) (bL 33 3) rfl rfl (take_ofW HT_.out HW_.out (by kernel_rfl)) (fun _ _ _ h=> h) (Or.inl ⟨by rfl,?_⟩) hHeld ?_ ?_;rotate_left;(rintro w' s0;go_simp;with_reducible rfl);rotate_left;(exact put_q)
            refine one_ (i:=2) (N:=some 62) (bL 33 7) rfl rfl (one_of HT_.out (by kernel_rfl)) (by decide) (fun K hK=> ?_)
            refine goes_ Try.func81 (by kernel_rfl) rfl #[.int .i64 ((rd_T102 Ab Ad).f1),.int .i64 1,.int .i64 9] (by rfl) rfl rfl mp_q ?_
            with_reducible refine (impl_in.calls ((rd_T102 Ab Ad).f1) 1 9 Dd _ A53.out).mono ?_
            rintro e w' ⟨rfl,⟨nd,rfl⟩⟩
            refine ⟨_,rfl,?_⟩
            refine hK.out _ _ (cz4_ Aj) (fun hHeld=> ?_)
            clear hK K
            refine norm_ (a':=?_) ?_ ?_;rotate_left;(show Act.put _ (some 62) _=_;simp only [Act.put,List.setIfInBounds_toArray,List.set_cons_zero,List.set_cons_succ,i64_w,i32_w];rfl)
            refine pQ_ 3 HT_ ?_
            refine pQ_ 4 HT_ ?_
            have H:=HZ4.out;clear HZ4
            by_cases c54:Dd=true
            ·subst c54;rw [if_pos rfl] at H;replace H:=bsi H;obtain ⟨De,A550,H⟩:=H
             (try dsimp only at H)
             have A55:=ak A550;clear A550;have HZ5:=ak H;clear H
             refine lw_ (fun w'=> cl3 w' Am (.int .i64 Af) (.slice An Aa.length Ak) (.slice (some Bi) Ab.length Al)) (cz3_ Ae) hHeld (fun hHeld=> ?_)
             refine pQ_ 5 HT_ ?_
             refine pQ_ 7 HT_ ?_
             refine take_ (i:=6) (N:=some 66) (v:=?_) (a':=?_) (bL 33 255) rfl rfl (take_ofW HT_.out HW_.out (by kernel_rfl)) (fun _ _ _ h=> h) (Or.inl ⟨by rfl,?_⟩) hHeld ?_ ?_;rotate_left;(rintro w' ⟨s0,s1⟩;go_simp;with_reducible rfl);rotate_left;(exact put_q)
             refine take_ (i:=8) (N:=some 68) (v:=?_) (a':=?_) (bL 33 511) rfl rfl (take_ofW HT_.out HW_.out (by kernel_rfl)) (fun _ _ _ h=> h) (Or.inl ⟨by rfl,?_⟩) hHeld ?_ ?_;rotate_left;(rintro w' ⟨s0,s1⟩;go_simp;with_reducible rfl);rotate_left;(exact put_q)
             refine one_ (i:=9) (N:=some 69) (bL 33 1023) rfl rfl (one_of HT_.out (by kernel_rfl)) (by decide) (fun K hK=> ?_)
             refine goes_ Try.func81 (by kernel_rfl) rfl #[.int .i64 ((rd_T102 Ab Ad).f0),.int .i64 1,.int .i64 Af] (by rfl) rfl rfl mp_q ?_
             with_reducible refine (impl_in.calls ((rd_T102 Ab Ad).f0) 1 Af De _ A55.out).mono ?_
             rintro e w' ⟨rfl,⟨nd,rfl⟩⟩
             refine ⟨_,rfl,?_⟩
             refine hK.out _ _ ⟨cz3_ Ae,cz4_ Aj⟩ (fun hHeld=> ?_)
             clear hK K
             refine norm_ (a':=?_) ?_ ?_;rotate_left;(show Act.put _ (some 69) _=_;simp only [Act.put,List.setIfInBounds_toArray,List.set_cons_zero,List.set_cons_succ,i64_w,i32_w];rfl)
             refine pQ_ 10 HT_ ?_
             refine pQ_ 11 HT_ ?_
             refine pQ_ 12 HT_ ?_
             have H:=HZ5.out;clear HZ5
             by_cases c56:De=true
             ·subst c56;rw [if_pos rfl] at H;replace H:=bsi H;obtain ⟨Df,A570,H⟩:=H
              (try dsimp only at H)
              have A57:=ak A570;clear A570;have HZ6:=ak H;clear H
              refine pQ_ 13 HT_ ?_
              refine take_ (i:=14) (N:=some 74) (v:=?_) (a':=?_) (bL 33 32767) rfl rfl (take_ofW HT_.out HW_.out (by kernel_rfl)) (fun _ _ _ h=> h) (Or.inl ⟨by rfl,?_⟩) hHeld ?_ ?_;rotate_left;(rintro w' ⟨s0,s1⟩;go_simp;with_reducible rfl);rotate_left;(exact put_q)
              refine one_ (i:=15) (N:=some 75) (bL 33 65535) rfl rfl (one_of HT_.out (by kernel_rfl)) (by decide) (fun K hK=> ?_)
              refine goes_ Try.func81 (by kernel_rfl) rfl #[.int .i64 ((rd_T102 Ab Ad).f2),.int .i64 1,.int .i64 1000] (by rfl) rfl rfl mp_q ?_
              with_reducible refine (impl_in.calls ((rd_T102 Ab Ad).f2) 1 1000 Df _ A57.out).mono ?_
              rintro e w' ⟨rfl,⟨nd,rfl⟩⟩
              refine ⟨_,rfl,?_⟩
              refine hK.out _ _ ⟨cz3_ Ae,cz4_ Aj⟩ (fun hHeld=> ?_)
              clear hK K
              refine norm_ (a':=?_) ?_ ?_;rotate_left;(show Act.put _ (some 75) _=_;simp only [Act.put,List.setIfInBounds_toArray,List.set_cons_zero,List.set_cons_succ,i64_w,i32_w];rfl)
              refine pQ_ 16 HT_ ?_
              refine pQ_ 17 HT_ ?_
              refine pQ_ 18 HT_ ?_
              have H:=HZ6.out;clear HZ6
              by_cases c58:Df=true
              ·subst c58;rw [if_pos rfl] at H;have HZ7:=ak H;clear H
               refine pQ_ 19 HT_ ?_
               refine pQ_ 20 HT_ ?_
               refine pQ_ 21 HT_ ?_
               have H:=HZ7.out;clear HZ7
               by_cases c59:Ad > 0
               ·rw [if_pos c59] at H;have Aw:=decide_eq_true c59
                (first | rw [Aw] | (simp only [i64_w,i32_w];first | rw [Aw]) | skip)
                clear c59;obtain ⟨ji60,hji60⟩:∃j_:Int,(wrap64 (Ad-1))=j_:=⟨_,rfl⟩
                replace H:(if 0≤(ji60) then (if (ji60)<(Ab.length:Int) then ((impl_less.f ((rd_T102 Ab (ji60)).f0) ((rd_T102 Ab (ji60)).f1) ((rd_T102 Ab (ji60)).f2) ((rd_T102 Ab (ji60)).f3) ((rd_T102 Ab Ad).f0) ((rd_T102 Ab Ad).f1) ((rd_T102 Ab Ad).f2) ((rd_T102 Ab Ad).f3)).bind fun Bo=> (if Bo=true then (impl_NetOk.l1 k3 Ab (Ab.length:Int) (wrap64 (Ad+1)) Af Aa Ab) else (some false))) else (none)) else (none))=some r:=by first | (rw [hji60] at H;exact H) | (simp only [hji60] at H ⊢;exact H)
                (try rw [hji60] at A53)
                (try rw [hji60] at A55)
                (try rw [hji60] at A57)
                have hji60w:(IntKind.i64.wrap (Ad-1))=ji60:=(i64_w _).trans hji60
                by_cases c61:0≤(ji60)
                ·rw [if_pos c61] at H;have Ff:=decide_eq_true c61;clear c61
                 by_cases c62:(ji60)<(Ab.length:Int)
                 ·rw [if_pos c62] at H;have Fg:=decide_eq_true c62
                  clear c62;replace H:=bsi H;obtain ⟨Bo,A630,H⟩:=H
                  (try dsimp only at H)
                  have A63:=ak A630;clear A630;have HZ8:=ak H;clear H
                  have p182:0≤((ji60):Int):=of_decide_eq_true as_q
                  have q182:(ji60)<(Ab.length:Int):=of_decide_eq_true as_q
                  obtain ⟨Di,e182,Bb,Bc,Bd,Be⟩:=at_T102 Cm.out (ji60) p182 q182;have hw182_3:=Be;have hw182_2:=Bd;have hw182_1:=Bc;have hw182_0:=Bb
                  obtain rfl:Bi=Di:=(by injection e182)
                  obtain ⟨Bb,Bc,Bd,Be⟩:=hb4_ HB Bb Bc Bd Be;replace p182:=eq_true p182;replace q182:=eq_true q182
                  refine lw_ (fun w'=> el4 w' (Bi.add (((ji60)).toNat*4)) (.int .i64 ((rd_T102 Ab (ji60)).f0)) (.int .i64 ((rd_T102 Ab (ji60)).f1)) (.int .i64 ((rd_T102 Ab (ji60)).f2)) (.bool ((rd_T102 Ab (ji60)).f3))) (hb4_ HB hw182_0 hw182_1 hw182_2 hw182_3) hHeld (fun hHeld=> ?_)
                  refine pQ_ 22 HT_ ?_
                  refine pQ_ 24 HT_ ?_
                  refine pQ_ 25 HT_ ?_
                  refine take_ (i:=23) (N:=some 83) (v:=?_) (a':=?_) (bL 33 67108863) rfl rfl (take_ofW HT_.out HW_.out (by kernel_rfl)) (fun _ _ _ h=> h) (Or.inl ⟨by rfl,?_⟩) hHeld ?_ ?_;rotate_left;(rintro w' ⟨s0,s1⟩;go_simp;with_reducible rfl);rotate_left;(exact put_q)
                  refine pQ_ 26 HT_ ?_
                  refine take_ (i:=27) (N:=some 87) (v:=?_) (a':=?_) (bL 33 268435455) rfl rfl (take_ofW HT_.out HW_.out (by kernel_rfl)) (fun _ _ _ h=> h) (Or.inl ⟨by rfl,?_⟩) hHeld ?_ ?_;rotate_left;(rintro w' ⟨s0,s1⟩;go_simp;with_reducible rfl);rotate_left;(exact put_q)
                  refine take_ (i:=28) (N:=some 88) (v:=?_) (a':=?_) (bL 33 536870911) rfl rfl (take_ofW HT_.out HW_.out (by kernel_rfl)) (fun _ _ _ h=> h) (Or.inl ⟨by rfl,?_⟩) hHeld ?_ ?_;rotate_left;(rintro w' ⟨s0,s1⟩;go_simp;with_reducible rfl);rotate_left;(exact put_q)
                  refine one_ (i:=29) (N:=some 89) (bL 33 1073741823) rfl rfl (one_of HT_.out (by kernel_rfl)) (by decide) (fun K hK=> ?_)
                  refine goes_ Try.func83 (by kernel_rfl) rfl #[.agg #[.int .i64 ((rd_T102 Ab (ji60)).f0),.int .i64 ((rd_T102 Ab (ji60)).f1),.int .i64 ((rd_T102 Ab (ji60)).f2),.bool ((rd_T102 Ab (ji60)).f3)],.agg #[.int .i64 ((rd_T102 Ab Ad).f0),.int .i64 ((rd_T102 Ab Ad).f1),.int .i64 ((rd_T102 Ab Ad).f2),.bool ((rd_T102 Ab Ad).f3)]] (by rfl) rfl rfl (by (try simp only [List.map_toArray,List.map_cons,List.map_nil]);first | done | (simp only [hji60];rfl) | rfl | (simp only [List.length_drop,List.length_take];rfl)) ?_
                  with_reducible refine (impl_less.calls ((rd_T102 Ab (ji60)).f0) ((rd_T102 Ab (ji60)).f1) ((rd_T102 Ab (ji60)).f2) ((rd_T102 Ab (ji60)).f3) ((rd_T102 Ab Ad).f0) ((rd_T102 Ab Ad).f1) ((rd_T102 Ab Ad).f2) ((rd_T102 Ab Ad).f3) Bo _ A63.out).mono ?_
                  rintro e w70 ⟨rfl,hb⟩
                  refine ⟨_,rfl,?_⟩
                  replace Ae:=bb_ Ae hb;replace Aj:=bb_ Aj hb;replace HB:=hB_ HB hb
                  refine hK.out _ _ ⟨hb4_ HB hw182_0 hw182_1 hw182_2 hw182_3,⟨cz3_ Ae,cz4_ Aj⟩⟩ (fun hHeld=> ?_)
                  clear hK K
                  refine norm_ (a':=?_) ?_ ?_;rotate_left;(show Act.put _ (some 89) _=_;simp only [Act.put,List.setIfInBounds_toArray,List.set_cons_zero,List.set_cons_succ,i64_w,i32_w];rfl)
                  refine pQ_ 30 HT_ ?_
                  refine pQ_ 31 HT_ ?_
                  refine pQ_ 32 HT_ ?_
                  have H:=HZ8.out;clear HZ8
                  by_cases c64:Bo=true
                  ·subst c64;rw [if_pos rfl] at H;have H':=ak H;clear H
                   refine done_ (done_of HT_.out (by kernel_rfl)) ?_
                   try go_wp2
                   go_roundg k3
                   case measure=> have:=HJ1.out;have:=Bf.out;have:=Co.out;omega
                   case rel=> exact ⟨(wrap64 (Ad+1)),rs_q,H',⟨by have:=HJ1.out;have:=Bf.out;have:=Co.out;omega⟩,⟨bk_q Ae⟩,⟨bw_q HB⟩⟩
                  ·replace c64:=Bool.eq_false_iff.mpr c64;subst c64
                   rw [if_neg (show ¬(false=true) by decide)] at H
                   obtain rfl:=Option.some.inj H
                   refine done_ (done_of HT_.out (by kernel_rfl)) ?_
                   try go_wp2
                   go_ret
                   exact ⟨by first | rfl | (simp [errW_none,errW_some] <;> rfl) | (simp only [←hji60];first | rfl | (simp [errW_none,errW_some] <;> rfl)) | (simp [*,errW_none,errW_some] <;> rfl),bw_q HB⟩
                 ·rw [if_neg c62] at H
                  exact absurd H (by simp)
                ·rw [if_neg c61] at H
                 exact absurd H (by simp)
               ·rw [if_neg c59] at H;have Aw:=decide_eq_false c59
                (first | rw [Aw] | (simp only [i64_w,i32_w];first | rw [Aw]) | skip)
                clear c59;have H':=ak H;clear H
                refine pU_ 22 HT_ ?_
                refine pU_ 23 HT_ ?_
                refine pU_ 24 HT_ ?_
                refine pU_ 25 HT_ ?_
                refine pU_ 26 HT_ ?_
                refine pU_ 27 HT_ ?_
                refine pU_ 28 HT_ ?_
                refine pU_ 29 HT_ ?_
                refine pU_ 30 HT_ ?_
                refine pQ_ 31 HT_ ?_
                refine pQ_ 32 HT_ ?_
                refine done_ (done_of HT_.out (by kernel_rfl)) ?_
                try go_wp2
                go_roundg k3
                case measure=> have:=HJ1.out;have:=Bf.out;have:=Co.out;omega
                case rel=> exact ⟨(wrap64 (Ad+1)),rs_q,H',⟨by have:=HJ1.out;have:=Bf.out;have:=Co.out;omega⟩,⟨bk_q Ae⟩,⟨bw_q HB⟩⟩
              ·replace c58:=Bool.eq_false_iff.mpr c58;subst c58
               rw [if_neg (show ¬(false=true) by decide)] at H
               obtain rfl:=Option.some.inj H
               refine pU_ 19 HT_ ?_
               refine pU_ 20 HT_ ?_
               refine pU_ 21 HT_ ?_
               refine pU_ 22 HT_ ?_
               refine pU_ 23 HT_ ?_
               refine pU_ 24 HT_ ?_
               refine pU_ 25 HT_ ?_
               refine pU_ 26 HT_ ?_
               refine pU_ 27 HT_ ?_
               refine pU_ 28 HT_ ?_
               refine pU_ 29 HT_ ?_
               refine pU_ 30 HT_ ?_
               refine pU_ 31 HT_ ?_
               refine pQ_ 32 HT_ ?_
               refine done_ (done_of HT_.out (by kernel_rfl)) ?_
               try go_wp2
               go_ret
               exact ⟨er_q,bw_q HB⟩
             ·replace c56:=Bool.eq_false_iff.mpr c56;subst c56
              rw [if_neg (show ¬(false=true) by decide)] at H
              obtain rfl:=Option.some.inj H
              refine pU_ 13 HT_ ?_
              refine pU_ 14 HT_ ?_
              refine pU_ 15 HT_ ?_
              refine pU_ 16 HT_ ?_
              refine pQ_ 17 HT_ ?_
              refine pQ_ 18 HT_ ?_
              refine pU_ 19 HT_ ?_
              refine pU_ 20 HT_ ?_
              refine pU_ 21 HT_ ?_
              refine pU_ 22 HT_ ?_
              refine pU_ 23 HT_ ?_
              refine pU_ 24 HT_ ?_
              refine pU_ 25 HT_ ?_
              refine pU_ 26 HT_ ?_
              refine pU_ 27 HT_ ?_
              refine pU_ 28 HT_ ?_
              refine pU_ 29 HT_ ?_
              refine pU_ 30 HT_ ?_
              refine pU_ 31 HT_ ?_
              refine pQ_ 32 HT_ ?_
              refine done_ (done_of HT_.out (by kernel_rfl)) ?_
              try go_wp2
              go_ret
              exact ⟨er_q,bw_q HB⟩
            ·replace c54:=Bool.eq_false_iff.mpr c54;subst c54
             rw [if_neg (show ¬(false=true) by decide)] at H
             obtain rfl:=Option.some.inj H
             refine pU_ 5 HT_ ?_
             refine pU_ 6 HT_ ?_
             refine pU_ 7 HT_ ?_
             refine pU_ 8 HT_ ?_
             refine pU_ 9 HT_ ?_
             refine pU_ 10 HT_ ?_
             refine pQ_ 11 HT_ ?_
             refine pQ_ 12 HT_ ?_
             refine pU_ 13 HT_ ?_
             refine pU_ 14 HT_ ?_
             refine pU_ 15 HT_ ?_
             refine pU_ 16 HT_ ?_
             refine pQ_ 17 HT_ ?_
             refine pQ_ 18 HT_ ?_
             refine pU_ 19 HT_ ?_
             refine pU_ 20 HT_ ?_
             refine pU_ 21 HT_ ?_
             refine pU_ 22 HT_ ?_
             refine pU_ 23 HT_ ?_
             refine pU_ 24 HT_ ?_
             refine pU_ 25 HT_ ?_
             refine pU_ 26 HT_ ?_
             refine pU_ 27 HT_ ?_
             refine pU_ 28 HT_ ?_
             refine pU_ 29 HT_ ?_
             refine pU_ 30 HT_ ?_
             refine pU_ 31 HT_ ?_
             refine pQ_ 32 HT_ ?_
             refine done_ (done_of HT_.out (by kernel_rfl)) ?_
             try go_wp2
             go_ret
             exact ⟨er_q,bw_q HB⟩
           ·rw [if_neg c52] at H
            exact absurd H (by simp)
          ·rw [if_neg c51] at H
           exact absurd H (by simp)
         ·rw [if_neg c50] at H;have Dh:=decide_eq_false c50
          clear c50;obtain rfl:=Option.some.inj H
          go_wp2
          go_ret
          exact ⟨er_q,bw_q HB⟩

/-! ### impl_Before: function 68 -/
def impl_Before.f (a:Int) (b:Int) (c:Int) (h:Int) (j:Int) (l:List (S127)) (m:Int) (n:Bool) (d:Int) (e:Int) (g:Int) (i:Int) (o:Int) (p:List (S127)) (q:Int) (s:Bool):Option (Bool):=if a=d then (if b=e then (if c=g then (some (decide (h<i))) else (some (decide (c<g)))) else (some (decide (b<e)))) else (some (decide (a<d)))
set_option maxHeartbeats 8000000 in
set_option maxRecDepth 100000 in
theorem impl_Before.calls (Ai:Int) (Aj:Int) (Ak:Int) (Ao:Int) (Ap:Int) (Aq:Option Addr) (Ar:Nat) (Ae:List (S127)) (As:Int) (At:Bool) (Al:Int) (Am:Int) (An:Int) (Au:Int) (Av:Int) (Aw:Option Addr) (Ax:Nat) (Af:List (S127)) (Ay:Int) (Az:Bool) (r:Bool) (w:World) (hr0_5:Kd.C k127 w Aq Ae.length Ae) (hc0_5:Ae.length≤Ar) (hr1_5:Kd.C k127 w Aw Af.length Af) (hc1_5:Af.length≤Ax) (h:impl_Before.f Ai Aj Ak Ao Ap Ae As At Al Am An Au Av Af Ay Az=some r):
  Calls Try.prog 68 #[.agg #[.int .i64 Ai,.int .i64 Aj,.int .i64 Ak,.int .i64 Ao,.int .i64 Ap,.slice Aq Ae.length Ar,.int .i64 As,.bool At],.agg #[.int .i64 Al,.int .i64 Am,.int .i64 An,.int .i64 Au,.int .i64 Av,.slice Aw Af.length Ax,.int .i64 Ay,.bool Az]] w fun e w'=> e=.returned (.bool r)∧Below w.heap.size w w':=by
 have hu61:=Try.underlying61;have Hj:=ak hr0_5;have Hk:=ak hc0_5;clear hr0_5 hc0_5;have Hl:=ak hr1_5;have Hm:=ak hc1_5;clear hr1_5 hc1_5;have HB:=ak (Below.refl w.heap.size w);have H:=h
 clear h;unfold impl_Before.f at H;have Be:=ak H;clear H
 go_enter Try.func68,Try.ntmps68
 go_upto_if 5 with (first | ((with_reducible refine gate_dst (N:=2) rfl ?_);refine box_q 2 #[.int .i64 Ai,.int .i64 Aj,.int .i64 Ak,.int .i64 Ao,.int .i64 Ap,.slice Aq Ae.length Ar,.int .i64 As,.bool At] 61 ?_;intro Hn hg w4 hbox hb;have Ac:=ak (hbox);have Ho:=gs_ HB hg;replace HB:=hB_ HB hb;clear hb hbox hg) | ((with_reducible refine gate_dst (N:=3) rfl ?_);refine box_q 3 #[.int .i64 Al,.int .i64 Am,.int .i64 An,.int .i64 Au,.int .i64 Av,.slice Aw Af.length Ax,.int .i64 Ay,.bool Az] 61 ?_;intro Hp hg w5 hbox hb;have Ad:=ak (hbox);have Hq:=gs_ HB hg;replace HB:=hB_ HB hb;have Aa:=nb_ Ac hg;have Ab:=nB_ Ac hg;replace Ac:=bb_ Ac hb;clear hb hbox hg;have Hz:=Aa.out;have Ia:=Ab.out;obtain ⟨Gd,Ge,Gf,Gg,Gh,Gi,Gj,Gk,Gl,Gm,Gn,Go,Gp,Gq,Gr,Gs⟩:=cf8_ Ac;obtain ⟨Gt,Gu,Gv,Gw,Gx,Gy,Gz,Ha,Hb,Hc,Hd,He,Hf,Hg,Hh,Hi⟩:=cf8_ Ad))
 have H:=Be.out;clear Be
 by_cases c9:Ai=Al
 ·rw [if_pos c9] at H;have Ag:=bqi c9;have Ah:=bnf c9;clear c9
  (first | rw [Ag] | rw [Ah] | (simp only [i64_w,i32_w];first | rw [Ag] | rw [Ah]) | skip)
  by_cases c10:Aj=Am
  ·rw [if_pos c10] at H;have Ba:=bqi c10;have Bb:=bnf c10;clear c10
   by_cases c11:Ak=An
   ·rw [if_pos c11] at H;have Bc:=bqi c11;have Bd:=bnf c11
    clear c11;obtain rfl:=Option.some.inj H;have Hr:=Aa.out;have Hs:=Ab.out;obtain ⟨Bf,Bg,Bh,Bi,Bj,Bk,Bl,Bm,Bn,Bo,Bp,Bq,Br,Bs,Bt,Bu⟩:=cf8_ Ac;obtain ⟨Bv,Bw,Bx,By,Bz,Ca,Cb,Cc,Cd,Ce,Cf,Cg,Ch,Ci,Cj,Ck⟩:=cf8_ Ad
    go_wp2
    go_ret
    exact ⟨er_q,bw_q HB⟩
   ·rw [if_neg c11] at H;have Bc:=bqf c11;have Bd:=bni c11;obtain rfl:=Option.some.inj H;have Ht:=Aa.out;have Hu:=Ab.out;obtain ⟨Cl,Cm,Cn,Co,Cp,Cq,Cr,Cs,Ct,Cu,Cv,Cw,Cx,Cy,Cz,Da⟩:=cf8_ Ac;obtain ⟨Db,Dc,Dd,De,Df,Dg,Dh,Di,Dj,Dk,Dl,Dm,Dn,Do,Dp,Dq⟩:=cf8_ Ad
    go_wp2
    go_ret
    exact ⟨er_q,bw_q HB⟩
  ·rw [if_neg c10] at H;have Ba:=bqf c10;have Bb:=bni c10;obtain rfl:=Option.some.inj H;have Hv:=Aa.out;have Hw:=Ab.out;obtain ⟨Dr,Ds,Dt,Du,Dv,Dw,Dx,Dy,Dz,Ea,Eb,Ec,Ed,Ee,Ef,Eg⟩:=cf8_ Ac;obtain ⟨Eh,Ei,Ej,Ek,El,Em,En,Eo,Ep,Eq,Er,Es,Et,Eu,Ev,Ew⟩:=cf8_ Ad
   go_wp2
   go_ret
   exact ⟨er_q,bw_q HB⟩
 ·rw [if_neg c9] at H;have Ag:=bqf c9;have Ah:=bni c9
  (first | rw [Ag] | rw [Ah] | (simp only [i64_w,i32_w];first | rw [Ag] | rw [Ah]) | skip)
  obtain rfl:=Option.some.inj H;have Hx:=Aa.out;have Hy:=Ab.out;obtain ⟨Ex,Ey,Ez,Fa,Fb,Fc,Fd,Fe,Ff,Fg,Fh,Fi,Fj,Fk,Fl,Fm⟩:=cf8_ Ac;obtain ⟨Fn,Fo,Fp,Fq,Fr,Fs,Ft,Fu,Fv,Fw,Fx,Fy,Fz,Ga,Gb,Gc⟩:=cf8_ Ad
  go_wp2
  go_ret
  exact ⟨er_q,bw_q HB⟩

/-! ### impl_nearOk: function 142 -/
def impl_nearOk.l0:Nat→List (S127)→Int→Int→Int→Int→Int→Int→Int→List (S127)→Int→Bool→Option (Bool)
 | 0,_,_,_,_,_,_,_,_,_,_,_=> none
 | k+1,l,m,b,d,e,c,g,h,a,i,j=> if b<m then (if 0≤b then (if b<(l.length:Int) then ((impl_in.f ((rd_T127 l b).f0) 1 6).bind fun n=> (if n=true then (if ((rd_T127 l b).f0)=c then (some false) else ((impl_in.f ((rd_T127 l b).f1) 1 1000).bind fun o=> (if o=true then (if b > 0 then (if 0≤(wrap64 (b-1)) then (if (wrap64 (b-1))<(a.length:Int) then (if ((rd_T127 a (wrap64 (b-1))).f0)≥((rd_T127 l b).f0) then (some false) else (impl_nearOk.l0 k l m (wrap64 (b+1)) d e c g h a i j)) else (none)) else (none)) else (impl_nearOk.l0 k l m (wrap64 (b+1)) d e c g h a i j)) else (some false)))) else (some false))) else (none)) else (none)) else (some true)
def impl_nearOk.f (k:Nat) (b:Int) (c:Int) (d:Int) (e:Int) (g:Int) (a:List (S127)) (h:Int) (i:Bool):Option (Bool):=impl_nearOk.l0 k a (a.length:Int) 0 b c d e g a h i
theorem impl_nearOk.mono_l:∀k,(∀y0 y1 y2 y3 y4 y5 y6 y7 y8 y9 y10,LeO (impl_nearOk.l0 k y0 y1 y2 y3 y4 y5 y6 y7 y8 y9 y10) (impl_nearOk.l0 (k+1) y0 y1 y2 y3 y4 y5 y6 y7 y8 y9 y10))
 | 0=> fun _ _ _ _ _ _ _ _ _ _ _ r h=> by simp [impl_nearOk.l0] at h
 | k+1=> by
  have ih0:=impl_nearOk.mono_l k
  ·intro y0 y1 y2 y3 y4 y5 y6 y7 y8 y9 y10
   unfold impl_nearOk.l0
   with_reducible repeat' (first | apply ih0 | exact LeO.refl _ | exact LeO.none _ | refine LeO.ite ?_ ?_ | refine LeO.bind ?_ (fun _=> ?_))
theorem impl_nearOk.mono:∀a0 a1 a2 a3 a4 a5 a6 a7 k,LeO (impl_nearOk.f k a0 a1 a2 a3 a4 a5 a6 a7) (impl_nearOk.f (k+1) a0 a1 a2 a3 a4 a5 a6 a7):=by
 intro a0 a1 a2 a3 a4 a5 a6 a7 k
 have ih0:=impl_nearOk.mono_l k
 unfold impl_nearOk.f
 with_reducible repeat' (first | apply ih0 | exact LeO.refl _ | exact LeO.none _ | refine LeO.ite ?_ ?_ | refine LeO.bind ?_ (fun _=> ?_))
def impl_nearOk.T4:Bool×List (List Nat×List Nat):=(true,[([],[]),([0],[0]),([1],[1]),([2],[2]),([3,2],[3]),([4],[4]),([5,4],[4,5]),([4],[4]),([7,4],[4,7]),([6,8,4],[4,6,8]),([4,9],[4,9]),([10,4],[10]),([11],[11]),([12,11],[11,12]),([13,11,11],[11,13]),([14,11],[11,14]),([11,15],[11,15]),([16,14],[16]),([17],[17]),([18,17],[17,18]),([19,17,17],[17,19]),([20],[20]),([21,20],[20,21]),([20],[20]),([23,20],[20,23]),([22,24,20],[20,22,24]),([25,20],[20,25]),([26,20],[20,26]),([20],[20]),([28,20],[20,28]),([27,29,20],[20,27,29]),([20,30,17],[17,20,30]),([17,31],[17,31])])
def impl_nearOk.B4:List Nat:=[0,1,3,7,15,31,63,31,159,511,1023,2047,4095,8191,16383,32767,65535,131071,262143,524287,1048575,2097151,4194303,2097151,10485759,33554431,67108863,134217727,2097151,270532607,1073741823,2147483647,4294967295]
theorem impl_nearOk.tab4:rtab .any (opsOf Try.f142 4)=impl_nearOk.T4:=by kernel_rfl
theorem impl_nearOk.bits4:waitsOk impl_nearOk.T4.2 impl_nearOk.B4=true:=by kernel_rfl
set_option maxHeartbeats 8000000 in
set_option maxRecDepth 100000 in
theorem impl_nearOk.calls (k:Nat) (Ag:Int) (Ah:Int) (Af:Int) (Ai:Int) (Aj:Int) (Aw:Option Addr) (Ao:Nat) (Aa:List (S127)) (Ak:Int) (Al:Bool) (r:Bool) (w:World) (hr0_5:Kd.C k127 w Aw Aa.length Aa) (hc0_5:Aa.length≤Ao) (h:impl_nearOk.f k Ag Ah Af Ai Aj Aa Ak Al=some r):
  Calls Try.prog 142 #[.agg #[.int .i64 Ag,.int .i64 Ah,.int .i64 Af,.int .i64 Ai,.int .i64 Aj,.slice Aw Aa.length Ao,.int .i64 Ak,.bool Al]] w fun e w'=> e=.returned (.bool r)∧Below w.heap.size w w':=by
 have hu61:=Try.underlying61;have hu127:=Try.underlying127;have Ba:=ak hr0_5;have Ca:=ak hc0_5;clear hr0_5 hc0_5;have HB:=ak (Below.refl w.heap.size w);have H:=h
 clear h;unfold impl_nearOk.f at H;have H':=ak H;clear H
 go_enter Try.func142,Try.ntmps142
 go_wp2_with (first | ((with_reducible refine gate_dst (N:=1) rfl ?_);refine box_q 1 #[.int .i64 Ag,.int .i64 Ah,.int .i64 Af,.int .i64 Ai,.int .i64 Aj,.slice Aw Aa.length Ao,.int .i64 Ak,.bool Al] 61 ?_;intro Ax hg w2 hbox hb;have Ac:=ak (hbox);have Cb:=gs_ HB hg;replace HB:=hB_ HB hb;clear hb hbox hg;obtain ⟨Bc,Bd,Be,Bf,Bg,Bh,Bi,Bj,Bk,Bl,Bm,Bn,Bo,Bp,Bq,Br⟩:=cf8_ Ac))
 go_loopg [8] k (fun kq v8 w'=> ∃(Ab:Int),v8=.int .i64 Ab∧Aside0 (impl_nearOk.l0 kq Aa (Aa.length:Int) Ab Ag Ah Af Ai Aj Aa Ak Al=some r)∧Aside0 (kq≤k)∧Aside0 (w'.heap[Ax]? =some (.cells #[.int .i64 Ag,.int .i64 Ah,.int .i64 Af,.int .i64 Ai,.int .i64 Aj,(.slice Aw Aa.length Ao),.int .i64 Ak,.bool Al] 61 (0,0)))∧Aside0 (Below w.heap.size w w'))
 case atStart=> exact ⟨(0),rs_q,H',⟨Nat.le_refl _⟩,⟨bk_q Ac⟩,⟨bw_q HB⟩⟩
 case round=>
  clear H';(try clear c1);(try clear p2)
  try clear Bc Bd Be Bf Bg Bh Bi Bj
  try clear Bk Bl Bm Bn Bo Bp Bq Br
  obtain ⟨Ab,rfl,HA,Bb,Ac,HB⟩:=hrel
  cases gk with
  | zero=> exact absurd HA.out (by simp [impl_nearOk.l0])
  | succ k1=>
   have H:=HA.out;clear HA
   simp only [impl_nearOk.l0] at H
   by_cases c4:Ab<(Aa.length:Int)
   ·rw [if_pos c4] at H;have Bv:=decide_eq_true c4;clear c4
    by_cases c5:0≤Ab
    ·rw [if_pos c5] at H;have Ch:=decide_eq_true c5;clear c5
     by_cases c6:Ab<(Aa.length:Int)
     ·rw [if_pos c6] at H;have Ci:=decide_eq_true c6
      clear c6;replace H:=bsi H;obtain ⟨Bs,A70,H⟩:=H
      (try dsimp only at H)
      have A7:=ak A70;clear A70;have HZ12:=ak H;clear H
      have p326:0≤(Ab:Int):=of_decide_eq_true as_q
      have q326:Ab<(Aa.length:Int):=of_decide_eq_true as_q
      obtain ⟨Ar,e326,Au,Av⟩:=at_T127 Ba.out Ab p326 q326
      cases e326
      obtain ⟨Au,Av⟩:=hb2_ HB Au Av;replace p326:=eq_true p326;replace q326:=eq_true q326
      try go_wp2_with (first | ((with_reducible refine gate_dst (N:=4) rfl ?_);refine box_q 4 #[.int .i64 0,.int .i64 0] 127 ?_;intro Ad hg w10 hbox hb;have Ae:=ak (hbox);have Cc:=gs_ HB hg;replace HB:=hB_ HB hb;have Ay:=nb_ Ac hg;have Az:=nB_ Ac hg;replace Ac:=bb_ Ac hb;clear hb hbox hg;have Cd:=Az.out;have Ce:=Ay.out;obtain ⟨Bw,Bx,By,Bz⟩:=cf2_ Ae))
      have n0_:Aside0 (((w10.setCell ⟨Ad,0,none⟩ (.int .i64 ((rd_T127 Aa Ab).f0))).setCell ⟨Ad,1,none⟩ (.int .i64 ((rd_T127 Aa Ab).f1))).heap[Ax]? =some (.cells #[.int .i64 Ag,.int .i64 Ah,.int .i64 Af,.int .i64 Ai,.int .i64 Aj,.slice (some Ar) Aa.length Ao,.int .i64 Ak,.bool Al] 61 (0,0))):=⟨bp_ Ac⟩
      have n1_:Aside0 (((w10.setCell ⟨Ad,0,none⟩ (.int .i64 ((rd_T127 Aa Ab).f0))).setCell ⟨Ad,1,none⟩ (.int .i64 ((rd_T127 Aa Ab).f1))).heap[Ad]? =some (.cells #[.int .i64 ((rd_T127 Aa Ab).f0),.int .i64 ((rd_T127 Aa Ab).f1)] 127 (0,0))):=⟨bp_ Ae⟩
      have n2_:Aside0 (Below w.heap.size w ((w10.setCell ⟨Ad,0,none⟩ (.int .i64 ((rd_T127 Aa Ab).f0))).setCell ⟨Ad,1,none⟩ (.int .i64 ((rd_T127 Aa Ab).f1)))):=⟨bw_q HB⟩
      (try clear Ac);(try clear Ae);(try clear HB)
      generalize ((w10.setCell ⟨Ad,0,none⟩ (.int .i64 ((rd_T127 Aa Ab).f0))).setCell ⟨Ad,1,none⟩ (.int .i64 ((rd_T127 Aa Ab).f1)))=w13 at n0_ n1_ n2_ ⊢
      have Ac:=n0_;have Ae:=n1_;have HB:=n2_;clear n0_ n1_ n2_;replace Ac:=ak (blk_drew Ac.out);replace Ae:=ak (blk_drew Ae.out);replace HB:=ak (below_drew1 HB.out)
      refine start_ (n:=33) (S:=fun w'=> cl2 w' Ad (.int .i64 ((rd_T127 Aa Ab).f0)) (.int .i64 ((rd_T127 Aa Ab).f1))) (ds:=[]) (bL 33 0) (by kernel_rfl) rfl rfl (cz2_ Ae) (fun hHeld=> ?_);refine with_tabW impl_nearOk.tab4 impl_nearOk.bits4 (fun HT_ HW_=> ?_)
      generalize w13.drew=w14 at Ac Ae HB hHeld ⊢
      refine pQ_ 0 HT_ ?_
      refine take_ (i:=1) (N:=some 14) (v:=?_) (a':=?_) (bL 33 3) rfl rfl (take_ofW HT_.out HW_.out (by kernel_rfl)) (fun _ _ _ h=> h) (Or.inl ⟨by rfl,?_⟩) hHeld ?_ ?_;rotate_left;(rintro w' s0;go_simp;with_reducible rfl);rotate_left;(exact put_q)
      refine one_ (i:=2) (N:=some 15) (bL 33 7) rfl rfl (one_of HT_.out (by kernel_rfl)) (by decide) (fun K hK=> ?_)
      refine goes_ Try.func81 (by kernel_rfl) rfl #[.int .i64 ((rd_T127 Aa Ab).f0),.int .i64 1,.int .i64 6] (by rfl) rfl rfl mp_q ?_
      with_reducible refine (impl_in.calls ((rd_T127 Aa Ab).f0) 1 6 Bs _ A7.out).mono ?_
      rintro e w' ⟨rfl,⟨nd,rfl⟩⟩
      refine ⟨_,rfl,?_⟩
      refine hK.out _ _ (cz2_ Ae) (fun hHeld=> ?_)
      clear hK K
      refine norm_ (a':=?_) ?_ ?_;rotate_left;(show Act.put _ (some 15) _=_;simp only [Act.put,List.setIfInBounds_toArray,List.set_cons_zero,List.set_cons_succ,i64_w,i32_w];rfl)
      refine pQ_ 3 HT_ ?_
      refine pQ_ 4 HT_ ?_
      have H:=HZ12.out;clear HZ12
      by_cases c8:Bs=true
      ·subst c8;rw [if_pos rfl] at H;have HZ13:=ak H;clear H
       refine lw_ (fun w'=> cl8 w' Ax (.int .i64 Ag) (.int .i64 Ah) (.int .i64 Af) (.int .i64 Ai) (.int .i64 Aj) (.slice (some Ar) Aa.length Ao) (.int .i64 Ak) (.bool Al)) (cz8_ Ac) hHeld (fun hHeld=> ?_)
       refine pQ_ 5 HT_ ?_
       refine pQ_ 7 HT_ ?_
       refine take_ (i:=6) (N:=some 19) (v:=?_) (a':=?_) (bL 33 255) rfl rfl (take_ofW HT_.out HW_.out (by kernel_rfl)) (fun _ _ _ h=> h) (Or.inl ⟨by rfl,?_⟩) hHeld ?_ ?_;rotate_left;(rintro w' ⟨s0,s1⟩;go_simp;with_reducible rfl);rotate_left;(exact put_q)
       refine take_ (i:=8) (N:=some 21) (v:=?_) (a':=?_) (bL 33 511) rfl rfl (take_ofW HT_.out HW_.out (by kernel_rfl)) (fun _ _ _ h=> h) (Or.inl ⟨by rfl,?_⟩) hHeld ?_ ?_;rotate_left;(rintro w' ⟨s0,s1⟩;go_simp;with_reducible rfl);rotate_left;(exact put_q)
       refine pQ_ 9 HT_ ?_
       refine pQ_ 10 HT_ ?_
       refine pQ_ 11 HT_ ?_
       have H:=HZ13.out;clear HZ13
       by_cases c9:((rd_T127 Aa Ab).f0)=Af
       ·rw [if_pos c9] at H;have As:=bqi c9;have At:=bnf c9
        (first | rw [As] | rw [At] | (simp only [i64_w,i32_w];first | rw [As] | rw [At]) | skip)
        clear c9;obtain rfl:=Option.some.inj H
        refine pU_ 12 HT_ ?_
        refine pU_ 13 HT_ ?_
        refine pU_ 14 HT_ ?_
        refine pU_ 15 HT_ ?_
        refine pQ_ 16 HT_ ?_
        refine pQ_ 17 HT_ ?_
        refine pU_ 18 HT_ ?_
        refine pU_ 19 HT_ ?_
        refine pU_ 20 HT_ ?_
        refine pU_ 21 HT_ ?_
        refine pU_ 22 HT_ ?_
        refine pU_ 23 HT_ ?_
        refine pU_ 24 HT_ ?_
        refine pU_ 25 HT_ ?_
        refine pU_ 26 HT_ ?_
        refine pU_ 27 HT_ ?_
        refine pU_ 28 HT_ ?_
        refine pU_ 29 HT_ ?_
        refine pU_ 30 HT_ ?_
        refine pU_ 31 HT_ ?_
        refine pQ_ 32 HT_ ?_
        refine done_ (done_of HT_.out (by kernel_rfl)) ?_
        try go_wp2
        go_ret
        exact ⟨er_q,bw_q HB⟩
       ·rw [if_neg c9] at H;have As:=bqf c9;have At:=bni c9
        (first | rw [As] | rw [At] | (simp only [i64_w,i32_w];first | rw [As] | rw [At]) | skip)
        replace H:=bsi H;obtain ⟨Bt,A150,H⟩:=H
        (try dsimp only at H)
        have A15:=ak A150;clear A150;have HZ14:=ak H;clear H
        refine pQ_ 12 HT_ ?_
        refine take_ (i:=13) (N:=some 26) (v:=?_) (a':=?_) (bL 33 16383) rfl rfl (take_ofW HT_.out HW_.out (by kernel_rfl)) (fun _ _ _ h=> h) (Or.inl ⟨by rfl,?_⟩) hHeld ?_ ?_;rotate_left;(rintro w' ⟨s0,s1⟩;go_simp;with_reducible rfl);rotate_left;(exact put_q)
        refine one_ (i:=14) (N:=some 27) (bL 33 32767) rfl rfl (one_of HT_.out (by kernel_rfl)) (by decide) (fun K hK=> ?_)
        refine goes_ Try.func81 (by kernel_rfl) rfl #[.int .i64 ((rd_T127 Aa Ab).f1),.int .i64 1,.int .i64 1000] (by rfl) rfl rfl mp_q ?_
        with_reducible refine (impl_in.calls ((rd_T127 Aa Ab).f1) 1 1000 Bt _ A15.out).mono ?_
        rintro e w' ⟨rfl,⟨nd,rfl⟩⟩
        refine ⟨_,rfl,?_⟩
        refine hK.out _ _ ⟨cz8_ Ac,cz2_ Ae⟩ (fun hHeld=> ?_)
        clear hK K
        refine norm_ (a':=?_) ?_ ?_;rotate_left;(show Act.put _ (some 27) _=_;simp only [Act.put,List.setIfInBounds_toArray,List.set_cons_zero,List.set_cons_succ,i64_w,i32_w];rfl)
        refine pQ_ 15 HT_ ?_
        refine pQ_ 16 HT_ ?_
        refine pQ_ 17 HT_ ?_
        have H:=HZ14.out;clear HZ14
        by_cases c16:Bt=true
        ·subst c16;rw [if_pos rfl] at H;have HZ15:=ak H;clear H
         refine pQ_ 18 HT_ ?_
         refine pQ_ 19 HT_ ?_
         refine pQ_ 20 HT_ ?_
         have H:=HZ15.out;clear HZ15
         by_cases c17:Ab > 0
         ·rw [if_pos c17] at H;have Am:=decide_eq_true c17
          (first | rw [Am] | (simp only [i64_w,i32_w];first | rw [Am]) | skip)
          clear c17;obtain ⟨ji18,hji18⟩:∃j_:Int,(wrap64 (Ab-1))=j_:=⟨_,rfl⟩
          replace H:(if 0≤(ji18) then (if (ji18)<(Aa.length:Int) then (if ((rd_T127 Aa (ji18)).f0)≥((rd_T127 Aa Ab).f0) then (some false) else (impl_nearOk.l0 k1 Aa (Aa.length:Int) (wrap64 (Ab+1)) Ag Ah Af Ai Aj Aa Ak Al)) else (none)) else (none))=some r:=by first | (rw [hji18] at H;exact H) | (simp only [hji18] at H ⊢;exact H)
          (try rw [hji18] at A7)
          (try rw [hji18] at A15)
          have hji18w:(IntKind.i64.wrap (Ab-1))=ji18:=(i64_w _).trans hji18
          by_cases c19:0≤(ji18)
          ·rw [if_pos c19] at H;have Cf:=decide_eq_true c19;clear c19
           by_cases c20:(ji18)<(Aa.length:Int)
           ·rw [if_pos c20] at H;have Cg:=decide_eq_true c20
            clear c20;have HZ16:=ak H;clear H
            have p330:0≤((ji18):Int):=of_decide_eq_true as_q
            have q330:(ji18)<(Aa.length:Int):=of_decide_eq_true as_q
            obtain ⟨Bu,e330,Ap,Aq⟩:=at_T127 Ba.out (ji18) p330 q330;have hw330_1:=Aq;have hw330_0:=Ap
            obtain rfl:Ar=Bu:=(by injection e330)
            obtain ⟨Ap,Aq⟩:=hb2_ HB Ap Aq;replace p330:=eq_true p330;replace q330:=eq_true q330
            refine lw_ (fun w'=> el2 w' (Ar.add (((ji18)).toNat*2)) (.int .i64 ((rd_T127 Aa (ji18)).f0)) (.int .i64 ((rd_T127 Aa (ji18)).f1))) (hb2_ HB hw330_0 hw330_1) hHeld (fun hHeld=> ?_)
            refine pQ_ 21 HT_ ?_
            refine pQ_ 23 HT_ ?_
            refine pQ_ 24 HT_ ?_
            refine pQ_ 28 HT_ ?_
            refine take_ (i:=22) (N:=some 35) (v:=?_) (a':=?_) (bL 33 301989887) rfl rfl (take_ofW HT_.out HW_.out (by kernel_rfl)) (fun _ _ _ h=> h) (Or.inl ⟨by rfl,?_⟩) hHeld ?_ ?_;rotate_left;(rintro w' ⟨s0,s1⟩;go_simp;with_reducible rfl);rotate_left;(exact put_q)
            refine pQ_ 25 HT_ ?_
            refine pQ_ 26 HT_ ?_
            refine take_ (i:=27) (N:=some 40) (v:=?_) (a':=?_) (bL 33 536870911) rfl rfl (take_ofW HT_.out HW_.out (by kernel_rfl)) (fun _ _ _ h=> h) (Or.inl ⟨by rfl,?_⟩) hHeld ?_ ?_;rotate_left;(rintro w' ⟨s0,s1⟩;go_simp;with_reducible rfl);rotate_left;(exact put_q)
            refine take_ (i:=29) (N:=some 42) (v:=?_) (a':=?_) (bL 33 1073741823) rfl rfl (take_ofW HT_.out HW_.out (by kernel_rfl)) (fun _ _ _ h=> h) (Or.inl ⟨by rfl,?_⟩) hHeld ?_ ?_;rotate_left;(rintro w' ⟨s0,s1⟩;go_simp;with_reducible rfl);rotate_left;(exact put_q)
            refine pQ_ 30 HT_ ?_
            refine pQ_ 31 HT_ ?_
            refine pQ_ 32 HT_ ?_
            have H:=HZ16.out;clear HZ16
            by_cases c21:((rd_T127 Aa (ji18)).f0)≥((rd_T127 Aa Ab).f0)
            ·rw [if_pos c21] at H;have An:=decide_eq_true c21
             (first | rw [An] | (simp only [i64_w,i32_w];first | rw [An]) | skip)
             clear c21;obtain rfl:=Option.some.inj H
             refine done_ (done_of HT_.out (by kernel_rfl)) ?_
             try go_wp2
             go_ret
             exact ⟨by first | rfl | (simp [errW_none,errW_some] <;> rfl) | (simp only [←hji18];first | rfl | (simp [errW_none,errW_some] <;> rfl)) | (simp [*,errW_none,errW_some] <;> rfl),bw_q HB⟩
            ·rw [if_neg c21] at H;have An:=decide_eq_false c21
             (first | rw [An] | (simp only [i64_w,i32_w];first | rw [An]) | skip)
             clear c21;have H':=ak H;clear H
             refine done_ (done_of HT_.out (by kernel_rfl)) ?_
             try go_wp2
             go_roundg k1
             case measure=> have:=Bb.out;omega
             case rel=> exact ⟨(wrap64 (Ab+1)),rs_q,H',⟨by have:=Bb.out;omega⟩,⟨bk_q Ac⟩,⟨bw_q HB⟩⟩
           ·rw [if_neg c20] at H
            exact absurd H (by simp)
          ·rw [if_neg c19] at H
           exact absurd H (by simp)
         ·rw [if_neg c17] at H;have Am:=decide_eq_false c17
          (first | rw [Am] | (simp only [i64_w,i32_w];first | rw [Am]) | skip)
          clear c17;have H':=ak H;clear H
          refine pU_ 21 HT_ ?_
          refine pU_ 22 HT_ ?_
          refine pU_ 23 HT_ ?_
          refine pU_ 24 HT_ ?_
          refine pU_ 25 HT_ ?_
          refine pU_ 26 HT_ ?_
          refine pU_ 27 HT_ ?_
          refine pU_ 28 HT_ ?_
          refine pU_ 29 HT_ ?_
          refine pU_ 30 HT_ ?_
          refine pQ_ 31 HT_ ?_
          refine pQ_ 32 HT_ ?_
          refine done_ (done_of HT_.out (by kernel_rfl)) ?_
          try go_wp2
          go_roundg k1
          case measure=> have:=Bb.out;omega
          case rel=> exact ⟨(wrap64 (Ab+1)),rs_q,H',⟨by have:=Bb.out;omega⟩,⟨bk_q Ac⟩,⟨bw_q HB⟩⟩
        ·replace c16:=Bool.eq_false_iff.mpr c16;subst c16
         rw [if_neg (show ¬(false=true) by decide)] at H
         obtain rfl:=Option.some.inj H
         refine pU_ 18 HT_ ?_
         refine pU_ 19 HT_ ?_
         refine pU_ 20 HT_ ?_
         refine pU_ 21 HT_ ?_
         refine pU_ 22 HT_ ?_
         refine pU_ 23 HT_ ?_
         refine pU_ 24 HT_ ?_
         refine pU_ 25 HT_ ?_
         refine pU_ 26 HT_ ?_
         refine pU_ 27 HT_ ?_
         refine pU_ 28 HT_ ?_
         refine pU_ 29 HT_ ?_
         refine pU_ 30 HT_ ?_
         refine pU_ 31 HT_ ?_
         refine pQ_ 32 HT_ ?_
         refine done_ (done_of HT_.out (by kernel_rfl)) ?_
         try go_wp2
         go_ret
         exact ⟨er_q,bw_q HB⟩
      ·replace c8:=Bool.eq_false_iff.mpr c8;subst c8
       rw [if_neg (show ¬(false=true) by decide)] at H
       obtain rfl:=Option.some.inj H
       refine pU_ 5 HT_ ?_
       refine pU_ 6 HT_ ?_
       refine pU_ 7 HT_ ?_
       refine pU_ 8 HT_ ?_
       refine pU_ 9 HT_ ?_
       refine pQ_ 10 HT_ ?_
       refine pQ_ 11 HT_ ?_
       refine pU_ 12 HT_ ?_
       refine pU_ 13 HT_ ?_
       refine pU_ 14 HT_ ?_
       refine pU_ 15 HT_ ?_
       refine pQ_ 16 HT_ ?_
       refine pQ_ 17 HT_ ?_
       refine pU_ 18 HT_ ?_
       refine pU_ 19 HT_ ?_
       refine pU_ 20 HT_ ?_
       refine pU_ 21 HT_ ?_
       refine pU_ 22 HT_ ?_
       refine pU_ 23 HT_ ?_
       refine pU_ 24 HT_ ?_
       refine pU_ 25 HT_ ?_
       refine pU_ 26 HT_ ?_
       refine pU_ 27 HT_ ?_
       refine pU_ 28 HT_ ?_
       refine pU_ 29 HT_ ?_
       refine pU_ 30 HT_ ?_
       refine pU_ 31 HT_ ?_
       refine pQ_ 32 HT_ ?_
       refine done_ (done_of HT_.out (by kernel_rfl)) ?_
       try go_wp2
       go_ret
       exact ⟨er_q,bw_q HB⟩
     ·rw [if_neg c6] at H
      exact absurd H (by simp)
    ·rw [if_neg c5] at H
     exact absurd H (by simp)
   ·rw [if_neg c4] at H;have Bv:=decide_eq_false c4
    clear c4;obtain rfl:=Option.some.inj H
    go_wp2
    go_ret
    exact ⟨er_q,bw_q HB⟩

/-! ### impl_RecordOk: function 110 -/
def impl_RecordOk.j0:Nat→Bool→Int→Int→Int→Int→Int→List (S127)→Int→Bool→Option (Bool)
 | 0,_,_,_,_,_,_,_,_,_=> none
 | k+1,s,b,c,h,d,i,e,a,g=> if s=true then (some false) else (if c=1 then ((impl_in.f b 0 2).bind fun j=> (if j=true then (if d=0 then ((impl_nearOk.f k b c h d i e a g).bind fun l=> (if l=true then (if a=0 then (some (!g)) else (some false)) else (some false))) else (some false)) else (some false))) else (if c=2 then ((impl_in.f b 0 2).bind fun m=> (if m=true then ((impl_in.f d 1 6).bind fun n=> (if n=true then (if (e.length:Int)=0 then ((impl_in.f a 0 60000).bind fun o=> (if o=true then (some (!g)) else (some false))) else (some false)) else (some false))) else (some false))) else (if c=3 then (if b=9 then ((impl_in.f d 1 9).bind fun p=> (if p=true then (if (e.length:Int)=0 then ((impl_in.f a 1 1000).bind fun q=> (if q=true then (some true) else (some (a==60000)))) else (some false)) else (some false))) else (some false)) else (some false))))
def impl_RecordOk.f (k:Nat) (c:Int) (d:Int) (a:Int) (e:Int) (b:Int) (g:List (S127)) (h:Int) (i:Bool):Option (Bool):=(impl_in.f a 1 6).bind fun j=> (if j=true then ((impl_in.f b 1 100000).bind fun l=> (impl_RecordOk.j0 k (!l) c d a e b g h i)) else (impl_RecordOk.j0 k true c d a e b g h i))
theorem impl_RecordOk.mono_l:∀k,(∀y0 y1 y2 y3 y4 y5 y6 y7 y8,LeO (impl_RecordOk.j0 k y0 y1 y2 y3 y4 y5 y6 y7 y8) (impl_RecordOk.j0 (k+1) y0 y1 y2 y3 y4 y5 y6 y7 y8))
 | 0=> fun _ _ _ _ _ _ _ _ _ r h=> by simp [impl_RecordOk.j0] at h
 | k+1=> by
  have ih0:=impl_RecordOk.mono_l k
  ·intro y0 y1 y2 y3 y4 y5 y6 y7 y8
   unfold impl_RecordOk.j0
   with_reducible repeat' (first | apply ih0 | apply impl_nearOk.mono | exact LeO.refl _ | exact LeO.none _ | refine LeO.ite ?_ ?_ | refine LeO.bind ?_ (fun _=> ?_))
theorem impl_RecordOk.mono:∀a0 a1 a2 a3 a4 a5 a6 a7 k,LeO (impl_RecordOk.f k a0 a1 a2 a3 a4 a5 a6 a7) (impl_RecordOk.f (k+1) a0 a1 a2 a3 a4 a5 a6 a7):=by
 intro a0 a1 a2 a3 a4 a5 a6 a7 k
 have ih0:=impl_RecordOk.mono_l k
 unfold impl_RecordOk.f
 with_reducible repeat' (first | apply ih0 | apply impl_nearOk.mono | exact LeO.refl _ | exact LeO.none _ | refine LeO.ite ?_ ?_ | refine LeO.bind ?_ (fun _=> ?_))
set_option maxHeartbeats 8000000 in
set_option maxRecDepth 100000 in
theorem impl_RecordOk.calls (k:Nat) (Ab:Int) (Ag:Int) (Af:Int) (Ac:Int) (Ah:Int) (Ak:Option Addr) (Al:Nat) (Ad:List (S127)) (Ae:Int) (Ai:Bool) (r:Bool) (w:World) (hr0_5:Kd.C k127 w Ak Ad.length Ad) (hc0_5:Ad.length≤Al) (h:impl_RecordOk.f k Ab Ag Af Ac Ah Ad Ae Ai=some r):
  Calls Try.prog 110 #[.agg #[.int .i64 Ab,.int .i64 Ag,.int .i64 Af,.int .i64 Ac,.int .i64 Ah,.slice Ak Ad.length Al,.int .i64 Ae,.bool Ai]] w fun e w'=> e=.returned (.bool r)∧Below w.heap.size w w':=by
 have hu61:=Try.underlying61;have Am:=ak hr0_5;have An:=ak hc0_5;clear hr0_5 hc0_5;have HB:=ak (Below.refl w.heap.size w);have H:=h
 clear h;unfold impl_RecordOk.f at H;have Ao:=ak H;clear H
 go_enter Try.func110,Try.ntmps110
 go_upto_region 1 with (first | ((with_reducible refine gate_dst (N:=1) rfl ?_);(try (refine gate_guard (by rfl) ?_;dsimp only));refine box_q 1 #[.int .i64 Ab,.int .i64 Ag,.int .i64 Af,.int .i64 Ac,.int .i64 Ah,.slice Ak Ad.length Al,.int .i64 Ae,.bool Ai] 61 ?_;intro Bw hg w3 hbox hb;have Aa:=ak (hbox);have Ny:=gs_ HB hg;replace HB:=hB_ HB hb;clear hb hbox hg))
 (try simp only [Act.put,List.setIfInBounds_toArray,List.set_cons_zero,List.set_cons_succ])
 go_cut [12] (fun v12 wc=> ∃(kq:Nat) (Aj:Bool),v12=.bool Aj∧Aside0 (impl_RecordOk.j0 kq Aj Ab Ag Af Ac Ah Ad Ae Ai=some r)∧Aside0 (kq≤k)∧Aside0 (wc.heap[Bw]? =some (.cells #[.int .i64 Ab,.int .i64 Ag,.int .i64 Af,.int .i64 Ac,.int .i64 Ah,(.slice Ak Ad.length Al),.int .i64 Ae,.bool Ai] 61 (0,0)))∧Aside0 (Below w.heap.size w wc))
 case first=>
  have H:=Ao.out;clear Ao;replace H:=bsi H;obtain ⟨Cn,A40,H⟩:=H
  (try dsimp only at H)
  have A4:=ak A40;clear A40
  by_cases c5:Cn=true
  ·subst c5;rw [if_pos rfl] at H;replace H:=bsi H;obtain ⟨Ap,A60,H⟩:=H
   (try dsimp only at H)
   have A6:=ak A60;clear A60;have H':=ak H;clear H;obtain ⟨Aq,Ar,As,At,Au,Av,Aw,Ax,Ay,Az,Ba,Bb,Bc,Bd,Be,Bf⟩:=cf8_ Aa
   go_wp2_with (first | ((with_reducible refine gC_ 81 ?_);refine gL_ 5 Try.func81 #[.int .i64 Af,.int .i64 1,.int .i64 6] ?_;(with_reducible refine (impl_in.calls Af 1 6 true _ A4.out).mono ?_);rintro e w' ⟨rfl,⟨nd,rfl⟩⟩;refine ⟨_,rfl,?_⟩) | (go_at_call 81;(with_reducible refine (impl_in.calls Ah 1 100000 Ap _ A6.out).mono ?_);rintro e w' ⟨rfl,⟨nd,rfl⟩⟩))
   go_meet
   case rel=> exact ⟨_,(!Ap),rs_q,H',⟨by first | omega | exact Nat.le_refl _⟩,⟨bk_q Aa⟩,⟨bw_q HB⟩⟩
  ·replace c5:=Bool.eq_false_iff.mpr c5;subst c5
   rw [if_neg (show ¬(false=true) by decide)] at H
   have H':=ak H;clear H;obtain ⟨Bg,Bh,Bi,Bj,Bk,Bl,Bm,Bn,Bo,Bp,Bq,Br,Bs,Bt,Bu,Bv⟩:=cf8_ Aa
   go_wp2_with (first | ((with_reducible refine gC_ 81 ?_);refine gL_ 5 Try.func81 #[.int .i64 Af,.int .i64 1,.int .i64 6] ?_;(with_reducible refine (impl_in.calls Af 1 6 false _ A4.out).mono ?_);rintro e w' ⟨rfl,⟨nd,rfl⟩⟩;refine ⟨_,rfl,?_⟩))
   go_meet
   case rel=> exact ⟨_,(true),rs_q,H',⟨by first | omega | exact Nat.le_refl _⟩,⟨bk_q Aa⟩,⟨bw_q HB⟩⟩
 case rest=>
  clear Ao;(try clear c1);(try clear p2);(try clear c5);(try clear c8)
  try clear Aq Ar As At Au Av Aw Ax
  try clear Bg Bh Bi Bj Bk Bl Bm Bn
  try clear Ay Az Ba Bb Bc Bd Be Bf
  try clear Bo Bp Bq Br Bs Bt Bu Bv
  obtain ⟨kq,Aj,rfl,HA,HJ1,Aa,HB⟩:=hcut
  cases kq with
  | zero=> exact absurd HA.out (by simp [impl_RecordOk.j0])
  | succ kj1=>
   have H:=HA.out;clear HA
   simp only [impl_RecordOk.j0] at H
   by_cases c9:Aj=true
   ·subst c9;rw [if_pos rfl] at H;obtain rfl:=Option.some.inj H
    go_wp2
    go_ret
    exact ⟨er_q,bw_q HB⟩
   ·replace c9:=Bool.eq_false_iff.mpr c9;subst c9
    rw [if_neg (show ¬(false=true) by decide)] at H
    by_cases c10:Ag=1
    ·rw [if_pos c10] at H;have Bx:=bqi c10;have By:=bnf c10
     clear c10;replace H:=bsi H;obtain ⟨Co,A110,H⟩:=H
     (try dsimp only at H)
     have A11:=ak A110;clear A110
     by_cases c12:Co=true
     ·subst c12;rw [if_pos rfl] at H
      by_cases c13:Ac=0
      ·rw [if_pos c13] at H;have Bz:=bqi c13;have Ca:=bnf c13
       clear c13;replace H:=bsi H;obtain ⟨Cp,A140,H⟩:=H
       (try dsimp only at H)
       have A14:=ak A140;clear A140
       by_cases c15:Cp=true
       ·subst c15;rw [if_pos rfl] at H
        by_cases c16:Ae=0
        ·rw [if_pos c16] at H;have Cb:=bqi c16;have Cc:=bnf c16
         clear c16;obtain rfl:=Option.some.inj H;obtain ⟨Cv,Cw,Cx,Cy,Cz,Da,Db,Dc,Dd,De,Df,Dg,Dh,Di,Dj,Dk⟩:=cf8_ Aa
         go_wp2_with (first | ((with_reducible refine gC_ 81 ?_);refine gL_ 19 Try.func81 #[.int .i64 Ab,.int .i64 0,.int .i64 2] ?_;(with_reducible refine (impl_in.calls Ab 0 2 true _ A11.out).mono ?_);rintro e w' ⟨rfl,⟨nd,rfl⟩⟩;refine ⟨_,rfl,?_⟩) | (go_at_call 142;(with_reducible refine (impl_nearOk.calls kj1 Ab Ag Af Ac Ah _ _ Ad Ae Ai true _ ?_ ?_ A14.out).mono ?_);exact cs_q (Kd.C_below Am.out (bw_q HB));exact An.out;rintro e w18 ⟨rfl,hb⟩;replace Aa:=bb_ Aa hb;replace HB:=hB_ HB hb;obtain ⟨Dl,Dm,Dn,Do,Dp,Dq,Dr,Ds,Dt,Du,Dv,Dw,Dx,Dy,Dz,Ea⟩:=cf8_ Aa))
         go_ret
         exact ⟨er_q,bw_q HB⟩
        ·rw [if_neg c16] at H;have Cb:=bqf c16;have Cc:=bni c16;obtain rfl:=Option.some.inj H;obtain ⟨Eb,Ec,Ed,Ee,Ef,Eg,Eh,Ei,Ej,Ek,El,Em,En,Eo,Ep,Eq⟩:=cf8_ Aa
         go_wp2_with (first | ((with_reducible refine gC_ 81 ?_);refine gL_ 19 Try.func81 #[.int .i64 Ab,.int .i64 0,.int .i64 2] ?_;(with_reducible refine (impl_in.calls Ab 0 2 true _ A11.out).mono ?_);rintro e w' ⟨rfl,⟨nd,rfl⟩⟩;refine ⟨_,rfl,?_⟩) | (go_at_call 142;(with_reducible refine (impl_nearOk.calls kj1 Ab Ag Af Ac Ah _ _ Ad Ae Ai true _ ?_ ?_ A14.out).mono ?_);exact cs_q (Kd.C_below Am.out (bw_q HB));exact An.out;rintro e w21 ⟨rfl,hb⟩;replace Aa:=bb_ Aa hb;replace HB:=hB_ HB hb;obtain ⟨Er,Es,Et,Eu,Ev,Ew,Ex,Ey,Ez,Fa,Fb,Fc,Fd,Fe,Ff,Fg⟩:=cf8_ Aa))
         go_ret
         exact ⟨er_q,bw_q HB⟩
       ·replace c15:=Bool.eq_false_iff.mpr c15;subst c15
        rw [if_neg (show ¬(false=true) by decide)] at H
        obtain rfl:=Option.some.inj H;obtain ⟨Fh,Fi,Fj,Fk,Fl,Fm,Fn,Fo,Fp,Fq,Fr,Fs,Ft,Fu,Fv,Fw⟩:=cf8_ Aa
        go_wp2_with (first | ((with_reducible refine gC_ 81 ?_);refine gL_ 19 Try.func81 #[.int .i64 Ab,.int .i64 0,.int .i64 2] ?_;(with_reducible refine (impl_in.calls Ab 0 2 true _ A11.out).mono ?_);rintro e w' ⟨rfl,⟨nd,rfl⟩⟩;refine ⟨_,rfl,?_⟩) | (go_at_call 142;(with_reducible refine (impl_nearOk.calls kj1 Ab Ag Af Ac Ah _ _ Ad Ae Ai false _ ?_ ?_ A14.out).mono ?_);exact cs_q (Kd.C_below Am.out (bw_q HB));exact An.out;rintro e w24 ⟨rfl,hb⟩;replace Aa:=bb_ Aa hb;replace HB:=hB_ HB hb))
        go_ret
        exact ⟨er_q,bw_q HB⟩
      ·rw [if_neg c13] at H;have Bz:=bqf c13;have Ca:=bni c13;obtain rfl:=Option.some.inj H;obtain ⟨Fx,Fy,Fz,Ga,Gb,Gc,Gd,Ge,Gf,Gg,Gh,Gi,Gj,Gk,Gl,Gm⟩:=cf8_ Aa
       go_wp2_with (first | ((with_reducible refine gC_ 81 ?_);refine gL_ 19 Try.func81 #[.int .i64 Ab,.int .i64 0,.int .i64 2] ?_;(with_reducible refine (impl_in.calls Ab 0 2 true _ A11.out).mono ?_);rintro e w' ⟨rfl,⟨nd,rfl⟩⟩;refine ⟨_,rfl,?_⟩))
       go_ret
       exact ⟨er_q,bw_q HB⟩
     ·replace c12:=Bool.eq_false_iff.mpr c12;subst c12
      rw [if_neg (show ¬(false=true) by decide)] at H
      obtain rfl:=Option.some.inj H;obtain ⟨Gn,Go,Gp,Gq,Gr,Gs,Gt,Gu,Gv,Gw,Gx,Gy,Gz,Ha,Hb,Hc⟩:=cf8_ Aa
      go_wp2_with (first | ((with_reducible refine gC_ 81 ?_);refine gL_ 19 Try.func81 #[.int .i64 Ab,.int .i64 0,.int .i64 2] ?_;(with_reducible refine (impl_in.calls Ab 0 2 false _ A11.out).mono ?_);rintro e w' ⟨rfl,⟨nd,rfl⟩⟩;refine ⟨_,rfl,?_⟩))
      go_ret
      exact ⟨er_q,bw_q HB⟩
    ·rw [if_neg c10] at H;have Bx:=bqf c10;have By:=bni c10
     by_cases c27:Ag=2
     ·rw [if_pos c27] at H;have Cd:=bqi c27;have Ce:=bnf c27
      clear c27;replace H:=bsi H;obtain ⟨Cq,A280,H⟩:=H
      (try dsimp only at H)
      have A28:=ak A280;clear A280
      by_cases c29:Cq=true
      ·subst c29;rw [if_pos rfl] at H;replace H:=bsi H;obtain ⟨Cr,A300,H⟩:=H
       (try dsimp only at H)
       have A30:=ak A300;clear A300
       by_cases c31:Cr=true
       ·subst c31;rw [if_pos rfl] at H
        by_cases c32:(Ad.length:Int)=0
        ·rw [if_pos c32] at H;have Cf:=bqi c32;have Cg:=bnf c32
         clear c32;replace H:=bsi H;obtain ⟨Cs,A330,H⟩:=H
         (try dsimp only at H)
         have A33:=ak A330;clear A330
         by_cases c34:Cs=true
         ·subst c34;rw [if_pos rfl] at H;obtain rfl:=Option.some.inj H;obtain ⟨Hd,He,Hf,Hg,Hh,Hi,Hj,Hk,Hl,Hm,Hn,Ho,Hp,Hq,Hr,Hs⟩:=cf8_ Aa
          go_wp2_with (first | ((with_reducible refine gC_ 81 ?_);refine gL_ 43 Try.func81 #[.int .i64 Ab,.int .i64 0,.int .i64 2] ?_;(with_reducible refine (impl_in.calls Ab 0 2 true _ A28.out).mono ?_);rintro e w' ⟨rfl,⟨nd,rfl⟩⟩;refine ⟨_,rfl,?_⟩) | (go_at_call 81;(with_reducible refine (impl_in.calls Ac 1 6 true _ A30.out).mono ?_);rintro e w' ⟨rfl,⟨nd,rfl⟩⟩) | (go_at_call 81;(with_reducible refine (impl_in.calls Ae 0 60000 true _ A33.out).mono ?_);rintro e w' ⟨rfl,⟨nd,rfl⟩⟩))
          go_ret
          exact ⟨er_q,bw_q HB⟩
         ·replace c34:=Bool.eq_false_iff.mpr c34;subst c34
          rw [if_neg (show ¬(false=true) by decide)] at H
          obtain rfl:=Option.some.inj H;obtain ⟨Ht,Hu,Hv,Hw,Hx,Hy,Hz,Ia,Ib,Ic,Id,Ie,If,Ig,Ih,Ii⟩:=cf8_ Aa
          go_wp2_with (first | ((with_reducible refine gC_ 81 ?_);refine gL_ 43 Try.func81 #[.int .i64 Ab,.int .i64 0,.int .i64 2] ?_;(with_reducible refine (impl_in.calls Ab 0 2 true _ A28.out).mono ?_);rintro e w' ⟨rfl,⟨nd,rfl⟩⟩;refine ⟨_,rfl,?_⟩) | (go_at_call 81;(with_reducible refine (impl_in.calls Ac 1 6 true _ A30.out).mono ?_);rintro e w' ⟨rfl,⟨nd,rfl⟩⟩) | (go_at_call 81;(with_reducible refine (impl_in.calls Ae 0 60000 false _ A33.out).mono ?_);rintro e w' ⟨rfl,⟨nd,rfl⟩⟩))
          go_ret
          exact ⟨er_q,bw_q HB⟩
        ·rw [if_neg c32] at H;have Cf:=bqf c32;have Cg:=bni c32
         have Nz:¬(Ad=[]):=fun h_=> c32 (by rw [h_];rfl)
         obtain rfl:=Option.some.inj H;obtain ⟨Ij,Ik,Il,Im,In,Io,Ip,Iq,Ir,Is,It,Iu,Iv,Iw,Ix,Iy⟩:=cf8_ Aa
         go_wp2_with (first | ((with_reducible refine gC_ 81 ?_);refine gL_ 43 Try.func81 #[.int .i64 Ab,.int .i64 0,.int .i64 2] ?_;(with_reducible refine (impl_in.calls Ab 0 2 true _ A28.out).mono ?_);rintro e w' ⟨rfl,⟨nd,rfl⟩⟩;refine ⟨_,rfl,?_⟩) | (go_at_call 81;(with_reducible refine (impl_in.calls Ac 1 6 true _ A30.out).mono ?_);rintro e w' ⟨rfl,⟨nd,rfl⟩⟩))
         go_ret
         exact ⟨er_q,bw_q HB⟩
       ·replace c31:=Bool.eq_false_iff.mpr c31;subst c31
        rw [if_neg (show ¬(false=true) by decide)] at H
        obtain rfl:=Option.some.inj H;obtain ⟨Iz,Ja,Jb,Jc,Jd,Je,Jf,Jg,Jh,Ji,Jj,Jk,Jl,Jm,Jn,Jo⟩:=cf8_ Aa
        go_wp2_with (first | ((with_reducible refine gC_ 81 ?_);refine gL_ 43 Try.func81 #[.int .i64 Ab,.int .i64 0,.int .i64 2] ?_;(with_reducible refine (impl_in.calls Ab 0 2 true _ A28.out).mono ?_);rintro e w' ⟨rfl,⟨nd,rfl⟩⟩;refine ⟨_,rfl,?_⟩) | (go_at_call 81;(with_reducible refine (impl_in.calls Ac 1 6 false _ A30.out).mono ?_);rintro e w' ⟨rfl,⟨nd,rfl⟩⟩))
        go_ret
        exact ⟨er_q,bw_q HB⟩
      ·replace c29:=Bool.eq_false_iff.mpr c29;subst c29
       rw [if_neg (show ¬(false=true) by decide)] at H
       obtain rfl:=Option.some.inj H;obtain ⟨Jp,Jq,Jr,Js,Jt,Ju,Jv,Jw,Jx,Jy,Jz,Ka,Kb,Kc,Ke,Kf⟩:=cf8_ Aa
       go_wp2_with (first | ((with_reducible refine gC_ 81 ?_);refine gL_ 43 Try.func81 #[.int .i64 Ab,.int .i64 0,.int .i64 2] ?_;(with_reducible refine (impl_in.calls Ab 0 2 false _ A28.out).mono ?_);rintro e w' ⟨rfl,⟨nd,rfl⟩⟩;refine ⟨_,rfl,?_⟩))
       go_ret
       exact ⟨er_q,bw_q HB⟩
     ·rw [if_neg c27] at H;have Cd:=bqf c27;have Ce:=bni c27
      by_cases c40:Ag=3
      ·rw [if_pos c40] at H;have Ch:=bqi c40;have Ci:=bnf c40;clear c40
       by_cases c41:Ab=9
       ·rw [if_pos c41] at H;have Cj:=bqi c41;have Ck:=bnf c41
        clear c41;replace H:=bsi H;obtain ⟨Ct,A420,H⟩:=H
        (try dsimp only at H)
        have A42:=ak A420;clear A420
        by_cases c43:Ct=true
        ·subst c43;rw [if_pos rfl] at H
         by_cases c44:(Ad.length:Int)=0
         ·rw [if_pos c44] at H;have Cl:=bqi c44;have Cm:=bnf c44
          clear c44;replace H:=bsi H;obtain ⟨Cu,A450,H⟩:=H
          (try dsimp only at H)
          have A45:=ak A450;clear A450
          by_cases c46:Cu=true
          ·subst c46;rw [if_pos rfl] at H;obtain rfl:=Option.some.inj H;obtain ⟨Kg,Kh,Ki,Kj,Kk,Kl,Km,Kn,Ko,Kp,Kq,Kr,Ks,Kt,Ku,Kv⟩:=cf8_ Aa
           go_wp2_with (first | (go_at_call 81;(with_reducible refine (impl_in.calls Ac 1 9 true _ A42.out).mono ?_);rintro e w' ⟨rfl,⟨nd,rfl⟩⟩) | (go_at_call 81;(with_reducible refine (impl_in.calls Ae 1 1000 true _ A45.out).mono ?_);rintro e w' ⟨rfl,⟨nd,rfl⟩⟩))
           go_ret
           exact ⟨er_q,bw_q HB⟩
          ·replace c46:=Bool.eq_false_iff.mpr c46;subst c46
           rw [if_neg (show ¬(false=true) by decide)] at H
           obtain rfl:=Option.some.inj H;obtain ⟨Kw,Kx,Ky,Kz,La,Lb,Lc,Ld,Le,Lf,Lg,Lh,Li,Lj,Lk,Ll⟩:=cf8_ Aa
           go_wp2_with (first | (go_at_call 81;(with_reducible refine (impl_in.calls Ac 1 9 true _ A42.out).mono ?_);rintro e w' ⟨rfl,⟨nd,rfl⟩⟩) | (go_at_call 81;(with_reducible refine (impl_in.calls Ae 1 1000 false _ A45.out).mono ?_);rintro e w' ⟨rfl,⟨nd,rfl⟩⟩))
           go_ret
           exact ⟨er_q,bw_q HB⟩
         ·rw [if_neg c44] at H;have Cl:=bqf c44;have Cm:=bni c44
          have Oa:¬(Ad=[]):=fun h_=> c44 (by rw [h_];rfl)
          obtain rfl:=Option.some.inj H;obtain ⟨Lm,Ln,Lo,Lp,Lq,Lr,Ls,Lt,Lu,Lv,Lw,Lx,Ly,Lz,Ma,Mb⟩:=cf8_ Aa
          go_wp2_with (first | (go_at_call 81;(with_reducible refine (impl_in.calls Ac 1 9 true _ A42.out).mono ?_);rintro e w' ⟨rfl,⟨nd,rfl⟩⟩))
          go_ret
          exact ⟨er_q,bw_q HB⟩
        ·replace c43:=Bool.eq_false_iff.mpr c43;subst c43
         rw [if_neg (show ¬(false=true) by decide)] at H
         obtain rfl:=Option.some.inj H;obtain ⟨Mc,Md,Me,Mf,Mg,Mh,Mi,Mj,Mk,Ml,Mm,Mn,Mo,Mp,Mq,Mr⟩:=cf8_ Aa
         go_wp2_with (first | (go_at_call 81;(with_reducible refine (impl_in.calls Ac 1 9 false _ A42.out).mono ?_);rintro e w' ⟨rfl,⟨nd,rfl⟩⟩))
         go_ret
         exact ⟨er_q,bw_q HB⟩
       ·rw [if_neg c41] at H;have Cj:=bqf c41;have Ck:=bni c41;obtain rfl:=Option.some.inj H;obtain ⟨Ms,Mt,Mu,Mv,Mw,Mx,My,Mz,Na,Nb,Nc,Nd,Ne,Nf,Ng,Nh⟩:=cf8_ Aa
        go_wp2
        go_ret
        exact ⟨er_q,bw_q HB⟩
      ·rw [if_neg c40] at H;have Ch:=bqf c40;have Ci:=bni c40;obtain rfl:=Option.some.inj H;obtain ⟨Ni,Nj,Nk,Nl,Nm,Nn,No,Np,Nq,Nr,Ns,Nt,Nu,Nv,Nw,Nx⟩:=cf8_ Aa
       go_wp2
       go_ret
       exact ⟨er_q,bw_q HB⟩

end Go.Proofs.Ythjmdiggglkeaaa.Q
