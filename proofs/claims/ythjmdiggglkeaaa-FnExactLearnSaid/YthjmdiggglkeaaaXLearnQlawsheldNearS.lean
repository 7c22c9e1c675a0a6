import Derived.Test.YthjmdiggglkeaaaXLearnQlawsszRecordS
import Derived.Test.YthjmdiggglkeaaaXLearnQlawsmarkLinkS
/- The contract of a Go function. -/

namespace Go.Proofs.Ythjmdiggglkeaaa.Q
open Go.RowKit Go.Proofs.YthjmdiggglkeaaaW.PrintWords Go.Proofs.YthjmdiggglkeaaaW.PrintLast Go.Proofs.YthjmdiggglkeaaaW.PrintMore
attribute [local go_sem] max2_int min2_int max_two min_two max_three min_three max_four min_four   -- for this text's walks alone
set_option linter.unusedVariables false
set_option linter.unusedSimpArgs false

/-! ### laws_markThingS: function 137 -/
def laws_markThingS.l0:Nat→List (S102)→Int→Int→Option (Int×(List (S102)))
 | 0,_,_,_=> none
 | k+1,e,g,a=> if a<(e.length:Int) then (if 0≤a then ((some (e.set (a:Int).toNat (⟨g,(rd_T102 e a).f1,(rd_T102 e a).f2,(rd_T102 e a).f3⟩:S102):List (S102))).bind fun b=> ((some (b.set (a:Int).toNat (⟨(rd_T102 b a).f0,wrap64 (g+1),(rd_T102 b a).f2,(rd_T102 b a).f3⟩:S102):List (S102))).bind fun c=> ((some (c.set (a:Int).toNat (⟨(rd_T102 c a).f0,(rd_T102 c a).f1,wrap64 ((wrap64 (g+1))+1),(rd_T102 c a).f3⟩:S102):List (S102))).bind fun d=> (laws_markThingS.l0 k (d.set (a:Int).toNat (⟨(rd_T102 d a).f0,(rd_T102 d a).f1,(rd_T102 d a).f2,((Int.tmod (wrap64 ((wrap64 ((wrap64 (g+1))+1))+1)) 3)==0)⟩:S102)) (wrap64 ((wrap64 ((wrap64 ((wrap64 (g+1))+1))+1))+1)) (wrap64 (a+1)))))) else (none)) else (some (g,e))
def laws_markThingS.f (k:Nat) (l0:List (S102)) (a1:Int):Option (Int×(List (S102))):=laws_markThingS.l0 k l0 a1 0
theorem laws_markThingS.mono_l:∀k,(∀y0 y1 y2,LeO (laws_markThingS.l0 k y0 y1 y2) (laws_markThingS.l0 (k+1) y0 y1 y2))
 | 0=> fun _ _ _ r h=> by simp [laws_markThingS.l0] at h
 | k+1=> by
  have ih0:=laws_markThingS.mono_l k
  ·intro y0 y1 y2
   unfold laws_markThingS.l0
   with_reducible repeat' (first | apply ih0 | exact LeO.refl _ | exact LeO.none _ | refine LeO.ite ?_ ?_ | refine LeO.bind ?_ (fun _=> ?_))
theorem laws_markThingS.mono:∀a0 a1 k,LeO (laws_markThingS.f k a0 a1) (laws_markThingS.f (k+1) a0 a1):=by
 intro a0 a1 k
 have ih0:=laws_markThingS.mono_l k
 unfold laws_markThingS.f
 with_reducible repeat' (first | apply ih0 | exact LeO.refl _ | exact LeO.none _ | refine LeO.ite ?_ ?_ | refine LeO.bind ?_ (fun _=> ?_))
set_option maxHeartbeats 8000000 in
set_option maxRecDepth 100000 in
theorem laws_markThingS.calls (k:Nat) (P0_:Nat→Prop) (u9000_:Value) (l0:List (S102)) (a1:Int) (r1:Int) (r2:List (S102)) (w0 w:World) (hB:Below w0.heap.size w0 w) (ho0:Kd.R k102 102 w w0.heap.size P0_ u9000_ l0) (h:laws_markThingS.f k l0 a1=some (r1,r2)):
  Calls Try.prog 137 #[u9000_,.int .i64 a1] w fun e w'=> e=.returned (.int .i64 r1)∧Kd.R k102 102 w' w0.heap.size (fun k_=> (P0_ k_∨w.heap.size≤k_)) u9000_ r2∧Below w0.heap.size w0 w'∧Kept w w' (fun k_=> P0_ k_):=by
 have Ax:=ak (show Kd.R k102 102 w w0.heap.size (fun k_=> (P0_ k_∨w.heap.size≤k_)) u9000_ l0 from Kd.R_mono ho0 (fun k_ hk=> (.inl hk)))
 have HK:=ak (Kept.refl w (fun k_=> P0_ k_))
 have HW0:=ak hB.size;have HB:=ak hB;clear hB;have H:=h
 clear h;unfold laws_markThingS.f at H;have H':=ak H;clear H
 go_enter Try.func137,Try.ntmps137
 go_wp2
 go_loopg [1,5] k (fun kq v1 v5 w'=> ∃(Ab:List (S102)) (Ac:Int) (Aa:Int),v1=.int .i64 Ac∧v5=.int .i64 Aa∧Aside0 (laws_markThingS.l0 kq Ab Ac Aa=some (r1,r2))∧Aside0 (kq≤k)∧Aside0 (Kd.R k102 102 w' w0.heap.size (fun k_=> (P0_ k_∨w.heap.size≤k_)) u9000_ Ab)∧Aside0 (Kept w w' (fun k_=> P0_ k_))∧Aside0 (Below w0.heap.size w0 w'))
 case atStart=> exact ⟨(l0),(a1),(0),rs_q,rs_q,H',⟨Nat.le_refl _⟩,⟨kR_q Ax⟩,⟨hk_q HK⟩,⟨bw_q HB⟩⟩
 case round=>
  clear H';(try clear c1);(try clear p2);obtain ⟨Ab,Ac,Aa,rfl,rfl,HA,Au,Ad,HK,HB⟩:=hrel
  cases gk with
  | zero=> exact absurd HA.out (by simp [laws_markThingS.l0])
  | succ k1=>
   have H:=HA.out;clear HA
   simp only [laws_markThingS.l0] at H
   by_cases c3:Aa<(Ab.length:Int)
   ·rw [if_pos c3] at H;have Aw:=decide_eq_true c3;clear c3
    by_cases c4:0≤Aa
    ·rw [if_pos c4] at H;have Bo:=decide_eq_true c4
     clear c4;obtain ⟨Ag,Ah⟩:∃y_:List (S102),y_=(Ab.set (Aa:Int).toNat (⟨Ac,(rd_T102 Ab Aa).f1,(rd_T102 Ab Aa).f2,(rd_T102 Ab Aa).f3⟩:S102)):=⟨_,rfl⟩
     replace H:((some (Ag.set (Aa:Int).toNat (⟨(rd_T102 Ag Aa).f0,wrap64 (Ac+1),(rd_T102 Ag Aa).f2,(rd_T102 Ag Aa).f3⟩:S102):List (S102))).bind fun Af=> ((some (Af.set (Aa:Int).toNat (⟨(rd_T102 Af Aa).f0,(rd_T102 Af Aa).f1,wrap64 ((wrap64 (Ac+1))+1),(rd_T102 Af Aa).f3⟩:S102):List (S102))).bind fun Ae=> (laws_markThingS.l0 k1 (Ae.set (Aa:Int).toNat (⟨(rd_T102 Ae Aa).f0,(rd_T102 Ae Aa).f1,(rd_T102 Ae Aa).f2,((Int.tmod (wrap64 ((wrap64 ((wrap64 (Ac+1))+1))+1)) 3)==0)⟩:S102)) (wrap64 ((wrap64 ((wrap64 ((wrap64 (Ac+1))+1))+1))+1)) (wrap64 (Aa+1)))))=some (r1,r2):=by first | (rw [Ah];with_reducible exact H) | (have H2_:=(Option.bind_some _ _).symm.trans H;rw [Ah];with_reducible exact H2_) | (have H2_:=(Option.bind_some _ _).symm.trans H;with_reducible exact H2_) | with_reducible exact H | (rw [Ah];exact H) | exact H
     have Aq:=ak Ah;clear Ah;obtain ⟨Af,Ai⟩:∃y_:List (S102),y_=(Ag.set (Aa:Int).toNat (⟨(rd_T102 Ag Aa).f0,wrap64 (Ac+1),(rd_T102 Ag Aa).f2,(rd_T102 Ag Aa).f3⟩:S102)):=⟨_,rfl⟩
     replace H:((some (Af.set (Aa:Int).toNat (⟨(rd_T102 Af Aa).f0,(rd_T102 Af Aa).f1,wrap64 ((wrap64 (Ac+1))+1),(rd_T102 Af Aa).f3⟩:S102):List (S102))).bind fun Ae=> (laws_markThingS.l0 k1 (Ae.set (Aa:Int).toNat (⟨(rd_T102 Ae Aa).f0,(rd_T102 Ae Aa).f1,(rd_T102 Ae Aa).f2,((Int.tmod (wrap64 ((wrap64 ((wrap64 (Ac+1))+1))+1)) 3)==0)⟩:S102)) (wrap64 ((wrap64 ((wrap64 ((wrap64 (Ac+1))+1))+1))+1)) (wrap64 (Aa+1))))=some (r1,r2):=by first | (rw [Ai];with_reducible exact H) | (have H2_:=(Option.bind_some _ _).symm.trans H;rw [Ai];with_reducible exact H2_) | (have H2_:=(Option.bind_some _ _).symm.trans H;with_reducible exact H2_) | with_reducible exact H | (rw [Ai];exact H) | exact H
     have Ar:=ak Ai;clear Ai;obtain ⟨Ae,Aj⟩:∃y_:List (S102),y_=(Af.set (Aa:Int).toNat (⟨(rd_T102 Af Aa).f0,(rd_T102 Af Aa).f1,wrap64 ((wrap64 (Ac+1))+1),(rd_T102 Af Aa).f3⟩:S102)):=⟨_,rfl⟩
     replace H:(laws_markThingS.l0 k1 (Ae.set (Aa:Int).toNat (⟨(rd_T102 Ae Aa).f0,(rd_T102 Ae Aa).f1,(rd_T102 Ae Aa).f2,((Int.tmod (wrap64 ((wrap64 ((wrap64 (Ac+1))+1))+1)) 3)==0)⟩:S102)) (wrap64 ((wrap64 ((wrap64 ((wrap64 (Ac+1))+1))+1))+1)) (wrap64 (Aa+1)))=some (r1,r2):=by first | (rw [Aj];with_reducible exact H) | (have H2_:=(Option.bind_some _ _).symm.trans H;rw [Aj];with_reducible exact H2_) | (have H2_:=(Option.bind_some _ _).symm.trans H;with_reducible exact H2_) | with_reducible exact H | (rw [Aj];exact H) | exact H
     have As:=ak Aj;clear Aj;obtain ⟨Al,Ak⟩:∃y_:List (S102),y_=(Ae.set (Aa:Int).toNat (⟨(rd_T102 Ae Aa).f0,(rd_T102 Ae Aa).f1,(rd_T102 Ae Aa).f2,((Int.tmod (wrap64 ((wrap64 ((wrap64 (Ac+1))+1))+1)) 3)==0)⟩:S102)):=⟨_,rfl⟩
     replace H:(laws_markThingS.l0 k1 Al (wrap64 ((wrap64 ((wrap64 ((wrap64 (Ac+1))+1))+1))+1)) (wrap64 (Aa+1)))=some (r1,r2):=by first | (rw [Ak];with_reducible exact H) | (have H2_:=(Option.bind_some _ _).symm.trans H;rw [Ak];with_reducible exact H2_) | (have H2_:=(Option.bind_some _ _).symm.trans H;with_reducible exact H2_) | with_reducible exact H | (rw [Ak];exact H) | exact H
     have At:=ak Ak;clear Ak;have H':=ak H;clear H;obtain ⟨Ao9,co9,eo9⟩:=Kd.R_slice Ad.out;subst eo9
     have p5:0≤(Aa:Int):=of_decide_eq_true as_q
     have q5:(Aa:Int)<((Ab.length:Int):Int):=of_decide_eq_true as_q
     obtain ⟨go5,co5,eo5,Av,gl5,cl5,HG5⟩:=Kd.R_form Ad.out (by omega)
     (first | cases eo5 | (injection eo5 with ea_ en_ ec_;(first | subst ea_ | (injection ea_ with ea_;subst ea_));subst ec_;clear en_))
     have GB5:=ak Av;have GG5:=ak HG5;clear Av gl5 HG5
     have HMgo5:=ak (show (P0_ go5∨w.heap.size≤go5) from (Ad.out.1 _ rfl))
     obtain ⟨ce5,hcl5,hM5,hcc5,hfr5⟩:=Kd.R_elem Ad.out z102 (Aa:Int) p5 q5;obtain rfl:=k102_openM hM5
     have Ay:wr.cell? ⟨go5,(Aa:Int).toNat*4,none⟩=some (.int .i64 ((rd_T102 Ab Aa).f0)):=hcc5 0 _ rfl
     have Az:wr.cell? ⟨go5,(Aa:Int).toNat*4+1,none⟩=some (.int .i64 ((rd_T102 Ab Aa).f1)):=hcc5 1 _ rfl
     have Ba:wr.cell? ⟨go5,(Aa:Int).toNat*4+2,none⟩=some (.int .i64 ((rd_T102 Ab Aa).f2)):=hcc5 2 _ rfl
     have Bb:wr.cell? ⟨go5,(Aa:Int).toNat*4+3,none⟩=some (.bool ((rd_T102 Ab Aa).f3)):=hcc5 3 _ rfl
     have hf5_0:wr.frozen? ⟨go5,(Aa:Int).toNat*4,none⟩=false:=hfr5 0
     have hf5_1:wr.frozen? ⟨go5,(Aa:Int).toNat*4+1,none⟩=false:=hfr5 1
     have hf5_2:wr.frozen? ⟨go5,(Aa:Int).toNat*4+2,none⟩=false:=hfr5 2
     have hf5_3:wr.frozen? ⟨go5,(Aa:Int).toNat*4+3,none⟩=false:=hfr5 3
     clear hcl5 hcc5 hfr5 hM5;replace p5:=eq_true p5;replace q5:=eq_true q5
     have HX10:=ak (show Kd.R k102 102 wr w0.heap.size (fun k_=> (P0_ k_∨w.heap.size≤k_)) (.slice (some ⟨go5,0,none⟩) Ab.length co9) Ab from (kR_q Ad))
     obtain ⟨ce10,hcl10,hM10,hcc10,hfr10⟩:=Kd.R_elem HX10.out z102 (Aa:Int) (of_decide_eq_true as_q) (by have h_:(Aa:Int)<((Ab.length:Int):Int):=of_decide_eq_true as_q;first | exact h_ | (have e_:=(Kd.R_reads' Ad.out).1;omega) | simpa using h_)
     obtain rfl:=k102_openM hM10
     have HP10:=Kd.R_seg HX10.out (Aa:Int) (of_decide_eq_true as_q) (by have h_:(Aa:Int)<((Ab.length:Int):Int):=of_decide_eq_true as_q;first | exact h_ | (have e_:=(Kd.R_reads' Ad.out).1;omega) | simpa using h_) (seg:=[.int .i64 Ac]) (j:=0) hcl10 hcc10 (show 1≤4 from by decide) (x':=(⟨Ac,(rd_T102 Ab Aa).f1,(rd_T102 Ab Aa).f2,(rd_T102 Ab Aa).f3⟩:S102)) (k102_mkM _ _ _ (⟨Ac,(rd_T102 Ab Aa).f1,(rd_T102 Ab Aa).f2,(rd_T102 Ab Aa).f3⟩:S102)) (fun _ hk=> hk)
     have Am:=hcc10 0 _ rfl
     (try simp only [show (k102).sz=4 from rfl,Nat.mul_one,Nat.add_zero] at Am)
     have hf10_0:=hfr10 0
     (try simp only [show (k102).sz=4 from rfl,Nat.mul_one,Nat.add_zero] at hf10_0)
     clear hcl10 hcc10 hfr10 hM10
     go_wp2_with (first | ((with_reducible refine gate_store (t:=3) (p:=16) rfl ?_);refine store_event (t:=3) (p:=16) (v:=?vo_w11) (w1:=(wr.setCell ⟨go5,(Aa:Int).toNat*4,none⟩ (.int .i64 Ac))) ?hg ?ho ?hn ?hr ?_;(case ho=> rfl);(case hg=> rfl);(case hn=> rfl);(case hr=> first | (go_simp;done) | (go_simp;rfl));intro w11 hw;have hg:wr.grownBy w11 (some go5):=(by rw [hw];exact HP10.2);have hp_:Kd.R k102 102 w11 w0.heap.size (fun k_=> (P0_ k_∨w.heap.size≤k_)) (.slice (some ⟨go5,0,none⟩) Ab.length co9) Ag:=(by rw [hw,Aq.out];exact HP10.1);clear HP10;replace HB:=ak ((by rw [hw];exact below_set (HB.out) GB5.out:Below w0.heap.size w0 w11));replace HK:=ak (Kept.of_grown (S:=(fun k_=> P0_ k_)) hg (hk_q HK) (fun k_ e_=> (Ad.out.1 k_ e_)));replace Ad:=ak (hp_);clear hg hw hp_;have p6:0≤(Aa:Int):=of_decide_eq_true as_q;have q6:(Aa:Int)<((Ab.length:Int):Int):=of_decide_eq_true as_q;obtain ⟨ce6,hcl6,hM6,hcc6,hfr6⟩:=Kd.R_elem Ad.out z102 (Aa:Int) p6 q6;obtain rfl:=k102_openM hM6;have Bc:w11.cell? ⟨go5,(Aa:Int).toNat*4,none⟩=some (.int .i64 ((rd_T102 Ag Aa).f0)):=hcc6 0 _ rfl;have Bd:w11.cell? ⟨go5,(Aa:Int).toNat*4+1,none⟩=some (.int .i64 ((rd_T102 Ag Aa).f1)):=hcc6 1 _ rfl;have Be:w11.cell? ⟨go5,(Aa:Int).toNat*4+2,none⟩=some (.int .i64 ((rd_T102 Ag Aa).f2)):=hcc6 2 _ rfl;have Bf:w11.cell? ⟨go5,(Aa:Int).toNat*4+3,none⟩=some (.bool ((rd_T102 Ag Aa).f3)):=hcc6 3 _ rfl;have hf6_0:w11.frozen? ⟨go5,(Aa:Int).toNat*4,none⟩=false:=hfr6 0;have hf6_1:w11.frozen? ⟨go5,(Aa:Int).toNat*4+1,none⟩=false:=hfr6 1;have hf6_2:w11.frozen? ⟨go5,(Aa:Int).toNat*4+2,none⟩=false:=hfr6 2;have hf6_3:w11.frozen? ⟨go5,(Aa:Int).toNat*4+3,none⟩=false:=hfr6 3;clear hcl6 hcc6 hfr6 hM6;replace p6:=eq_true p6;replace q6:=eq_true q6;have HX12:=ak (show Kd.R k102 102 w11 w0.heap.size (fun k_=> (P0_ k_∨w.heap.size≤k_)) (.slice (some ⟨go5,0,none⟩) Ab.length co9) Ag from (kR_q Ad));obtain ⟨ce12,hcl12,hM12,hcc12,hfr12⟩:=Kd.R_elem HX12.out z102 (Aa:Int) (of_decide_eq_true as_q) (by have h_:(Aa:Int)<((Ab.length:Int):Int):=of_decide_eq_true as_q;first | exact h_ | (have e_:=(Kd.R_reads' Ad.out).1;omega) | simpa using h_);obtain rfl:=k102_openM hM12;have HP12:=Kd.R_seg HX12.out (Aa:Int) (of_decide_eq_true as_q) (by have h_:(Aa:Int)<((Ab.length:Int):Int):=of_decide_eq_true as_q;first | exact h_ | (have e_:=(Kd.R_reads' Ad.out).1;omega) | simpa using h_) (seg:=[.int .i64 (wrap64 (Ac+1))]) (j:=1) hcl12 hcc12 (show 2≤4 from by decide) (x':=(⟨(rd_T102 Ag Aa).f0,wrap64 (Ac+1),(rd_T102 Ag Aa).f2,(rd_T102 Ag Aa).f3⟩:S102)) (k102_mkM _ _ _ (⟨(rd_T102 Ag Aa).f0,wrap64 (Ac+1),(rd_T102 Ag Aa).f2,(rd_T102 Ag Aa).f3⟩:S102)) (fun _ hk=> hk);have An:=hcc12 1 _ rfl;(try simp only [show (k102).sz=4 from rfl,Nat.mul_one,Nat.add_zero] at An);have hf12_1:=hfr12 1;(try simp only [show (k102).sz=4 from rfl,Nat.mul_one,Nat.add_zero] at hf12_1);clear hcl12 hcc12 hfr12 hM12) | ((with_reducible refine gate_store (t:=3) (p:=23) rfl ?_);refine store_event (t:=3) (p:=23) (v:=?vo_w13) (w1:=(w11.setCell ⟨go5,(Aa:Int).toNat*4+1,none⟩ (.int .i64 (wrap64 (Ac+1))))) ?hg ?ho ?hn ?hr ?_;(case ho=> rfl);(case hg=> rfl);(case hn=> rfl);(case hr=> first | (go_simp;done) | (go_simp;rfl));intro w13 hw;have hg:w11.grownBy w13 (some go5):=(by rw [hw];exact HP12.2);have hp_:Kd.R k102 102 w13 w0.heap.size (fun k_=> (P0_ k_∨w.heap.size≤k_)) (.slice (some ⟨go5,0,none⟩) Ab.length co9) Af:=(by rw [hw,Ar.out];exact HP12.1);clear HP12;replace HB:=ak ((by rw [hw];exact below_set (HB.out) GB5.out:Below w0.heap.size w0 w13));replace HK:=ak (Kept.of_grown (S:=(fun k_=> P0_ k_)) hg (hk_q HK) (fun k_ e_=> (Ad.out.1 k_ e_)));replace Ad:=ak (hp_);clear hg hw hp_;have p7:0≤(Aa:Int):=of_decide_eq_true as_q;have q7:(Aa:Int)<((Ab.length:Int):Int):=of_decide_eq_true as_q;obtain ⟨ce7,hcl7,hM7,hcc7,hfr7⟩:=Kd.R_elem Ad.out z102 (Aa:Int) p7 q7;obtain rfl:=k102_openM hM7;have Bg:w13.cell? ⟨go5,(Aa:Int).toNat*4,none⟩=some (.int .i64 ((rd_T102 Af Aa).f0)):=hcc7 0 _ rfl;have Bh:w13.cell? ⟨go5,(Aa:Int).toNat*4+1,none⟩=some (.int .i64 ((rd_T102 Af Aa).f1)):=hcc7 1 _ rfl;have Bi:w13.cell? ⟨go5,(Aa:Int).toNat*4+2,none⟩=some (.int .i64 ((rd_T102 Af Aa).f2)):=hcc7 2 _ rfl;have Bj:w13.cell? ⟨go5,(Aa:Int).toNat*4+3,none⟩=some (.bool ((rd_T102 Af Aa).f3)):=hcc7 3 _ rfl;have hf7_0:w13.frozen? ⟨go5,(Aa:Int).toNat*4,none⟩=false:=hfr7 0;have hf7_1:w13.frozen? ⟨go5,(Aa:Int).toNat*4+1,none⟩=false:=hfr7 1;have hf7_2:w13.frozen? ⟨go5,(Aa:Int).toNat*4+2,none⟩=false:=hfr7 2;have hf7_3:w13.frozen? ⟨go5,(Aa:Int).toNat*4+3,none⟩=false:=hfr7 3;clear hcl7 hcc7 hfr7 hM7;replace p7:=eq_true p7;replace q7:=eq_true q7;have HX14:=ak (show Kd.R k102 102 w13 w0.heap.size (fun k_=> (P0_ k_∨w.heap.size≤k_)) (.slice (some ⟨go5,0,none⟩) Ab.length co9) Af from (kR_q Ad));obtain ⟨ce14,hcl14,hM14,hcc14,hfr14⟩:=Kd.R_elem HX14.out z102 (Aa:Int) (of_decide_eq_true as_q) (by have h_:(Aa:Int)<((Ab.length:Int):Int):=of_decide_eq_true as_q;first | exact h_ | (have e_:=(Kd.R_reads' Ad.out).1;omega) | simpa using h_);obtain rfl:=k102_openM hM14;have HP14:=Kd.R_seg HX14.out (Aa:Int) (of_decide_eq_true as_q) (by have h_:(Aa:Int)<((Ab.length:Int):Int):=of_decide_eq_true as_q;first | exact h_ | (have e_:=(Kd.R_reads' Ad.out).1;omega) | simpa using h_) (seg:=[.int .i64 (wrap64 ((wrap64 (Ac+1))+1))]) (j:=2) hcl14 hcc14 (show 3≤4 from by decide) (x':=(⟨(rd_T102 Af Aa).f0,(rd_T102 Af Aa).f1,wrap64 ((wrap64 (Ac+1))+1),(rd_T102 Af Aa).f3⟩:S102)) (k102_mkM _ _ _ (⟨(rd_T102 Af Aa).f0,(rd_T102 Af Aa).f1,wrap64 ((wrap64 (Ac+1))+1),(rd_T102 Af Aa).f3⟩:S102)) (fun _ hk=> hk);have Ao:=hcc14 2 _ rfl;(try simp only [show (k102).sz=4 from rfl,Nat.mul_one,Nat.add_zero] at Ao);have hf14_2:=hfr14 2;(try simp only [show (k102).sz=4 from rfl,Nat.mul_one,Nat.add_zero] at hf14_2);clear hcl14 hcc14 hfr14 hM14) | ((with_reducible refine gate_store (t:=3) (p:=30) rfl ?_);refine store_event (t:=3) (p:=30) (v:=?vo_w15) (w1:=(w13.setCell ⟨go5,(Aa:Int).toNat*4+2,none⟩ (.int .i64 (wrap64 ((wrap64 (Ac+1))+1))))) ?hg ?ho ?hn ?hr ?_;(case ho=> rfl);(case hg=> rfl);(case hn=> rfl);(case hr=> first | (go_simp;done) | (go_simp;rfl));intro w15 hw;have hg:w13.grownBy w15 (some go5):=(by rw [hw];exact HP14.2);have hp_:Kd.R k102 102 w15 w0.heap.size (fun k_=> (P0_ k_∨w.heap.size≤k_)) (.slice (some ⟨go5,0,none⟩) Ab.length co9) Ae:=(by rw [hw,As.out];exact HP14.1);clear HP14;replace HB:=ak ((by rw [hw];exact below_set (HB.out) GB5.out:Below w0.heap.size w0 w15));replace HK:=ak (Kept.of_grown (S:=(fun k_=> P0_ k_)) hg (hk_q HK) (fun k_ e_=> (Ad.out.1 k_ e_)));replace Ad:=ak (hp_);clear hg hw hp_;have p8:0≤(Aa:Int):=of_decide_eq_true as_q;have q8:(Aa:Int)<((Ab.length:Int):Int):=of_decide_eq_true as_q;obtain ⟨ce8,hcl8,hM8,hcc8,hfr8⟩:=Kd.R_elem Ad.out z102 (Aa:Int) p8 q8;obtain rfl:=k102_openM hM8;have Bk:w15.cell? ⟨go5,(Aa:Int).toNat*4,none⟩=some (.int .i64 ((rd_T102 Ae Aa).f0)):=hcc8 0 _ rfl;have Bl:w15.cell? ⟨go5,(Aa:Int).toNat*4+1,none⟩=some (.int .i64 ((rd_T102 Ae Aa).f1)):=hcc8 1 _ rfl;have Bm:w15.cell? ⟨go5,(Aa:Int).toNat*4+2,none⟩=some (.int .i64 ((rd_T102 Ae Aa).f2)):=hcc8 2 _ rfl;have Bn:w15.cell? ⟨go5,(Aa:Int).toNat*4+3,none⟩=some (.bool ((rd_T102 Ae Aa).f3)):=hcc8 3 _ rfl;have hf8_0:w15.frozen? ⟨go5,(Aa:Int).toNat*4,none⟩=false:=hfr8 0;have hf8_1:w15.frozen? ⟨go5,(Aa:Int).toNat*4+1,none⟩=false:=hfr8 1;have hf8_2:w15.frozen? ⟨go5,(Aa:Int).toNat*4+2,none⟩=false:=hfr8 2;have hf8_3:w15.frozen? ⟨go5,(Aa:Int).toNat*4+3,none⟩=false:=hfr8 3;clear hcl8 hcc8 hfr8 hM8;replace p8:=eq_true p8;replace q8:=eq_true q8;have HX16:=ak (show Kd.R k102 102 w15 w0.heap.size (fun k_=> (P0_ k_∨w.heap.size≤k_)) (.slice (some ⟨go5,0,none⟩) Ab.length co9) Ae from (kR_q Ad));obtain ⟨ce16,hcl16,hM16,hcc16,hfr16⟩:=Kd.R_elem HX16.out z102 (Aa:Int) (of_decide_eq_true as_q) (by have h_:(Aa:Int)<((Ab.length:Int):Int):=of_decide_eq_true as_q;first | exact h_ | (have e_:=(Kd.R_reads' Ad.out).1;omega) | simpa using h_);obtain rfl:=k102_openM hM16;have HP16:=Kd.R_seg HX16.out (Aa:Int) (of_decide_eq_true as_q) (by have h_:(Aa:Int)<((Ab.length:Int):Int):=of_decide_eq_true as_q;first | exact h_ | (have e_:=(Kd.R_reads' Ad.out).1;omega) | simpa using h_) (seg:=[.bool ((Int.tmod (wrap64 ((wrap64 ((wrap64 (Ac+1))+1))+1)) 3)==0)]) (j:=3) hcl16 hcc16 (show 4≤4 from by decide) (x':=(⟨(rd_T102 Ae Aa).f0,(rd_T102 Ae Aa).f1,(rd_T102 Ae Aa).f2,((Int.tmod (wrap64 ((wrap64 ((wrap64 (Ac+1))+1))+1)) 3)==0)⟩:S102)) (k102_mkM _ _ _ (⟨(rd_T102 Ae Aa).f0,(rd_T102 Ae Aa).f1,(rd_T102 Ae Aa).f2,((Int.tmod (wrap64 ((wrap64 ((wrap64 (Ac+1))+1))+1)) 3)==0)⟩:S102)) (fun _ hk=> hk);have Ap:=hcc16 3 _ rfl;(try simp only [show (k102).sz=4 from rfl,Nat.mul_one,Nat.add_zero] at Ap);have hf16_3:=hfr16 3;(try simp only [show (k102).sz=4 from rfl,Nat.mul_one,Nat.add_zero] at hf16_3);clear hcl16 hcc16 hfr16 hM16) | ((with_reducible refine gate_store (t:=4) (p:=39) rfl ?_);refine store_event (t:=4) (p:=39) (v:=?vo_w17) (w1:=(w15.setCell ⟨go5,(Aa:Int).toNat*4+3,none⟩ (.bool ((Int.tmod (wrap64 ((wrap64 ((wrap64 (Ac+1))+1))+1)) 3)==0)))) ?hg ?ho ?hn ?hr ?_;(case ho=> rfl);(case hg=> rfl);(case hn=> rfl);(case hr=> first | (go_simp;done) | (go_simp;rfl));intro w17 hw;have hg:w15.grownBy w17 (some go5):=(by rw [hw];exact HP16.2);have hp_:Kd.R k102 102 w17 w0.heap.size (fun k_=> (P0_ k_∨w.heap.size≤k_)) (.slice (some ⟨go5,0,none⟩) Ab.length co9) Al:=(by rw [hw,At.out];exact HP16.1);clear HP16;replace HB:=ak ((by rw [hw];exact below_set (HB.out) GB5.out:Below w0.heap.size w0 w17));replace HK:=ak (Kept.of_grown (S:=(fun k_=> P0_ k_)) hg (hk_q HK) (fun k_ e_=> (Ad.out.1 k_ e_)));replace Ad:=ak (hp_);clear hg hw hp_))
     go_roundg k1
     case measure=> have:=Au.out;omega
     case rel=> exact ⟨(Al),(wrap64 ((wrap64 ((wrap64 ((wrap64 (Ac+1))+1))+1))+1)),(wrap64 (Aa+1)),rs_q,rs_q,H',⟨by have:=Au.out;omega⟩,⟨kR_q Ad⟩,⟨hk_q HK⟩,⟨bw_q HB⟩⟩
    ·rw [if_neg c4] at H
     exact absurd H (by simp)
   ·rw [if_neg c3] at H;have Aw:=decide_eq_false c3;clear c3
    simp only [Option.some.injEq,Prod.mk.injEq] at H
    obtain ⟨rfl,rfl⟩:=H;obtain ⟨Ao18,co18,eo18⟩:=Kd.R_slice Ad.out;subst eo18
    go_wp2
    go_ret
    exact ⟨er_q,kR_q Ad,bw_q HB,hk_q HK⟩

/-! ### laws_markNet: function 98 -/
def laws_markNet.f (k:Nat) (e:Int) (c:List (S93)) (d:List (S102)) (a1:Int):Option (Int×(List (S93))×(List (S102))):=(laws_markLinkS.f k c a1).bind fun a=> ((laws_markThingS.f k d a.1).bind fun b=> (some (b.1,a.2,b.2)))
theorem laws_markNet.mono:∀a0 a1 a2 a3 k,LeO (laws_markNet.f k a0 a1 a2 a3) (laws_markNet.f (k+1) a0 a1 a2 a3):=by
 intro a0 a1 a2 a3 k
 unfold laws_markNet.f
 with_reducible repeat' (first | apply laws_markLinkS.mono | apply laws_markThingS.mono | exact LeO.refl _ | exact LeO.none _ | refine LeO.ite ?_ ?_ | refine LeO.bind ?_ (fun _=> ?_))
set_option maxHeartbeats 8000000 in
set_option maxRecDepth 100000 in
theorem laws_markNet.calls (k:Nat) (Af:Int) (P0_1_:Nat→Prop) (u9000_:Value) (Ab:List (S93)) (P0_2_:Nat→Prop) (u9001_:Value) (Ac:List (S102)) (a1:Int) (r1:Int) (r2:List (S93)) (r3:List (S102)) (w0 w:World) (hB:Below w0.heap.size w0 w) (ho0_1:Kd.R k93 93 w w0.heap.size P0_1_ u9000_ Ab) (ho0_2:Kd.R k102 102 w w0.heap.size P0_2_ u9001_ Ac) (h:laws_markNet.f k Af Ab Ac a1=some (r1,r2,r3)):
  Calls Try.prog 98 #[.agg #[.int .i64 Af,u9000_,u9001_],.int .i64 a1] w fun e w'=> e=.returned (.int .i64 r1)∧Kd.R k93 93 w' w0.heap.size (fun k_=> ((P0_1_ k_∨P0_2_ k_)∨w.heap.size≤k_)) u9000_ r2∧Kd.R k102 102 w' w0.heap.size (fun k_=> ((P0_1_ k_∨P0_2_ k_)∨w.heap.size≤k_)) u9001_ r3∧Below w0.heap.size w0 w'∧Kept w w' (fun k_=> P0_1_ k_∨P0_2_ k_):=by
 have hu31:=Try.underlying31
 have HO0_1:=ak (show Kd.R k93 93 w w0.heap.size (fun k_=> ((P0_1_ k_∨P0_2_ k_)∨w.heap.size≤k_)) u9000_ Ab from Kd.R_mono ho0_1 (fun k_ hk=> (.inl (.inl hk))))
 have HO0_2:=ak (show Kd.R k102 102 w w0.heap.size (fun k_=> ((P0_1_ k_∨P0_2_ k_)∨w.heap.size≤k_)) u9001_ Ac from Kd.R_mono ho0_2 (fun k_ hk=> (.inl (.inr hk))))
 have HK:=ak (Kept.refl w (fun k_=> P0_1_ k_∨P0_2_ k_))
 have HW0:=ak hB.size;have HB:=ak hB;clear hB;have H:=h
 clear h;unfold laws_markNet.f at H;replace H:=bsi H;obtain ⟨⟨Ag,Ai⟩,A30,H⟩:=H
 (try dsimp only at H)
 have A3:=ak A30;clear A30;replace H:=bsi H;obtain ⟨⟨Aj,Ak⟩,A40,H⟩:=H
 (try dsimp only at H)
 have A4:=ak A40;clear A40
 simp only [Option.some.injEq,Prod.mk.injEq] at H
 obtain ⟨rfl,rfl,rfl⟩:=H;obtain ⟨Ao5,co5,eo5⟩:=Kd.R_slice HO0_1.out;subst eo5;obtain ⟨Ao6,co6,eo6⟩:=Kd.R_slice HO0_2.out;subst eo6
 go_enter Try.func98,Try.ntmps98
 go_wp2_with (first | ((with_reducible refine gate_dst (N:=2) rfl ?_);refine box_q 2 #[.int .i64 Af,.slice Ao5 Ab.length co5,.slice Ao6 Ac.length co6] 31 ?_;intro Ah hg w7 hbox hb;replace HO0_1:=rb_ HO0_1 hb;replace HO0_2:=rb_ HO0_2 hb;have Aa:=ak (hbox);have Ad:=ak ((by rw [hg];exact (by first | exact HK.out.1 | exact (show Kept w _ (fun k_=> P0_1_ k_∨P0_2_ k_) from hk_q HK).1):w.heap.size≤Ah));replace HK:=ak (Kept.below (S:=(fun k_=> P0_1_ k_∨P0_2_ k_)) (hk_q HK) hb);have Ax:=gsz w0 (below_size (bw_q HB)) hg;replace HB:=hB_ HB hb;clear hb hbox hg;obtain ⟨Ar,As,At,Au,Av,Aw⟩:=cf3_ Aa) | ((with_reducible refine gC_ 136 ?_);refine gL_ 8 Try.func136 #[.slice Ao5 Ab.length co5,.int .i64 a1] ?_;(with_reducible refine (laws_markLinkS.calls k (fun k_=> some k_=(.slice Ao5 Ab.length co5:Value).ownBlock) (.slice Ao5 Ab.length co5) Ab a1 Ag Ai w0 _ ?_ ?_ A3.out).mono ?_);exact bw_q HB;exact Kd.R_tight rfl HO0_1.out;rintro e w9 ⟨rfl,Ae,hb,hkp⟩;refine ⟨_,rfl,?_⟩;replace HO0_2:=ak (Kd.R_mono (ok':=fun k_=> ((P0_1_ k_∨P0_2_ k_)∨w.heap.size≤k_)) (Kd.R_keptB ((Kd.R_apart' HO0_2.out (Kd.R_typed HO0_1.out) (by decide))) hkp (fun k_ hk_ hs_=> (hk_.2) hs_)) (fun k_ hk_=> hk_.1.1));replace Aa:=ak (blk_kept (bk_q Aa) hkp (fun hs_=> (fun e_=> (Kd.R_ne HO0_1.out Aa.out (by decide)) e_) hs_));replace HK:=ak (Kept.then_ (S:=(fun k_=> P0_1_ k_∨P0_2_ k_)) (by repeat (first | (with_reducible first | exact HK.out | apply Kept.alloc | apply Kept.drewN | apply Kept.drew | refine Kept.setCell ?_ (.inr Ad.out) _) | exact HK.out)) hkp (fun k_ hs_=> (fun e_=> (HO0_1.out.1 k_ e_.symm)) hs_));replace HO0_1:=ak (Kd.R_reok rfl Ae (fun k_ e_=> HO0_1.out.1 k_ e_));replace HB:=ak (hb);(try clear hb);(try clear hkp);(try clear Ae);obtain ⟨Al,Am,An,Ao,Ap,Aq⟩:=cf3_ Aa) | ((with_reducible refine gC_ 137 ?_);refine gL_ 12 Try.func137 #[.slice Ao6 Ac.length co6,.int .i64 Ag] ?_;(with_reducible refine (laws_markThingS.calls k (fun k_=> some k_=(.slice Ao6 Ac.length co6:Value).ownBlock) (.slice Ao6 Ac.length co6) Ac Ag Aj Ak w0 _ ?_ ?_ A4.out).mono ?_);exact bw_q HB;exact Kd.R_tight rfl HO0_2.out;rintro e w11 ⟨rfl,Ae,hb,hkp⟩;refine ⟨_,rfl,?_⟩;replace HO0_1:=ak (Kd.R_mono (ok':=fun k_=> ((P0_1_ k_∨P0_2_ k_)∨w.heap.size≤k_)) (Kd.R_keptB ((Kd.R_apart' HO0_1.out (Kd.R_typed HO0_2.out) (by decide))) hkp (fun k_ hk_ hs_=> (hk_.2) hs_)) (fun k_ hk_=> hk_.1.1));replace Aa:=ak (blk_kept (bk_q Aa) hkp (fun hs_=> (fun e_=> (Kd.R_ne HO0_2.out Aa.out (by decide)) e_) hs_));replace HK:=ak (Kept.then_ (S:=(fun k_=> P0_1_ k_∨P0_2_ k_)) (by repeat (first | (with_reducible first | exact HK.out | apply Kept.alloc | apply Kept.drewN | apply Kept.drew | refine Kept.setCell ?_ (.inr Ad.out) _) | exact HK.out)) hkp (fun k_ hs_=> (fun e_=> (HO0_2.out.1 k_ e_.symm)) hs_));replace HO0_2:=ak (Kd.R_reok rfl Ae (fun k_ e_=> HO0_2.out.1 k_ e_));replace HB:=ak (hb);(try clear hb);(try clear hkp);(try clear Ae)))
 go_ret
 exact ⟨er_q,kR_q HO0_1,kR_q HO0_2,bw_q HB,by repeat (first | (with_reducible first | exact HK.out | apply Kept.alloc | apply Kept.drewN | apply Kept.drew | refine Kept.setCell ?_ (.inr Ad.out) _) | exact HK.out)⟩

/-! ### laws_markIntS: function 99 -/
def laws_markIntS.l0:Nat→List Int→Int→Int→Option (Int×List Int)
 | 0,_,_,_=> none
 | k+1,b,c,a=> if a<(b.length:Int) then (if 0≤a then (laws_markIntS.l0 k (b.set (a:Int).toNat c) (wrap64 (c+1)) (wrap64 (a+1))) else (none)) else (some (c,b))
def laws_markIntS.f (k:Nat) (l0:List Int) (a1:Int):Option (Int×List Int):=laws_markIntS.l0 k l0 a1 0
theorem laws_markIntS.mono_l:∀k,(∀y0 y1 y2,LeO (laws_markIntS.l0 k y0 y1 y2) (laws_markIntS.l0 (k+1) y0 y1 y2))
 | 0=> fun _ _ _ r h=> by simp [laws_markIntS.l0] at h
 | k+1=> by
  have ih0:=laws_markIntS.mono_l k
  ·intro y0 y1 y2
   unfold laws_markIntS.l0
   with_reducible repeat' (first | apply ih0 | exact LeO.refl _ | exact LeO.none _ | refine LeO.ite ?_ ?_ | refine LeO.bind ?_ (fun _=> ?_))
theorem laws_markIntS.mono:∀a0 a1 k,LeO (laws_markIntS.f k a0 a1) (laws_markIntS.f (k+1) a0 a1):=by
 intro a0 a1 k
 have ih0:=laws_markIntS.mono_l k
 unfold laws_markIntS.f
 with_reducible repeat' (first | apply ih0 | exact LeO.refl _ | exact LeO.none _ | refine LeO.ite ?_ ?_ | refine LeO.bind ?_ (fun _=> ?_))
set_option maxHeartbeats 8000000 in
set_option maxRecDepth 100000 in
theorem laws_markIntS.calls (k:Nat) (P0_:Nat→Prop) (u9000_:Value) (l0:List Int) (a1:Int) (r1:Int) (r2:List Int) (w0 w:World) (hB:Below w0.heap.size w0 w) (ho0:Kd.R (Kd.int .i64) 3 w w0.heap.size P0_ u9000_ l0) (h:laws_markIntS.f k l0 a1=some (r1,r2)):
  Calls Try.prog 99 #[u9000_,.int .i64 a1] w fun e w'=> e=.returned (.int .i64 r1)∧Kd.R (Kd.int .i64) 3 w' w0.heap.size (fun k_=> (P0_ k_∨w.heap.size≤k_)) u9000_ r2∧Below w0.heap.size w0 w'∧Kept w w' (fun k_=> P0_ k_):=by
 have Ak:=ak (show Kd.R (Kd.int .i64) 3 w w0.heap.size (fun k_=> (P0_ k_∨w.heap.size≤k_)) u9000_ l0 from Kd.R_mono ho0 (fun k_ hk=> (.inl hk)))
 have HK:=ak (Kept.refl w (fun k_=> P0_ k_))
 have HW0:=ak hB.size;have HB:=ak hB;clear hB;have H:=h
 clear h;unfold laws_markIntS.f at H;have H':=ak H;clear H
 go_enter Try.func99,Try.ntmps99
 go_wp2
 go_loopg [1,5] k (fun kq v1 v5 w'=> ∃(Ad:List Int) (Ac:Int) (Aa:Int),v1=.int .i64 Ac∧v5=.int .i64 Aa∧Aside0 (laws_markIntS.l0 kq Ad Ac Aa=some (r1,r2))∧Aside0 (kq≤k)∧Aside0 (Kd.R (Kd.int .i64) 3 w' w0.heap.size (fun k_=> (P0_ k_∨w.heap.size≤k_)) u9000_ Ad)∧Aside0 (Kept w w' (fun k_=> P0_ k_))∧Aside0 (Below w0.heap.size w0 w'))
 case atStart=> exact ⟨(l0),(a1),(0),rs_q,rs_q,H',⟨Nat.le_refl _⟩,⟨kR_q Ak⟩,⟨hk_q HK⟩,⟨bw_q HB⟩⟩
 case round=>
  clear H';(try clear p2);obtain ⟨Ad,Ac,Aa,rfl,rfl,HA,Ah,Ab,HK,HB⟩:=hrel
  cases gk with
  | zero=> exact absurd HA.out (by simp [laws_markIntS.l0])
  | succ k1=>
   have H:=HA.out;clear HA
   simp only [laws_markIntS.l0] at H
   by_cases c3:Aa<(Ad.length:Int)
   ·rw [if_pos c3] at H;have Aj:=decide_eq_true c3;clear c3
    by_cases c4:0≤Aa
    ·rw [if_pos c4] at H;have Am:=decide_eq_true c4
     clear c4;obtain ⟨Af,Ae⟩:∃y_:List Int,y_=(Ad.set (Aa:Int).toNat Ac):=⟨_,rfl⟩
     replace H:(laws_markIntS.l0 k1 Af (wrap64 (Ac+1)) (wrap64 (Aa+1)))=some (r1,r2):=by first | (rw [Ae];with_reducible exact H) | (have H2_:=(Option.bind_some _ _).symm.trans H;rw [Ae];with_reducible exact H2_) | (have H2_:=(Option.bind_some _ _).symm.trans H;with_reducible exact H2_) | with_reducible exact H | (rw [Ae];exact H) | exact H
     have Ag:=ak Ae;clear Ae;have H':=ak H;clear H;obtain ⟨Ao6,co6,eo6⟩:=Kd.R_slice Ab.out;subst eo6
     have p5:0≤(Aa:Int):=of_decide_eq_true as_q
     have q5:(Aa:Int)<((Ad.length:Int):Int):=of_decide_eq_true as_q
     obtain ⟨go5,co5,eo5,Ai,gl5,cl5,HG5⟩:=Kd.R_form Ab.out (by omega)
     (first | cases eo5 | (injection eo5 with ea_ en_ ec_;(first | subst ea_ | (injection ea_ with ea_;subst ea_));subst ec_;clear en_))
     have GB5:=ak Ai;have GG5:=ak HG5;clear Ai gl5 HG5
     have HMgo5:=ak (show (P0_ go5∨w.heap.size≤go5) from (Ab.out.1 _ rfl))
     obtain ⟨Al,hf5_0⟩:=Kd.R_celln 0 Ab.out (Aa:Int) p5 q5;replace p5:=eq_true p5;replace q5:=eq_true q5;have HP7:=Kd.R_putg Ab.out (Aa:Int) Ac
     go_wp2_with (first | ((with_reducible refine gate_store (t:=3) (p:=15) rfl ?_);refine store_event (t:=3) (p:=15) (v:=?vo_w8) (w1:=(wr.setCell ⟨go5,(Aa:Int).toNat,none⟩ (.int .i64 Ac))) ?hg ?ho ?hn ?hr ?_;(case ho=> rfl);(case hg=> rfl);(case hn=> rfl);(case hr=> first | (go_simp;done) | (go_simp;rfl));intro w8 hw;have hg:wr.grownBy w8 (some go5):=(by rw [hw];exact HP7.2);have hp_:Kd.R (Kd.int .i64) 3 w8 w0.heap.size (fun k_=> (P0_ k_∨w.heap.size≤k_)) (.slice (some ⟨go5,0,none⟩) Ad.length co6) Af:=(by rw [hw,Ag.out];exact HP7.1);clear HP7;replace HB:=ak ((by rw [hw];exact below_set (HB.out) GB5.out:Below w0.heap.size w0 w8));replace HK:=ak (Kept.of_grown (S:=(fun k_=> P0_ k_)) hg (hk_q HK) (fun k_ e_=> (Ab.out.1 k_ e_)));replace Ab:=ak (hp_);clear hg hw hp_))
     go_roundg k1
     case measure=> have:=Ah.out;omega
     case rel=> exact ⟨(Af),(wrap64 (Ac+1)),(wrap64 (Aa+1)),rs_q,rs_q,H',⟨by have:=Ah.out;omega⟩,⟨kR_q Ab⟩,⟨hk_q HK⟩,⟨bw_q HB⟩⟩
    ·rw [if_neg c4] at H
     exact absurd H (by simp)
   ·rw [if_neg c3] at H;have Aj:=decide_eq_false c3;clear c3
    simp only [Option.some.injEq,Prod.mk.injEq] at H
    obtain ⟨rfl,rfl⟩:=H;obtain ⟨Ao9,co9,eo9⟩:=Kd.R_slice Ab.out;subst eo9
    go_wp2
    go_ret
    exact ⟨er_q,kR_q Ab,bw_q HB,hk_q HK⟩

/-! ### laws_markNearS: function 100 -/
def laws_markNearS.l0:Nat→List (S127)→Int→Int→Option (Int×(List (S127)))
 | 0,_,_,_=> none
 | k+1,c,d,a=> if a<(c.length:Int) then (if 0≤a then ((some (c.set (a:Int).toNat (⟨d,(rd_T127 c a).f1⟩:S127):List (S127))).bind fun b=> (laws_markNearS.l0 k (b.set (a:Int).toNat (⟨(rd_T127 b a).f0,wrap64 (d+1)⟩:S127)) (wrap64 ((wrap64 (d+1))+1)) (wrap64 (a+1)))) else (none)) else (some (d,c))
def laws_markNearS.f (k:Nat) (l0:List (S127)) (a1:Int):Option (Int×(List (S127))):=laws_markNearS.l0 k l0 a1 0
theorem laws_markNearS.mono_l:∀k,(∀y0 y1 y2,LeO (laws_markNearS.l0 k y0 y1 y2) (laws_markNearS.l0 (k+1) y0 y1 y2))
 | 0=> fun _ _ _ r h=> by simp [laws_markNearS.l0] at h
 | k+1=> by
  have ih0:=laws_markNearS.mono_l k
  ·intro y0 y1 y2
   unfold laws_markNearS.l0
   with_reducible repeat' (first | apply ih0 | exact LeO.refl _ | exact LeO.none _ | refine LeO.ite ?_ ?_ | refine LeO.bind ?_ (fun _=> ?_))
theorem laws_markNearS.mono:∀a0 a1 k,LeO (laws_markNearS.f k a0 a1) (laws_markNearS.f (k+1) a0 a1):=by
 intro a0 a1 k
 have ih0:=laws_markNearS.mono_l k
 unfold laws_markNearS.f
 with_reducible repeat' (first | apply ih0 | exact LeO.refl _ | exact LeO.none _ | refine LeO.ite ?_ ?_ | refine LeO.bind ?_ (fun _=> ?_))
set_option maxHeartbeats 8000000 in
set_option maxRecDepth 100000 in
theorem laws_markNearS.calls (k:Nat) (P0_:Nat→Prop) (u9000_:Value) (l0:List (S127)) (a1:Int) (r1:Int) (r2:List (S127)) (w0 w:World) (hB:Below w0.heap.size w0 w) (ho0:Kd.R k127 127 w w0.heap.size P0_ u9000_ l0) (h:laws_markNearS.f k l0 a1=some (r1,r2)):
  Calls Try.prog 100 #[u9000_,.int .i64 a1] w fun e w'=> e=.returned (.int .i64 r1)∧Kd.R k127 127 w' w0.heap.size (fun k_=> (P0_ k_∨w.heap.size≤k_)) u9000_ r2∧Below w0.heap.size w0 w'∧Kept w w' (fun k_=> P0_ k_):=by
 have Ap:=ak (show Kd.R k127 127 w w0.heap.size (fun k_=> (P0_ k_∨w.heap.size≤k_)) u9000_ l0 from Kd.R_mono ho0 (fun k_ hk=> (.inl hk)))
 have HK:=ak (Kept.refl w (fun k_=> P0_ k_))
 have HW0:=ak hB.size;have HB:=ak hB;clear hB;have H:=h
 clear h;unfold laws_markNearS.f at H;have H':=ak H;clear H
 go_enter Try.func100,Try.ntmps100
 go_wp2
 go_loopg [1,5] k (fun kq v1 v5 w'=> ∃(Ab:List (S127)) (Ad:Int) (Aa:Int),v1=.int .i64 Ad∧v5=.int .i64 Aa∧Aside0 (laws_markNearS.l0 kq Ab Ad Aa=some (r1,r2))∧Aside0 (kq≤k)∧Aside0 (Kd.R k127 127 w' w0.heap.size (fun k_=> (P0_ k_∨w.heap.size≤k_)) u9000_ Ab)∧Aside0 (Kept w w' (fun k_=> P0_ k_))∧Aside0 (Below w0.heap.size w0 w'))
 case atStart=> exact ⟨(l0),(a1),(0),rs_q,rs_q,H',⟨Nat.le_refl _⟩,⟨kR_q Ap⟩,⟨hk_q HK⟩,⟨bw_q HB⟩⟩
 case round=>
  clear H';(try clear c1);(try clear p2);obtain ⟨Ab,Ad,Aa,rfl,rfl,HA,Am,Ac,HK,HB⟩:=hrel
  cases gk with
  | zero=> exact absurd HA.out (by simp [laws_markNearS.l0])
  | succ k1=>
   have H:=HA.out;clear HA
   simp only [laws_markNearS.l0] at H
   by_cases c3:Aa<(Ab.length:Int)
   ·rw [if_pos c3] at H;have Ao:=decide_eq_true c3;clear c3
    by_cases c4:0≤Aa
    ·rw [if_pos c4] at H;have Au:=decide_eq_true c4
     clear c4;obtain ⟨Ae,Af⟩:∃y_:List (S127),y_=(Ab.set (Aa:Int).toNat (⟨Ad,(rd_T127 Ab Aa).f1⟩:S127)):=⟨_,rfl⟩
     replace H:(laws_markNearS.l0 k1 (Ae.set (Aa:Int).toNat (⟨(rd_T127 Ae Aa).f0,wrap64 (Ad+1)⟩:S127)) (wrap64 ((wrap64 (Ad+1))+1)) (wrap64 (Aa+1)))=some (r1,r2):=by first | (rw [Af];with_reducible exact H) | (have H2_:=(Option.bind_some _ _).symm.trans H;rw [Af];with_reducible exact H2_) | (have H2_:=(Option.bind_some _ _).symm.trans H;with_reducible exact H2_) | with_reducible exact H | (rw [Af];exact H) | exact H
     have Aj:=ak Af;clear Af;obtain ⟨Ah,Ag⟩:∃y_:List (S127),y_=(Ae.set (Aa:Int).toNat (⟨(rd_T127 Ae Aa).f0,wrap64 (Ad+1)⟩:S127)):=⟨_,rfl⟩
     replace H:(laws_markNearS.l0 k1 Ah (wrap64 ((wrap64 (Ad+1))+1)) (wrap64 (Aa+1)))=some (r1,r2):=by first | (rw [Ag];with_reducible exact H) | (have H2_:=(Option.bind_some _ _).symm.trans H;rw [Ag];with_reducible exact H2_) | (have H2_:=(Option.bind_some _ _).symm.trans H;with_reducible exact H2_) | with_reducible exact H | (rw [Ag];exact H) | exact H
     have Ak:=ak Ag;clear Ag;have H':=ak H;clear H;obtain ⟨Ao7,co7,eo7⟩:=Kd.R_slice Ac.out;subst eo7
     have p5:0≤(Aa:Int):=of_decide_eq_true as_q
     have q5:(Aa:Int)<((Ab.length:Int):Int):=of_decide_eq_true as_q
     obtain ⟨go5,co5,eo5,An,gl5,cl5,HG5⟩:=Kd.R_form Ac.out (by omega)
     (first | cases eo5 | (injection eo5 with ea_ en_ ec_;(first | subst ea_ | (injection ea_ with ea_;subst ea_));subst ec_;clear en_))
     have GB5:=ak An;have GG5:=ak HG5;clear An gl5 HG5
     have HMgo5:=ak (show (P0_ go5∨w.heap.size≤go5) from (Ac.out.1 _ rfl))
     obtain ⟨ce5,hcl5,hM5,hcc5,hfr5⟩:=Kd.R_elem Ac.out z127 (Aa:Int) p5 q5;obtain rfl:=k127_openM hM5
     have Aq:wr.cell? ⟨go5,(Aa:Int).toNat*2,none⟩=some (.int .i64 ((rd_T127 Ab Aa).f0)):=hcc5 0 _ rfl
     have Ar:wr.cell? ⟨go5,(Aa:Int).toNat*2+1,none⟩=some (.int .i64 ((rd_T127 Ab Aa).f1)):=hcc5 1 _ rfl
     have hf5_0:wr.frozen? ⟨go5,(Aa:Int).toNat*2,none⟩=false:=hfr5 0
     have hf5_1:wr.frozen? ⟨go5,(Aa:Int).toNat*2+1,none⟩=false:=hfr5 1
     clear hcl5 hcc5 hfr5 hM5;replace p5:=eq_true p5;replace q5:=eq_true q5
     have HX8:=ak (show Kd.R k127 127 wr w0.heap.size (fun k_=> (P0_ k_∨w.heap.size≤k_)) (.slice (some ⟨go5,0,none⟩) Ab.length co7) Ab from (kR_q Ac))
     obtain ⟨ce8,hcl8,hM8,hcc8,hfr8⟩:=Kd.R_elem HX8.out z127 (Aa:Int) (of_decide_eq_true as_q) (by have h_:(Aa:Int)<((Ab.length:Int):Int):=of_decide_eq_true as_q;first | exact h_ | (have e_:=(Kd.R_reads' Ac.out).1;omega) | simpa using h_)
     obtain rfl:=k127_openM hM8
     have HP8:=Kd.R_seg HX8.out (Aa:Int) (of_decide_eq_true as_q) (by have h_:(Aa:Int)<((Ab.length:Int):Int):=of_decide_eq_true as_q;first | exact h_ | (have e_:=(Kd.R_reads' Ac.out).1;omega) | simpa using h_) (seg:=[.int .i64 Ad]) (j:=0) hcl8 hcc8 (show 1≤2 from by decide) (x':=(⟨Ad,(rd_T127 Ab Aa).f1⟩:S127)) (k127_mkM _ _ _ (⟨Ad,(rd_T127 Ab Aa).f1⟩:S127)) (fun _ hk=> hk)
     have Al:=hcc8 0 _ rfl
     (try simp only [show (k127).sz=2 from rfl,Nat.mul_one,Nat.add_zero] at Al)
     have hf8_0:=hfr8 0
     (try simp only [show (k127).sz=2 from rfl,Nat.mul_one,Nat.add_zero] at hf8_0)
     clear hcl8 hcc8 hfr8 hM8
     go_wp2_with (first | ((with_reducible refine gate_store (t:=3) (p:=16) rfl ?_);refine store_event (t:=3) (p:=16) (v:=?vo_w9) (w1:=(wr.setCell ⟨go5,(Aa:Int).toNat*2,none⟩ (.int .i64 Ad))) ?hg ?ho ?hn ?hr ?_;(case ho=> rfl);(case hg=> rfl);(case hn=> rfl);(case hr=> first | (go_simp;done) | (go_simp;rfl));intro w9 hw;have hg:wr.grownBy w9 (some go5):=(by rw [hw];exact HP8.2);have hp_:Kd.R k127 127 w9 w0.heap.size (fun k_=> (P0_ k_∨w.heap.size≤k_)) (.slice (some ⟨go5,0,none⟩) Ab.length co7) Ae:=(by rw [hw,Aj.out];exact HP8.1);clear HP8;replace HB:=ak ((by rw [hw];exact below_set (HB.out) GB5.out:Below w0.heap.size w0 w9));replace HK:=ak (Kept.of_grown (S:=(fun k_=> P0_ k_)) hg (hk_q HK) (fun k_ e_=> (Ac.out.1 k_ e_)));replace Ac:=ak (hp_);clear hg hw hp_;have p6:0≤(Aa:Int):=of_decide_eq_true as_q;have q6:(Aa:Int)<((Ab.length:Int):Int):=of_decide_eq_true as_q;obtain ⟨ce6,hcl6,hM6,hcc6,hfr6⟩:=Kd.R_elem Ac.out z127 (Aa:Int) p6 q6;obtain rfl:=k127_openM hM6;have As:w9.cell? ⟨go5,(Aa:Int).toNat*2,none⟩=some (.int .i64 ((rd_T127 Ae Aa).f0)):=hcc6 0 _ rfl;have At:w9.cell? ⟨go5,(Aa:Int).toNat*2+1,none⟩=some (.int .i64 ((rd_T127 Ae Aa).f1)):=hcc6 1 _ rfl;have hf6_0:w9.frozen? ⟨go5,(Aa:Int).toNat*2,none⟩=false:=hfr6 0;have hf6_1:w9.frozen? ⟨go5,(Aa:Int).toNat*2+1,none⟩=false:=hfr6 1;clear hcl6 hcc6 hfr6 hM6;replace p6:=eq_true p6;replace q6:=eq_true q6;have HX10:=ak (show Kd.R k127 127 w9 w0.heap.size (fun k_=> (P0_ k_∨w.heap.size≤k_)) (.slice (some ⟨go5,0,none⟩) Ab.length co7) Ae from (kR_q Ac));obtain ⟨ce10,hcl10,hM10,hcc10,hfr10⟩:=Kd.R_elem HX10.out z127 (Aa:Int) (of_decide_eq_true as_q) (by have h_:(Aa:Int)<((Ab.length:Int):Int):=of_decide_eq_true as_q;first | exact h_ | (have e_:=(Kd.R_reads' Ac.out).1;omega) | simpa using h_);obtain rfl:=k127_openM hM10;have HP10:=Kd.R_seg HX10.out (Aa:Int) (of_decide_eq_true as_q) (by have h_:(Aa:Int)<((Ab.length:Int):Int):=of_decide_eq_true as_q;first | exact h_ | (have e_:=(Kd.R_reads' Ac.out).1;omega) | simpa using h_) (seg:=[.int .i64 (wrap64 (Ad+1))]) (j:=1) hcl10 hcc10 (show 2≤2 from by decide) (x':=(⟨(rd_T127 Ae Aa).f0,wrap64 (Ad+1)⟩:S127)) (k127_mkM _ _ _ (⟨(rd_T127 Ae Aa).f0,wrap64 (Ad+1)⟩:S127)) (fun _ hk=> hk);have Ai:=hcc10 1 _ rfl;(try simp only [show (k127).sz=2 from rfl,Nat.mul_one,Nat.add_zero] at Ai);have hf10_1:=hfr10 1;(try simp only [show (k127).sz=2 from rfl,Nat.mul_one,Nat.add_zero] at hf10_1);clear hcl10 hcc10 hfr10 hM10) | ((with_reducible refine gate_store (t:=3) (p:=23) rfl ?_);refine store_event (t:=3) (p:=23) (v:=?vo_w11) (w1:=(w9.setCell ⟨go5,(Aa:Int).toNat*2+1,none⟩ (.int .i64 (wrap64 (Ad+1))))) ?hg ?ho ?hn ?hr ?_;(case ho=> rfl);(case hg=> rfl);(case hn=> rfl);(case hr=> first | (go_simp;done) | (go_simp;rfl));intro w11 hw;have hg:w9.grownBy w11 (some go5):=(by rw [hw];exact HP10.2);have hp_:Kd.R k127 127 w11 w0.heap.size (fun k_=> (P0_ k_∨w.heap.size≤k_)) (.slice (some ⟨go5,0,none⟩) Ab.length co7) Ah:=(by rw [hw,Ak.out];exact HP10.1);clear HP10;replace HB:=ak ((by rw [hw];exact below_set (HB.out) GB5.out:Below w0.heap.size w0 w11));replace HK:=ak (Kept.of_grown (S:=(fun k_=> P0_ k_)) hg (hk_q HK) (fun k_ e_=> (Ac.out.1 k_ e_)));replace Ac:=ak (hp_);clear hg hw hp_))
     go_roundg k1
     case measure=> have:=Am.out;omega
     case rel=> exact ⟨(Ah),(wrap64 ((wrap64 (Ad+1))+1)),(wrap64 (Aa+1)),rs_q,rs_q,H',⟨by have:=Am.out;omega⟩,⟨kR_q Ac⟩,⟨hk_q HK⟩,⟨bw_q HB⟩⟩
    ·rw [if_neg c4] at H
     exact absurd H (by simp)
   ·rw [if_neg c3] at H;have Ao:=decide_eq_false c3;clear c3
    simp only [Option.some.injEq,Prod.mk.injEq] at H
    obtain ⟨rfl,rfl⟩:=H;obtain ⟨Ao12,co12,eo12⟩:=Kd.R_slice Ac.out;subst eo12
    go_wp2
    go_ret
    exact ⟨er_q,kR_q Ac,bw_q HB,hk_q HK⟩

/-! ### laws_markRecordS: function 31 -/
def laws_markRecordS.l0:Nat→List (S61)→Int→Int→Option (Int×(List (S61)))
  | 0,_,_,_=> none
  | k+1,x0,x1,x5=> if x5<(x0.length:Int) then (if 0≤x5 then ((laws_markNearS.f k ((rd_T61 x0 x5).f5) (wrap64 ((wrap64 ((wrap64 ((wrap64 ((wrap64 (x1+1))+1))+1))+1))+1))).bind fun q=> (laws_markRecordS.l0 k (x0.set (x5:Int).toNat (⟨x1,wrap64 (x1+1),wrap64 ((wrap64 (x1+1))+1),wrap64 ((wrap64 ((wrap64 (x1+1))+1))+1),wrap64 ((wrap64 ((wrap64 ((wrap64 (x1+1))+1))+1))+1),q.2,q.1,(Int.tmod (wrap64 (q.1+1)) 3)==0⟩:S61)) (wrap64 ((wrap64 (q.1+1))+1)) (wrap64 (x5+1)))) else (none)) else (some (x1,x0))
def laws_markRecordS.f (k:Nat) (l0:List (S61)) (a1:Int):Option (Int×(List (S61))):=laws_markRecordS.l0 k l0 a1 0
theorem laws_markRecordS.mono_l:∀k,(∀y0 y1 y2,LeO (laws_markRecordS.l0 k y0 y1 y2) (laws_markRecordS.l0 (k+1) y0 y1 y2))
  | 0=> fun _ _ _ r h=> by simp [laws_markRecordS.l0] at h
  | k+1=> by
    have ih0:=laws_markRecordS.mono_l k
    intro y0 y1 y2
    unfold laws_markRecordS.l0
    with_reducible repeat' (first | apply ih0 | apply laws_markNearS.mono | exact LeO.refl _ | exact LeO.none _ | refine LeO.ite ?_ ?_ | refine LeO.bind ?_ (fun _=> ?_))
theorem laws_markRecordS.mono:∀a0 a1 k,LeO (laws_markRecordS.f k a0 a1) (laws_markRecordS.f (k+1) a0 a1):=by
  intro a0 a1 k
  exact laws_markRecordS.mono_l k _ _ _
/-- An element that is known, out of a row of the call's own. -/
theorem laws_markRecordS.at_ {d:Kd S61} {e base g n cap:Nat} {ok:Nat→Prop} {W:World} {xs:List S61} {x:S61} {i:Int} (h:Kd.S d e W base ok (.slice (some ⟨g,0,none⟩) n cap) (xs.set i.toNat x)) (h0:0≤i) (h1:i<(n:Int)):
    ∃(oki:Nat→Prop) (c:List Value),c.length=d.sz∧d.M W base oki x c∧(∀j u,c[j]? =some u→W.cell? ⟨g,i.toNat*d.sz+j,none⟩=some u)∧(∀j,W.frozen? ⟨g,i.toNat*d.sz+j,none⟩=false)∧(∀k,oki k→ok k∧k≠g)∧Kd.H d e W base ok (.slice (some ⟨g,0,none⟩) n cap) (xs.set i.toNat x) i oki c:=by
  have hn:=(Kd.S_reads' h).1;obtain ⟨oki,c,a1,a2,a3,a4,a5,a6⟩:=Kd.S_elem h x i h0 h1;rw [List.length_set] at hn
  rw [List.getD_eq_getElem?_getD,List.getElem?_set_self (by omega)] at a2
  exact ⟨oki,c,a1,a2,a3,a4,a5,a6⟩
theorem laws_markRecordS.put_ {d:Kd S61} {e base g n cap:Nat} {ok oki okp:Nat→Prop} {W:World} {xs:List S61} {x x':S61} {i:Int} {c:List Value} (hH:Kd.H d e W base ok (.slice (some ⟨g,0,none⟩) n cap) (xs.set i.toNat x) i oki c) (h0:0≤i) (h1:i<(n:Int)) {u:Value} {j:Nat} (hj:j+1≤d.sz)
    (hM:d.M W base okp x' (c.take j++[u]++c.drop (j+1))) (hokp:∀k,okp k→oki k):Kd.S d e (W.setCell ⟨g,i.toNat*d.sz+j,none⟩ u) base ok (.slice (some ⟨g,0,none⟩) n cap) (xs.set i.toNat x')∧W.grownBy (W.setCell ⟨g,i.toNat*d.sz+j,none⟩ u) (some g):=by
  have h:=Kd.S_seg0 hH h0 h1 (seg:=[u]) hj hM hokp;rw [List.set_set] at h
  exact h
theorem laws_markRecordS.call_ {d:Kd S61} {e base g n cap:Nat} {ok oki okp:Nat→Prop} {W W2:World} {xs:List S61} {x x':S61} {i:Int} {c:List Value} (hH:Kd.H d e W base ok (.slice (some ⟨g,0,none⟩) n cap) (xs.set i.toNat x) i oki c) (hk:Kept W W2 oki)
    (hM:d.M W2 base okp x' c) (hokp:∀k,okp k→oki k):Kd.S d e W2 base ok (.slice (some ⟨g,0,none⟩) n cap) (xs.set i.toNat x'):=by
  have h:=Kd.H_back (Kd.H_kept hH hk (fun _ _ hn=> hn)) hM hokp
  rw [List.set_set] at h
  exact h
theorem laws_markRecordS.start_ {xs:List S61} {i:Int} (h1:i<(xs.length:Int)) (h0:0≤i):xs.set i.toNat (rd_T61 xs i)=xs:=by
  unfold rd_T61
  rw [List.getD_eq_getElem?_getD,List.getElem?_eq_getElem (by omega)]
  exact List.set_getElem_self _
set_option maxHeartbeats 8000000 in
set_option maxRecDepth 100000 in
theorem laws_markRecordS.calls (k:Nat) (P0_:Nat→Prop) (u9000_:Value) (l0:List (S61)) (a1:Int) (r1:Int) (r2:List (S61)) (w0 w:World) (hB:Below w0.heap.size w0 w) (ho0:Kd.S k61 61 w w0.heap.size P0_ u9000_ l0) (h:laws_markRecordS.f k l0 a1=some (r1,r2)):
    Calls Try.prog 31 #[u9000_,.int .i64 a1] w fun e w'=> e=.returned (.int .i64 r1)∧Kd.S k61 61 w' w0.heap.size P0_ u9000_ r2∧Below w0.heap.size w0 w'∧Kept w w' P0_:=by
  have Af:=ak ho0;have HK:=ak (Kept.refl w P0_);have HB:=ak hB;clear hB ho0
  have H':=ak (show laws_markRecordS.l0 k l0 a1 0=some (r1,r2) from h)
  clear h
  go_enter Try.func31,Try.ntmps31
  go_wp2
  go_loopg [1,5] k (fun kq v1 v5 w'=> ∃(Ac:List (S61)) (Ab:Int) (Aa:Int),v1=.int .i64 Ab∧v5=.int .i64 Aa∧Aside0 (laws_markRecordS.l0 kq Ac Ab Aa=some (r1,r2))∧Aside0 (kq≤k)∧Aside0 (Kd.S k61 61 w' w0.heap.size P0_ u9000_ Ac)∧Aside0 (Kept w w' P0_)∧Aside0 (Below w0.heap.size w0 w'))
  case atStart=> exact ⟨l0,a1,0,rs_q,rs_q,H',⟨Nat.le_refl _⟩,⟨kS_q Af⟩,⟨hk_q HK⟩,⟨(bw_q HB)⟩⟩
  case round=>
    clear H';(try clear p2);obtain ⟨Ac,Ab,Aa,rfl,rfl,HA,Ad,HO,HK,HB⟩:=hrel
    cases gk with
    | zero=> exact absurd HA.out (by simp [laws_markRecordS.l0])
    | succ k1=>
      have H:=HA.out;clear HA
      simp only [laws_markRecordS.l0] at H
      by_cases c3:Aa<(Ac.length:Int)
      · rw [if_pos c3] at H
        have Ae:=decide_eq_true c3
        by_cases c4:0≤Aa
        · rw [if_pos c4] at H
          have Ag:=decide_eq_true c4;replace H:=bsi H;obtain ⟨⟨t,y⟩,A,H⟩:=H;have H':=ak H;clear H;have A:=ak A;obtain ⟨Ao7,co7,eo7⟩:=Kd.S_slice HO.out;subst eo7
          obtain ⟨go,co,eo,gb,gl,cl,HG⟩:=Kd.S_form HO.out (by omega)
          (first | cases eo | (injection eo with ea_ en_ ec_;(first | subst ea_ | (injection ea_ with ea_;subst ea_));subst ec_;clear en_))
          have GB:=ak gb
          have GP:=ak (show P0_ go from (Kd.S_R HO.out).1 go rfl)
          clear gb gl HG
          have p:0≤(Aa:Int):=c4
          have q:(Aa:Int)<((Ac.length:Nat):Int):=c3
          have HS:Kd.S k61 61 wr w0.heap.size P0_ (.slice (some ⟨go,0,none⟩) Ac.length co7) (Ac.set (Aa:Int).toNat (rd_T61 Ac Aa)):=by rw [laws_markRecordS.start_ q p];exact HO.out
          clear HO
          generalize rd_T61 Ac Aa=e at*
          obtain ⟨oka,ca,cla,cma,cca,cfa,coa,cha⟩:=laws_markRecordS.at_ HS p q;obtain ⟨va,rfl,gea⟩:=k61_openM cma
          have hxa_0:wr.cell? ⟨go,(Aa:Int).toNat*8,none⟩=some (.int .i64 (e.f0)):=cca 0 _ rfl
          have hfa_0:wr.frozen? ⟨go,(Aa:Int).toNat*8,none⟩=false:=cfa 0
          have hxa_1:wr.cell? ⟨go,(Aa:Int).toNat*8+1,none⟩=some (.int .i64 (e.f1)):=cca 1 _ rfl
          have hfa_1:wr.frozen? ⟨go,(Aa:Int).toNat*8+1,none⟩=false:=cfa 1
          have hxa_2:wr.cell? ⟨go,(Aa:Int).toNat*8+2,none⟩=some (.int .i64 (e.f2)):=cca 2 _ rfl
          have hfa_2:wr.frozen? ⟨go,(Aa:Int).toNat*8+2,none⟩=false:=cfa 2
          have hxa_3:wr.cell? ⟨go,(Aa:Int).toNat*8+3,none⟩=some (.int .i64 (e.f3)):=cca 3 _ rfl
          have hfa_3:wr.frozen? ⟨go,(Aa:Int).toNat*8+3,none⟩=false:=cfa 3
          have hxa_4:wr.cell? ⟨go,(Aa:Int).toNat*8+4,none⟩=some (.int .i64 (e.f4)):=cca 4 _ rfl
          have hfa_4:wr.frozen? ⟨go,(Aa:Int).toNat*8+4,none⟩=false:=cfa 4
          have hxa_5:wr.cell? ⟨go,(Aa:Int).toNat*8+5,none⟩=some (va):=cca 5 _ rfl
          have hfa_5:wr.frozen? ⟨go,(Aa:Int).toNat*8+5,none⟩=false:=cfa 5
          have hxa_6:wr.cell? ⟨go,(Aa:Int).toNat*8+6,none⟩=some (.int .i64 (e.f6)):=cca 6 _ rfl
          have hfa_6:wr.frozen? ⟨go,(Aa:Int).toNat*8+6,none⟩=false:=cfa 6
          have hxa_7:wr.cell? ⟨go,(Aa:Int).toNat*8+7,none⟩=some (.bool (e.f7)):=cca 7 _ rfl
          have hfa_7:wr.frozen? ⟨go,(Aa:Int).toNat*8+7,none⟩=false:=cfa 7
          clear cla cma cca cfa;have p_:=eq_true p;have q_:=eq_true q
          go_wp2_with (first | ((with_reducible refine gate_store (t:=3) (p:=16) rfl ?_);refine store_event (t:=3) (p:=16) (v:=?vo_wb) (w1:=(wr.setCell ⟨go,(Aa:Int).toNat*8,none⟩ (.int .i64 Ab))) ?hg ?ho ?hn ?hr ?_;(case ho=> rfl);(case hg=> rfl);(case hn=> rfl);(case hr=> first | (go_simp;done) | (go_simp;rfl));intro wb hw;have HP0:=laws_markRecordS.put_ (x':=(⟨Ab,e.f1,e.f2,e.f3,e.f4,e.f5,e.f6,e.f7⟩:S61)) (u:=.int .i64 Ab) (j:=0) cha p q (show 0+1≤8 by decide) (k61_mkM _ _ _ (⟨Ab,e.f1,e.f2,e.f3,e.f4,e.f5,e.f6,e.f7⟩:S61) gea) (fun _ h_=> h_);have hg:wr.grownBy wb (some go):=(by rw [hw];exact HP0.2);have HP:Kd.S k61 61 wb w0.heap.size P0_ (.slice (some ⟨go,0,none⟩) Ac.length co7) (Ac.set (Aa:Int).toNat (⟨Ab,e.f1,e.f2,e.f3,e.f4,e.f5,e.f6,e.f7⟩:S61)):=(by rw [hw];exact HP0.1);have n1_:=ak ((by rw [hw];exact below_set (HB.out) GB.out:Below w0.heap.size w0 wb));have n2_:=ak (Kept.of_grown (S:=P0_) hg (hk_q HK) (fun k_ e_=> .inl (by injection e_ with e_;rw [←e_];exact GP.out)));clear HB HK hg hw HP0;have HB:=n1_;have HK:=n2_;clear n1_ n2_;clear hxa_0 hxa_1 hxa_2 hxa_3 hxa_4 hxa_5 hxa_6 hxa_7 hfa_0 hfa_1 hfa_2 hfa_3 hfa_4 hfa_5 hfa_6 hfa_7 gea coa cha;have HSb:=HP;clear HP;obtain ⟨okb,cb,clb,cmb,ccb,cfb,cob,chb⟩:=laws_markRecordS.at_ HSb p q;obtain ⟨vb,rfl,geb⟩:=k61_openM cmb;have hxb_0:wb.cell? ⟨go,(Aa:Int).toNat*8,none⟩=some (.int .i64 (Ab)):=ccb 0 _ rfl;have hfb_0:wb.frozen? ⟨go,(Aa:Int).toNat*8,none⟩=false:=cfb 0;have hxb_1:wb.cell? ⟨go,(Aa:Int).toNat*8+1,none⟩=some (.int .i64 (e.f1)):=ccb 1 _ rfl;have hfb_1:wb.frozen? ⟨go,(Aa:Int).toNat*8+1,none⟩=false:=cfb 1;have hxb_2:wb.cell? ⟨go,(Aa:Int).toNat*8+2,none⟩=some (.int .i64 (e.f2)):=ccb 2 _ rfl;have hfb_2:wb.frozen? ⟨go,(Aa:Int).toNat*8+2,none⟩=false:=cfb 2;have hxb_3:wb.cell? ⟨go,(Aa:Int).toNat*8+3,none⟩=some (.int .i64 (e.f3)):=ccb 3 _ rfl;have hfb_3:wb.frozen? ⟨go,(Aa:Int).toNat*8+3,none⟩=false:=cfb 3;have hxb_4:wb.cell? ⟨go,(Aa:Int).toNat*8+4,none⟩=some (.int .i64 (e.f4)):=ccb 4 _ rfl;have hfb_4:wb.frozen? ⟨go,(Aa:Int).toNat*8+4,none⟩=false:=cfb 4;have hxb_5:wb.cell? ⟨go,(Aa:Int).toNat*8+5,none⟩=some (vb):=ccb 5 _ rfl;have hfb_5:wb.frozen? ⟨go,(Aa:Int).toNat*8+5,none⟩=false:=cfb 5;have hxb_6:wb.cell? ⟨go,(Aa:Int).toNat*8+6,none⟩=some (.int .i64 (e.f6)):=ccb 6 _ rfl;have hfb_6:wb.frozen? ⟨go,(Aa:Int).toNat*8+6,none⟩=false:=cfb 6;have hxb_7:wb.cell? ⟨go,(Aa:Int).toNat*8+7,none⟩=some (.bool (e.f7)):=ccb 7 _ rfl;have hfb_7:wb.frozen? ⟨go,(Aa:Int).toNat*8+7,none⟩=false:=cfb 7;clear clb cmb ccb cfb) | ((with_reducible refine gate_store (t:=3) (p:=23) rfl ?_);refine store_event (t:=3) (p:=23) (v:=?vo_wc) (w1:=(wb.setCell ⟨go,(Aa:Int).toNat*8+1,none⟩ (.int .i64 (wrap64 (Ab+1))))) ?hg ?ho ?hn ?hr ?_;(case ho=> rfl);(case hg=> rfl);(case hn=> rfl);(case hr=> first | (go_simp;done) | (go_simp;rfl));intro wc hw;have HP0:=laws_markRecordS.put_ (x':=(⟨Ab,wrap64 (Ab+1),e.f2,e.f3,e.f4,e.f5,e.f6,e.f7⟩:S61)) (u:=.int .i64 (wrap64 (Ab+1))) (j:=1) chb p q (show 1+1≤8 by decide) (k61_mkM _ _ _ (⟨Ab,wrap64 (Ab+1),e.f2,e.f3,e.f4,e.f5,e.f6,e.f7⟩:S61) geb) (fun _ h_=> h_);have hg:wb.grownBy wc (some go):=(by rw [hw];exact HP0.2);have HP:Kd.S k61 61 wc w0.heap.size P0_ (.slice (some ⟨go,0,none⟩) Ac.length co7) (Ac.set (Aa:Int).toNat (⟨Ab,wrap64 (Ab+1),e.f2,e.f3,e.f4,e.f5,e.f6,e.f7⟩:S61)):=(by rw [hw];exact HP0.1);have n1_:=ak ((by rw [hw];exact below_set (HB.out) GB.out:Below w0.heap.size w0 wc));have n2_:=ak (Kept.of_grown (S:=P0_) hg (hk_q HK) (fun k_ e_=> .inl (by injection e_ with e_;rw [←e_];exact GP.out)));clear HB HK hg hw HP0;have HB:=n1_;have HK:=n2_;clear n1_ n2_;clear hxb_0 hxb_1 hxb_2 hxb_3 hxb_4 hxb_5 hxb_6 hxb_7 hfb_0 hfb_1 hfb_2 hfb_3 hfb_4 hfb_5 hfb_6 hfb_7 geb cob chb;have HSc:=HP;clear HP;obtain ⟨okc,cc,clc,cmc,ccc,cfc,coc,chc⟩:=laws_markRecordS.at_ HSc p q;obtain ⟨vc,rfl,gec⟩:=k61_openM cmc;have hxc_0:wc.cell? ⟨go,(Aa:Int).toNat*8,none⟩=some (.int .i64 (Ab)):=ccc 0 _ rfl;have hfc_0:wc.frozen? ⟨go,(Aa:Int).toNat*8,none⟩=false:=cfc 0;have hxc_1:wc.cell? ⟨go,(Aa:Int).toNat*8+1,none⟩=some (.int .i64 (wrap64 (Ab+1))):=ccc 1 _ rfl;have hfc_1:wc.frozen? ⟨go,(Aa:Int).toNat*8+1,none⟩=false:=cfc 1;have hxc_2:wc.cell? ⟨go,(Aa:Int).toNat*8+2,none⟩=some (.int .i64 (e.f2)):=ccc 2 _ rfl;have hfc_2:wc.frozen? ⟨go,(Aa:Int).toNat*8+2,none⟩=false:=cfc 2;have hxc_3:wc.cell? ⟨go,(Aa:Int).toNat*8+3,none⟩=some (.int .i64 (e.f3)):=ccc 3 _ rfl;have hfc_3:wc.frozen? ⟨go,(Aa:Int).toNat*8+3,none⟩=false:=cfc 3;have hxc_4:wc.cell? ⟨go,(Aa:Int).toNat*8+4,none⟩=some (.int .i64 (e.f4)):=ccc 4 _ rfl;have hfc_4:wc.frozen? ⟨go,(Aa:Int).toNat*8+4,none⟩=false:=cfc 4;have hxc_5:wc.cell? ⟨go,(Aa:Int).toNat*8+5,none⟩=some (vc):=ccc 5 _ rfl;have hfc_5:wc.frozen? ⟨go,(Aa:Int).toNat*8+5,none⟩=false:=cfc 5;have hxc_6:wc.cell? ⟨go,(Aa:Int).toNat*8+6,none⟩=some (.int .i64 (e.f6)):=ccc 6 _ rfl;have hfc_6:wc.frozen? ⟨go,(Aa:Int).toNat*8+6,none⟩=false:=cfc 6;have hxc_7:wc.cell? ⟨go,(Aa:Int).toNat*8+7,none⟩=some (.bool (e.f7)):=ccc 7 _ rfl;have hfc_7:wc.frozen? ⟨go,(Aa:Int).toNat*8+7,none⟩=false:=cfc 7;clear clc cmc ccc cfc) | ((with_reducible refine gate_store (t:=3) (p:=30) rfl ?_);refine store_event (t:=3) (p:=30) (v:=?vo_wd) (w1:=(wc.setCell ⟨go,(Aa:Int).toNat*8+2,none⟩ (.int .i64 (wrap64 ((wrap64 (Ab+1))+1))))) ?hg ?ho ?hn ?hr ?_;(case ho=> rfl);(case hg=> rfl);(case hn=> rfl);(case hr=> first | (go_simp;done) | (go_simp;rfl));intro wd hw;have HP0:=laws_markRecordS.put_ (x':=(⟨Ab,wrap64 (Ab+1),wrap64 ((wrap64 (Ab+1))+1),e.f3,e.f4,e.f5,e.f6,e.f7⟩:S61)) (u:=.int .i64 (wrap64 ((wrap64 (Ab+1))+1))) (j:=2) chc p q (show 2+1≤8 by decide) (k61_mkM _ _ _ (⟨Ab,wrap64 (Ab+1),wrap64 ((wrap64 (Ab+1))+1),e.f3,e.f4,e.f5,e.f6,e.f7⟩:S61) gec) (fun _ h_=> h_);have hg:wc.grownBy wd (some go):=(by rw [hw];exact HP0.2);have HP:Kd.S k61 61 wd w0.heap.size P0_ (.slice (some ⟨go,0,none⟩) Ac.length co7) (Ac.set (Aa:Int).toNat (⟨Ab,wrap64 (Ab+1),wrap64 ((wrap64 (Ab+1))+1),e.f3,e.f4,e.f5,e.f6,e.f7⟩:S61)):=(by rw [hw];exact HP0.1);have n1_:=ak ((by rw [hw];exact below_set (HB.out) GB.out:Below w0.heap.size w0 wd));have n2_:=ak (Kept.of_grown (S:=P0_) hg (hk_q HK) (fun k_ e_=> .inl (by injection e_ with e_;rw [←e_];exact GP.out)));clear HB HK hg hw HP0;have HB:=n1_;have HK:=n2_;clear n1_ n2_;clear hxc_0 hxc_1 hxc_2 hxc_3 hxc_4 hxc_5 hxc_6 hxc_7 hfc_0 hfc_1 hfc_2 hfc_3 hfc_4 hfc_5 hfc_6 hfc_7 gec coc chc;have HSd:=HP;clear HP;obtain ⟨okd,cd,cld,cmd,ccd,cfd,cod,chd⟩:=laws_markRecordS.at_ HSd p q;obtain ⟨vd,rfl,ged⟩:=k61_openM cmd;have hxd_0:wd.cell? ⟨go,(Aa:Int).toNat*8,none⟩=some (.int .i64 (Ab)):=ccd 0 _ rfl;have hfd_0:wd.frozen? ⟨go,(Aa:Int).toNat*8,none⟩=false:=cfd 0;have hxd_1:wd.cell? ⟨go,(Aa:Int).toNat*8+1,none⟩=some (.int .i64 (wrap64 (Ab+1))):=ccd 1 _ rfl;have hfd_1:wd.frozen? ⟨go,(Aa:Int).toNat*8+1,none⟩=false:=cfd 1;have hxd_2:wd.cell? ⟨go,(Aa:Int).toNat*8+2,none⟩=some (.int .i64 (wrap64 ((wrap64 (Ab+1))+1))):=ccd 2 _ rfl;have hfd_2:wd.frozen? ⟨go,(Aa:Int).toNat*8+2,none⟩=false:=cfd 2;have hxd_3:wd.cell? ⟨go,(Aa:Int).toNat*8+3,none⟩=some (.int .i64 (e.f3)):=ccd 3 _ rfl;have hfd_3:wd.frozen? ⟨go,(Aa:Int).toNat*8+3,none⟩=false:=cfd 3;have hxd_4:wd.cell? ⟨go,(Aa:Int).toNat*8+4,none⟩=some (.int .i64 (e.f4)):=ccd 4 _ rfl;have hfd_4:wd.frozen? ⟨go,(Aa:Int).toNat*8+4,none⟩=false:=cfd 4;have hxd_5:wd.cell? ⟨go,(Aa:Int).toNat*8+5,none⟩=some (vd):=ccd 5 _ rfl;have hfd_5:wd.frozen? ⟨go,(Aa:Int).toNat*8+5,none⟩=false:=cfd 5;have hxd_6:wd.cell? ⟨go,(Aa:Int).toNat*8+6,none⟩=some (.int .i64 (e.f6)):=ccd 6 _ rfl;have hfd_6:wd.frozen? ⟨go,(Aa:Int).toNat*8+6,none⟩=false:=cfd 6;have hxd_7:wd.cell? ⟨go,(Aa:Int).toNat*8+7,none⟩=some (.bool (e.f7)):=ccd 7 _ rfl;have hfd_7:wd.frozen? ⟨go,(Aa:Int).toNat*8+7,none⟩=false:=cfd 7;clear cld cmd ccd cfd) | ((with_reducible refine gate_store (t:=3) (p:=37) rfl ?_);refine store_event (t:=3) (p:=37) (v:=?vo_we) (w1:=(wd.setCell ⟨go,(Aa:Int).toNat*8+3,none⟩ (.int .i64 (wrap64 ((wrap64 ((wrap64 (Ab+1))+1))+1))))) ?hg ?ho ?hn ?hr ?_;(case ho=> rfl);(case hg=> rfl);(case hn=> rfl);(case hr=> first | (go_simp;done) | (go_simp;rfl));intro we hw;have HP0:=laws_markRecordS.put_ (x':=(⟨Ab,wrap64 (Ab+1),wrap64 ((wrap64 (Ab+1))+1),wrap64 ((wrap64 ((wrap64 (Ab+1))+1))+1),e.f4,e.f5,e.f6,e.f7⟩:S61)) (u:=.int .i64 (wrap64 ((wrap64 ((wrap64 (Ab+1))+1))+1))) (j:=3) chd p q (show 3+1≤8 by decide) (k61_mkM _ _ _ (⟨Ab,wrap64 (Ab+1),wrap64 ((wrap64 (Ab+1))+1),wrap64 ((wrap64 ((wrap64 (Ab+1))+1))+1),e.f4,e.f5,e.f6,e.f7⟩:S61) ged) (fun _ h_=> h_);have hg:wd.grownBy we (some go):=(by rw [hw];exact HP0.2);have HP:Kd.S k61 61 we w0.heap.size P0_ (.slice (some ⟨go,0,none⟩) Ac.length co7) (Ac.set (Aa:Int).toNat (⟨Ab,wrap64 (Ab+1),wrap64 ((wrap64 (Ab+1))+1),wrap64 ((wrap64 ((wrap64 (Ab+1))+1))+1),e.f4,e.f5,e.f6,e.f7⟩:S61)):=(by rw [hw];exact HP0.1);have n1_:=ak ((by rw [hw];exact below_set (HB.out) GB.out:Below w0.heap.size w0 we));have n2_:=ak (Kept.of_grown (S:=P0_) hg (hk_q HK) (fun k_ e_=> .inl (by injection e_ with e_;rw [←e_];exact GP.out)));clear HB HK hg hw HP0;have HB:=n1_;have HK:=n2_;clear n1_ n2_;clear hxd_0 hxd_1 hxd_2 hxd_3 hxd_4 hxd_5 hxd_6 hxd_7 hfd_0 hfd_1 hfd_2 hfd_3 hfd_4 hfd_5 hfd_6 hfd_7 ged cod chd;have HSe:=HP;clear HP;obtain ⟨oke,ce,cle,cme,cce,cfe,coe,che⟩:=laws_markRecordS.at_ HSe p q;obtain ⟨ve,rfl,gee⟩:=k61_openM cme;have hxe_0:we.cell? ⟨go,(Aa:Int).toNat*8,none⟩=some (.int .i64 (Ab)):=cce 0 _ rfl;have hfe_0:we.frozen? ⟨go,(Aa:Int).toNat*8,none⟩=false:=cfe 0;have hxe_1:we.cell? ⟨go,(Aa:Int).toNat*8+1,none⟩=some (.int .i64 (wrap64 (Ab+1))):=cce 1 _ rfl;have hfe_1:we.frozen? ⟨go,(Aa:Int).toNat*8+1,none⟩=false:=cfe 1;have hxe_2:we.cell? ⟨go,(Aa:Int).toNat*8+2,none⟩=some (.int .i64 (wrap64 ((wrap64 (Ab+1))+1))):=cce 2 _ rfl;have hfe_2:we.frozen? ⟨go,(Aa:Int).toNat*8+2,none⟩=false:=cfe 2;have hxe_3:we.cell? ⟨go,(Aa:Int).toNat*8+3,none⟩=some (.int .i64 (wrap64 ((wrap64 ((wrap64 (Ab+1))+1))+1))):=cce 3 _ rfl;have hfe_3:we.frozen? ⟨go,(Aa:Int).toNat*8+3,none⟩=false:=cfe 3;have hxe_4:we.cell? ⟨go,(Aa:Int).toNat*8+4,none⟩=some (.int .i64 (e.f4)):=cce 4 _ rfl;have hfe_4:we.frozen? ⟨go,(Aa:Int).toNat*8+4,none⟩=false:=cfe 4;have hxe_5:we.cell? ⟨go,(Aa:Int).toNat*8+5,none⟩=some (ve):=cce 5 _ rfl;have hfe_5:we.frozen? ⟨go,(Aa:Int).toNat*8+5,none⟩=false:=cfe 5;have hxe_6:we.cell? ⟨go,(Aa:Int).toNat*8+6,none⟩=some (.int .i64 (e.f6)):=cce 6 _ rfl;have hfe_6:we.frozen? ⟨go,(Aa:Int).toNat*8+6,none⟩=false:=cfe 6;have hxe_7:we.cell? ⟨go,(Aa:Int).toNat*8+7,none⟩=some (.bool (e.f7)):=cce 7 _ rfl;have hfe_7:we.frozen? ⟨go,(Aa:Int).toNat*8+7,none⟩=false:=cfe 7;clear cle cme cce cfe) | ((with_reducible refine gate_store (t:=3) (p:=44) rfl ?_);refine store_event (t:=3) (p:=44) (v:=?vo_wf) (w1:=(we.setCell ⟨go,(Aa:Int).toNat*8+4,none⟩ (.int .i64 (wrap64 ((wrap64 ((wrap64 ((wrap64 (Ab+1))+1))+1))+1))))) ?hg ?ho ?hn ?hr ?_;(case ho=> rfl);(case hg=> rfl);(case hn=> rfl);(case hr=> first | (go_simp;done) | (go_simp;rfl));intro wf hw;have HP0:=laws_markRecordS.put_ (x':=(⟨Ab,wrap64 (Ab+1),wrap64 ((wrap64 (Ab+1))+1),wrap64 ((wrap64 ((wrap64 (Ab+1))+1))+1),wrap64 ((wrap64 ((wrap64 ((wrap64 (Ab+1))+1))+1))+1),e.f5,e.f6,e.f7⟩:S61)) (u:=.int .i64 (wrap64 ((wrap64 ((wrap64 ((wrap64 (Ab+1))+1))+1))+1))) (j:=4) che p q (show 4+1≤8 by decide) (k61_mkM _ _ _ (⟨Ab,wrap64 (Ab+1),wrap64 ((wrap64 (Ab+1))+1),wrap64 ((wrap64 ((wrap64 (Ab+1))+1))+1),wrap64 ((wrap64 ((wrap64 ((wrap64 (Ab+1))+1))+1))+1),e.f5,e.f6,e.f7⟩:S61) gee) (fun _ h_=> h_);have hg:we.grownBy wf (some go):=(by rw [hw];exact HP0.2);have HP:Kd.S k61 61 wf w0.heap.size P0_ (.slice (some ⟨go,0,none⟩) Ac.length co7) (Ac.set (Aa:Int).toNat (⟨Ab,wrap64 (Ab+1),wrap64 ((wrap64 (Ab+1))+1),wrap64 ((wrap64 ((wrap64 (Ab+1))+1))+1),wrap64 ((wrap64 ((wrap64 ((wrap64 (Ab+1))+1))+1))+1),e.f5,e.f6,e.f7⟩:S61)):=(by rw [hw];exact HP0.1);have n1_:=ak ((by rw [hw];exact below_set (HB.out) GB.out:Below w0.heap.size w0 wf));have n2_:=ak (Kept.of_grown (S:=P0_) hg (hk_q HK) (fun k_ e_=> .inl (by injection e_ with e_;rw [←e_];exact GP.out)));clear HB HK hg hw HP0;have HB:=n1_;have HK:=n2_;clear n1_ n2_;clear hxe_0 hxe_1 hxe_2 hxe_3 hxe_4 hxe_5 hxe_6 hxe_7 hfe_0 hfe_1 hfe_2 hfe_3 hfe_4 hfe_5 hfe_6 hfe_7 gee coe che;have HSf:=HP;clear HP;obtain ⟨okf,cf,clf,cmf,ccf,cff,cof,chf⟩:=laws_markRecordS.at_ HSf p q;obtain ⟨vf,rfl,gef⟩:=k61_openM cmf;have hxf_0:wf.cell? ⟨go,(Aa:Int).toNat*8,none⟩=some (.int .i64 (Ab)):=ccf 0 _ rfl;have hff_0:wf.frozen? ⟨go,(Aa:Int).toNat*8,none⟩=false:=cff 0;have hxf_1:wf.cell? ⟨go,(Aa:Int).toNat*8+1,none⟩=some (.int .i64 (wrap64 (Ab+1))):=ccf 1 _ rfl;have hff_1:wf.frozen? ⟨go,(Aa:Int).toNat*8+1,none⟩=false:=cff 1;have hxf_2:wf.cell? ⟨go,(Aa:Int).toNat*8+2,none⟩=some (.int .i64 (wrap64 ((wrap64 (Ab+1))+1))):=ccf 2 _ rfl;have hff_2:wf.frozen? ⟨go,(Aa:Int).toNat*8+2,none⟩=false:=cff 2;have hxf_3:wf.cell? ⟨go,(Aa:Int).toNat*8+3,none⟩=some (.int .i64 (wrap64 ((wrap64 ((wrap64 (Ab+1))+1))+1))):=ccf 3 _ rfl;have hff_3:wf.frozen? ⟨go,(Aa:Int).toNat*8+3,none⟩=false:=cff 3;have hxf_4:wf.cell? ⟨go,(Aa:Int).toNat*8+4,none⟩=some (.int .i64 (wrap64 ((wrap64 ((wrap64 ((wrap64 (Ab+1))+1))+1))+1))):=ccf 4 _ rfl;have hff_4:wf.frozen? ⟨go,(Aa:Int).toNat*8+4,none⟩=false:=cff 4;have hxf_5:wf.cell? ⟨go,(Aa:Int).toNat*8+5,none⟩=some (vf):=ccf 5 _ rfl;have hff_5:wf.frozen? ⟨go,(Aa:Int).toNat*8+5,none⟩=false:=cff 5;have hxf_6:wf.cell? ⟨go,(Aa:Int).toNat*8+6,none⟩=some (.int .i64 (e.f6)):=ccf 6 _ rfl;have hff_6:wf.frozen? ⟨go,(Aa:Int).toNat*8+6,none⟩=false:=cff 6;have hxf_7:wf.cell? ⟨go,(Aa:Int).toNat*8+7,none⟩=some (.bool (e.f7)):=ccf 7 _ rfl;have hff_7:wf.frozen? ⟨go,(Aa:Int).toNat*8+7,none⟩=false:=cff 7;clear clf cmf ccf cff) | ((with_reducible refine gC_ 100 ?_);refine gM_ 53 Try.func100 #[vf,.int .i64 (wrap64 ((wrap64 ((wrap64 ((wrap64 ((wrap64 (Ab+1))+1))+1))+1))+1))] rfl (by (try simp only [List.map_toArray,List.map_cons,List.map_nil]);first | done | rfl | (simp only [List.length_drop,List.length_take];rfl)) ?_;(with_reducible refine (laws_markNearS.calls k1 okf vf e.f5 (wrap64 ((wrap64 ((wrap64 ((wrap64 ((wrap64 (Ab+1))+1))+1))+1))+1)) t y w0 _ ?_ ?_ A.out).mono ?_);exact (bw_q HB);(focus (with_reducible repeat (first | apply Kd.R_alloc | apply Kd.R_drewN | apply Kd.R_drew));exact gef);rintro e_ wg ⟨rfl,hR,hb,hk⟩;refine ⟨_,rfl,?_⟩;have HP:=laws_markRecordS.call_ (x':=(⟨Ab,wrap64 (Ab+1),wrap64 ((wrap64 (Ab+1))+1),wrap64 ((wrap64 ((wrap64 (Ab+1))+1))+1),wrap64 ((wrap64 ((wrap64 ((wrap64 (Ab+1))+1))+1))+1),y,e.f6,e.f7⟩:S61)) chf hk (k61_mkM _ _ _ (⟨Ab,wrap64 (Ab+1),wrap64 ((wrap64 (Ab+1))+1),wrap64 ((wrap64 ((wrap64 (Ab+1))+1))+1),wrap64 ((wrap64 ((wrap64 ((wrap64 (Ab+1))+1))+1))+1),y,e.f6,e.f7⟩:S61) (Kd.R_mono (Kd.R_tight rfl hR) (fun k_ hk_=> gef.1 k_ hk_.symm))) (fun _ h_=> h_);have n1_:=ak hb;have n2_:=ak (Kept.then_ HK.out hk (fun k_ h_=> .inl (cof k_ h_).1));clear HB HK hR hb hk;have HB:=n1_;have HK:=n2_;clear n1_ n2_;clear hxf_0 hxf_1 hxf_2 hxf_3 hxf_4 hxf_5 hxf_6 hxf_7 hff_0 hff_1 hff_2 hff_3 hff_4 hff_5 hff_6 hff_7 gef cof chf;have HSg:=HP;clear HP;obtain ⟨okg,cg,clg,cmg,ccg,cfg,cog,chg⟩:=laws_markRecordS.at_ HSg p q;obtain ⟨vg,rfl,geg⟩:=k61_openM cmg;have hxg_0:wg.cell? ⟨go,(Aa:Int).toNat*8,none⟩=some (.int .i64 (Ab)):=ccg 0 _ rfl;have hfg_0:wg.frozen? ⟨go,(Aa:Int).toNat*8,none⟩=false:=cfg 0;have hxg_1:wg.cell? ⟨go,(Aa:Int).toNat*8+1,none⟩=some (.int .i64 (wrap64 (Ab+1))):=ccg 1 _ rfl;have hfg_1:wg.frozen? ⟨go,(Aa:Int).toNat*8+1,none⟩=false:=cfg 1;have hxg_2:wg.cell? ⟨go,(Aa:Int).toNat*8+2,none⟩=some (.int .i64 (wrap64 ((wrap64 (Ab+1))+1))):=ccg 2 _ rfl;have hfg_2:wg.frozen? ⟨go,(Aa:Int).toNat*8+2,none⟩=false:=cfg 2;have hxg_3:wg.cell? ⟨go,(Aa:Int).toNat*8+3,none⟩=some (.int .i64 (wrap64 ((wrap64 ((wrap64 (Ab+1))+1))+1))):=ccg 3 _ rfl;have hfg_3:wg.frozen? ⟨go,(Aa:Int).toNat*8+3,none⟩=false:=cfg 3;have hxg_4:wg.cell? ⟨go,(Aa:Int).toNat*8+4,none⟩=some (.int .i64 (wrap64 ((wrap64 ((wrap64 ((wrap64 (Ab+1))+1))+1))+1))):=ccg 4 _ rfl;have hfg_4:wg.frozen? ⟨go,(Aa:Int).toNat*8+4,none⟩=false:=cfg 4;have hxg_5:wg.cell? ⟨go,(Aa:Int).toNat*8+5,none⟩=some (vg):=ccg 5 _ rfl;have hfg_5:wg.frozen? ⟨go,(Aa:Int).toNat*8+5,none⟩=false:=cfg 5;have hxg_6:wg.cell? ⟨go,(Aa:Int).toNat*8+6,none⟩=some (.int .i64 (e.f6)):=ccg 6 _ rfl;have hfg_6:wg.frozen? ⟨go,(Aa:Int).toNat*8+6,none⟩=false:=cfg 6;have hxg_7:wg.cell? ⟨go,(Aa:Int).toNat*8+7,none⟩=some (.bool (e.f7)):=ccg 7 _ rfl;have hfg_7:wg.frozen? ⟨go,(Aa:Int).toNat*8+7,none⟩=false:=cfg 7;clear clg cmg ccg cfg) | ((with_reducible refine gate_store (t:=3) (p:=58) rfl ?_);refine store_event (t:=3) (p:=58) (v:=?vo_wh) (w1:=(wg.setCell ⟨go,(Aa:Int).toNat*8+6,none⟩ (.int .i64 t))) ?hg ?ho ?hn ?hr ?_;(case ho=> rfl);(case hg=> rfl);(case hn=> rfl);(case hr=> first | (go_simp;done) | (go_simp;rfl));intro wh hw;have HP0:=laws_markRecordS.put_ (x':=(⟨Ab,wrap64 (Ab+1),wrap64 ((wrap64 (Ab+1))+1),wrap64 ((wrap64 ((wrap64 (Ab+1))+1))+1),wrap64 ((wrap64 ((wrap64 ((wrap64 (Ab+1))+1))+1))+1),y,t,e.f7⟩:S61)) (u:=.int .i64 t) (j:=6) chg p q (show 6+1≤8 by decide) (k61_mkM _ _ _ (⟨Ab,wrap64 (Ab+1),wrap64 ((wrap64 (Ab+1))+1),wrap64 ((wrap64 ((wrap64 (Ab+1))+1))+1),wrap64 ((wrap64 ((wrap64 ((wrap64 (Ab+1))+1))+1))+1),y,t,e.f7⟩:S61) geg) (fun _ h_=> h_);have hg:wg.grownBy wh (some go):=(by rw [hw];exact HP0.2);have HP:Kd.S k61 61 wh w0.heap.size P0_ (.slice (some ⟨go,0,none⟩) Ac.length co7) (Ac.set (Aa:Int).toNat (⟨Ab,wrap64 (Ab+1),wrap64 ((wrap64 (Ab+1))+1),wrap64 ((wrap64 ((wrap64 (Ab+1))+1))+1),wrap64 ((wrap64 ((wrap64 ((wrap64 (Ab+1))+1))+1))+1),y,t,e.f7⟩:S61)):=(by rw [hw];exact HP0.1);have n1_:=ak ((by rw [hw];exact below_set (HB.out) GB.out:Below w0.heap.size w0 wh));have n2_:=ak (Kept.of_grown (S:=P0_) hg (hk_q HK) (fun k_ e_=> .inl (by injection e_ with e_;rw [←e_];exact GP.out)));clear HB HK hg hw HP0;have HB:=n1_;have HK:=n2_;clear n1_ n2_;clear hxg_0 hxg_1 hxg_2 hxg_3 hxg_4 hxg_5 hxg_6 hxg_7 hfg_0 hfg_1 hfg_2 hfg_3 hfg_4 hfg_5 hfg_6 hfg_7 geg cog chg;have HSh:=HP;clear HP;obtain ⟨okh,ch,clh,cmh,cch,cfh,coh,chh⟩:=laws_markRecordS.at_ HSh p q;obtain ⟨vh,rfl,geh⟩:=k61_openM cmh;have hxh_0:wh.cell? ⟨go,(Aa:Int).toNat*8,none⟩=some (.int .i64 (Ab)):=cch 0 _ rfl;have hfh_0:wh.frozen? ⟨go,(Aa:Int).toNat*8,none⟩=false:=cfh 0;have hxh_1:wh.cell? ⟨go,(Aa:Int).toNat*8+1,none⟩=some (.int .i64 (wrap64 (Ab+1))):=cch 1 _ rfl;have hfh_1:wh.frozen? ⟨go,(Aa:Int).toNat*8+1,none⟩=false:=cfh 1;have hxh_2:wh.cell? ⟨go,(Aa:Int).toNat*8+2,none⟩=some (.int .i64 (wrap64 ((wrap64 (Ab+1))+1))):=cch 2 _ rfl;have hfh_2:wh.frozen? ⟨go,(Aa:Int).toNat*8+2,none⟩=false:=cfh 2;have hxh_3:wh.cell? ⟨go,(Aa:Int).toNat*8+3,none⟩=some (.int .i64 (wrap64 ((wrap64 ((wrap64 (Ab+1))+1))+1))):=cch 3 _ rfl;have hfh_3:wh.frozen? ⟨go,(Aa:Int).toNat*8+3,none⟩=false:=cfh 3;have hxh_4:wh.cell? ⟨go,(Aa:Int).toNat*8+4,none⟩=some (.int .i64 (wrap64 ((wrap64 ((wrap64 ((wrap64 (Ab+1))+1))+1))+1))):=cch 4 _ rfl;have hfh_4:wh.frozen? ⟨go,(Aa:Int).toNat*8+4,none⟩=false:=cfh 4;have hxh_5:wh.cell? ⟨go,(Aa:Int).toNat*8+5,none⟩=some (vh):=cch 5 _ rfl;have hfh_5:wh.frozen? ⟨go,(Aa:Int).toNat*8+5,none⟩=false:=cfh 5;have hxh_6:wh.cell? ⟨go,(Aa:Int).toNat*8+6,none⟩=some (.int .i64 (t)):=cch 6 _ rfl;have hfh_6:wh.frozen? ⟨go,(Aa:Int).toNat*8+6,none⟩=false:=cfh 6;have hxh_7:wh.cell? ⟨go,(Aa:Int).toNat*8+7,none⟩=some (.bool (e.f7)):=cch 7 _ rfl;have hfh_7:wh.frozen? ⟨go,(Aa:Int).toNat*8+7,none⟩=false:=cfh 7;clear clh cmh cch cfh) | ((with_reducible refine gate_store (t:=4) (p:=67) rfl ?_);refine store_event (t:=4) (p:=67) (v:=?vo_wi) (w1:=(wh.setCell ⟨go,(Aa:Int).toNat*8+7,none⟩ (.bool ((Int.tmod (wrap64 (t+1)) 3)==0)))) ?hg ?ho ?hn ?hr ?_;(case ho=> rfl);(case hg=> rfl);(case hn=> rfl);(case hr=> first | (go_simp;done) | (go_simp;rfl));intro wi hw;have HP0:=laws_markRecordS.put_ (x':=(⟨Ab,wrap64 (Ab+1),wrap64 ((wrap64 (Ab+1))+1),wrap64 ((wrap64 ((wrap64 (Ab+1))+1))+1),wrap64 ((wrap64 ((wrap64 ((wrap64 (Ab+1))+1))+1))+1),y,t,(Int.tmod (wrap64 (t+1)) 3)==0⟩:S61)) (u:=.bool ((Int.tmod (wrap64 (t+1)) 3)==0)) (j:=7) chh p q (show 7+1≤8 by decide) (k61_mkM _ _ _ (⟨Ab,wrap64 (Ab+1),wrap64 ((wrap64 (Ab+1))+1),wrap64 ((wrap64 ((wrap64 (Ab+1))+1))+1),wrap64 ((wrap64 ((wrap64 ((wrap64 (Ab+1))+1))+1))+1),y,t,(Int.tmod (wrap64 (t+1)) 3)==0⟩:S61) geh) (fun _ h_=> h_);have hg:wh.grownBy wi (some go):=(by rw [hw];exact HP0.2);have HP:Kd.S k61 61 wi w0.heap.size P0_ (.slice (some ⟨go,0,none⟩) Ac.length co7) (Ac.set (Aa:Int).toNat (⟨Ab,wrap64 (Ab+1),wrap64 ((wrap64 (Ab+1))+1),wrap64 ((wrap64 ((wrap64 (Ab+1))+1))+1),wrap64 ((wrap64 ((wrap64 ((wrap64 (Ab+1))+1))+1))+1),y,t,(Int.tmod (wrap64 (t+1)) 3)==0⟩:S61)):=(by rw [hw];exact HP0.1);have n1_:=ak ((by rw [hw];exact below_set (HB.out) GB.out:Below w0.heap.size w0 wi));have n2_:=ak (Kept.of_grown (S:=P0_) hg (hk_q HK) (fun k_ e_=> .inl (by injection e_ with e_;rw [←e_];exact GP.out)));clear HB HK hg hw HP0;have HB:=n1_;have HK:=n2_;clear n1_ n2_;clear hxh_0 hxh_1 hxh_2 hxh_3 hxh_4 hxh_5 hxh_6 hxh_7 hfh_0 hfh_1 hfh_2 hfh_3 hfh_4 hfh_5 hfh_6 hfh_7 geh coh chh;have HSi:=HP;clear HP))
          go_roundg k1
          case measure=> have:=Ad.out;omega
          case rel=> exact ⟨_,(wrap64 ((wrap64 (t+1))+1)),(wrap64 (Aa+1)),rs_q,rs_q,H',⟨by have:=Ad.out;omega⟩,⟨by (with_reducible repeat (first | apply Kd.S_alloc | apply Kd.S_drewN | apply Kd.S_drew));exact HSi⟩,⟨hk_q HK⟩,⟨(bw_q HB)⟩⟩
        · rw [if_neg c4] at H
          exact absurd H (by simp)
      · rw [if_neg c3] at H
        have Ae:=decide_eq_false c3;clear c3
        simp only [Option.some.injEq,Prod.mk.injEq] at H
        obtain ⟨rfl,rfl⟩:=H;obtain ⟨Ao12,co12,eo12⟩:=Kd.S_slice HO.out;subst eo12
        go_wp2
        go_ret
        exact ⟨by first | rfl | (simp [errW_none,errW_some] <;> rfl) | (simp [*,errW_none,errW_some] <;> rfl),kS_q HO,(bw_q HB),hk_q HK⟩
def laws_markSelf.f (k:Nat) (g:Int) (h:Int) (a:Int) (b:List (S93)) (c:List (S102)) (d:List Int) (e:List (S61)) (a1:Int):Option (Int×(List (S93))×(List (S102))×(List Int)×(List (S61))):=(laws_markNet.f k a b c a1).bind fun b1=> ((laws_markIntS.f k d b1.1).bind fun b2=> ((laws_markRecordS.f k e b2.1).bind fun b3=> (some (b3.1,b1.2.1,b1.2.2,b2.2,b3.2))))
theorem laws_markSelf.mono:∀a0 a1 a2 a3 a4 a5 a6 a7 k,LeO (laws_markSelf.f k a0 a1 a2 a3 a4 a5 a6 a7) (laws_markSelf.f (k+1) a0 a1 a2 a3 a4 a5 a6 a7):=by
  intro a0 a1 a2 a3 a4 a5 a6 a7 k
  unfold laws_markSelf.f
  refine LeO.bind (laws_markNet.mono _ _ _ _ _) (fun _=> ?_)
  refine LeO.bind (laws_markIntS.mono _ _ _) (fun _=> ?_)
  exact LeO.bind (laws_markRecordS.mono _ _ _) (fun _=> LeO.refl _)
set_option maxHeartbeats 8000000 in
set_option maxRecDepth 100000 in
theorem laws_markSelf.calls (k:Nat) (Ak:Int) (Al:Int) (Ai:Int) (P0_:Nat→Prop) (u3_ u4_ u5_ u6_:Value) (Ae:List (S93)) (Af:List (S102)) (Ad:List Int) (Ag:List (S61)) (a1:Int) (r1:Int) (r2:List (S93)) (r3:List (S102)) (r4:List Int) (r5:List (S61)) (w0 w:World) (hB:Below w0.heap.size w0 w) (ho3:Kd.R k93 93 w w0.heap.size P0_ u3_ Ae) (ho4:Kd.R k102 102 w w0.heap.size P0_ u4_ Af) (ho5:Kd.R (Kd.int .i64) 3 w w0.heap.size P0_ u5_ Ad) (ho6:Kd.S k61 61 w w0.heap.size P0_ u6_ Ag) (h:laws_markSelf.f k Ak Al Ai Ae Af Ad Ag a1=some (r1,r2,r3,r4,r5)):
  Calls Try.prog 30 #[.agg #[.int .i64 Ak,.int .i64 Al,.int .i64 Ai,u3_,u4_,u5_,u6_],.int .i64 a1] w fun e w'=> e=.returned (.int .i64 r1)∧Kd.R k93 93 w' w0.heap.size (fun k_=> (P0_ k_∨w.heap.size≤k_)) u3_ r2∧Kd.R k102 102 w' w0.heap.size (fun k_=> (P0_ k_∨w.heap.size≤k_)) u4_ r3∧Kd.R (Kd.int .i64) 3 w' w0.heap.size (fun k_=> (P0_ k_∨w.heap.size≤k_)) u5_ r4∧Kd.S k61 61 w' w0.heap.size P0_ u6_ r5∧Below w0.heap.size w0 w'∧Kept w w' P0_:=by
  have hu:=Try.underlying43;have hu31:=Try.underlying31
  have Ab:=ak (show Kd.R k93 93 w w0.heap.size (fun k_=> (P0_ k_∨w.heap.size≤k_)) u3_ Ae from Kd.R_mono ho3 (fun k_ hk=> (.inl hk)))
  have Ac:=ak (show Kd.R k102 102 w w0.heap.size (fun k_=> (P0_ k_∨w.heap.size≤k_)) u4_ Af from Kd.R_mono ho4 (fun k_ hk=> (.inl hk)))
  have Aa:=ak (show Kd.R (Kd.int .i64) 3 w w0.heap.size (fun k_=> (P0_ k_∨w.heap.size≤k_)) u5_ Ad from Kd.R_mono ho5 (fun k_ hk=> (.inl hk)))
  have Ah:=ak ho6;have HK:=ak (Kept.refl w P0_);have HB:=ak hB;clear hB ho3 ho4 ho5 ho6;have H:=h
  clear h;unfold laws_markSelf.f at H;replace H:=bsi H;obtain ⟨⟨t1,t2,t3⟩,A10,H⟩:=H
  dsimp only at H
  have A1:=ak A10;clear A10;replace H:=bsi H;obtain ⟨⟨t4,t5⟩,A20,H⟩:=H
  dsimp only at H
  have A2:=ak A20;clear A20;replace H:=bsi H;obtain ⟨⟨t6,t7⟩,A30,H⟩:=H
  dsimp only at H
  have A3:=ak A30;clear A30
  simp only [Option.some.injEq,Prod.mk.injEq] at H
  obtain ⟨rfl,rfl,rfl,rfl,rfl⟩:=H;obtain ⟨Ao3,co3,eo3⟩:=Kd.R_slice Ab.out;subst eo3;obtain ⟨Ao4,co4,eo4⟩:=Kd.R_slice Ac.out;subst eo4;obtain ⟨Ao5,co5,eo5⟩:=Kd.R_slice Aa.out;subst eo5;obtain ⟨Ao6,co6,eo6⟩:=Kd.S_slice Ah.out;subst eo6
  go_enter Try.func30,Try.ntmps30
  go_wp2_with (first | ((with_reducible refine gate_dst (N:=2) rfl ?_);refine box_q 2 #[.int .i64 Ak,.int .i64 Al,.int .i64 Ai,.slice Ao3 Ae.length co3,.slice Ao4 Af.length co4,.slice Ao5 Ad.length co5,.slice Ao6 Ag.length co6] 43 ?_;intro gb hg w5 hbox hb;replace Ab:=rb_ Ab hb;replace Ac:=rb_ Ac hb;replace Aa:=rb_ Aa hb;replace Ah:=sb_ Ah hb;have BK:=ak hbox;replace HK:=ak (Kept.below (S:=P0_) (hk_q HK) hb);replace HB:=hB_ HB hb;clear hb hbox hg;have hcz_2:w5.cell? ⟨gb,2,none⟩=some (.int .i64 Ai):=(blk_cell BK.out 2).trans rfl;have hcz_3:w5.cell? ⟨gb,3,none⟩=some (.slice Ao3 Ae.length co3):=(blk_cell BK.out 3).trans rfl;have hcz_4:w5.cell? ⟨gb,4,none⟩=some (.slice Ao4 Af.length co4):=(blk_cell BK.out 4).trans rfl;have hcz_5:w5.cell? ⟨gb,5,none⟩=some (.slice Ao5 Ad.length co5):=(blk_cell BK.out 5).trans rfl;have hcz_6:w5.cell? ⟨gb,6,none⟩=some (.slice Ao6 Ag.length co6):=(blk_cell BK.out 6).trans rfl;have hfz_2:=blk_frozen BK.out 2;have hfz_3:=blk_frozen BK.out 3;have hfz_4:=blk_frozen BK.out 4;have hfz_5:=blk_frozen BK.out 5;have hfz_6:=blk_frozen BK.out 6) | ((with_reducible refine gC_ 98 ?_);refine gL_ 8 Try.func98 #[.agg #[.int .i64 Ai,.slice Ao3 Ae.length co3,.slice Ao4 Af.length co4],.int .i64 a1] ?_;(with_reducible refine (laws_markNet.calls k Ai (fun k_=> some k_=(.slice Ao3 Ae.length co3:Value).ownBlock) (.slice Ao3 Ae.length co3) Ae (fun k_=> some k_=(.slice Ao4 Af.length co4:Value).ownBlock) (.slice Ao4 Af.length co4) Af a1 t1 t2 t3 w0 _ ?_ ?_ ?_ A1.out).mono ?_);exact bw_q HB;exact Kd.R_tight rfl Ab.out;exact Kd.R_tight rfl Ac.out;rintro e w7 ⟨rfl,Aj,Am,hb,hkp⟩;refine ⟨_,rfl,?_⟩;replace Aa:=ak (Kd.R_mono (Kd.R_kept (Kd.R_apart' (Kd.R_apart' Aa.out (Kd.R_typed Ab.out) (by decide)) (Kd.R_typed Ac.out) (by decide)) hkp (fun k_ h1_ h2_=> h2_.elim (fun e_=> h1_.1.2 e_) (fun e_=> h1_.2 e_))) (fun k_ h1_=> h1_.1.1));replace Ah:=ak (Kd.S_mono (Kd.S_kept (Kd.S_apart' (Kd.S_apart' Ah.out (Kd.R_typed Ab.out) (by decide)) (Kd.R_typed Ac.out) (by decide)) hkp (fun k_ h1_ h2_=> h2_.elim (fun e_=> h1_.1.2 e_) (fun e_=> h1_.2 e_))) (fun k_ h1_=> h1_.1.1));replace BK:=ak (blk_kept BK.out hkp (fun hs_=> hs_.elim (fun e_=> (Kd.R_ne Ab.out BK.out (by decide)) e_) (fun e_=> (Kd.R_ne Ac.out BK.out (by decide)) e_)));replace HK:=ak (Kept.then_ (S:=P0_) HK.out hkp (fun k_ hs_=> hs_.elim (fun e_=> Ab.out.1 k_ e_.symm) (fun e_=> Ac.out.1 k_ e_.symm)));replace Ab:=ak (Kd.R_reok rfl Aj (fun k_ e_=> Ab.out.1 k_ e_));replace Ac:=ak (Kd.R_reok rfl Am (fun k_ e_=> Ac.out.1 k_ e_));replace HB:=ak hb;clear hb hkp Aj Am;have hcy_5:w7.cell? ⟨gb,5,none⟩=some (.slice Ao5 Ad.length co5):=(blk_cell BK.out 5).trans rfl;have hfy_5:=blk_frozen BK.out 5;have hcy_6:w7.cell? ⟨gb,6,none⟩=some (.slice Ao6 Ag.length co6):=(blk_cell BK.out 6).trans rfl;have hfy_6:=blk_frozen BK.out 6) | ((with_reducible refine gC_ 99 ?_);refine gL_ 12 Try.func99 #[.slice Ao5 Ad.length co5,.int .i64 t1] ?_;(with_reducible refine (laws_markIntS.calls k (fun k_=> some k_=(.slice Ao5 Ad.length co5:Value).ownBlock) (.slice Ao5 Ad.length co5) Ad t1 t4 t5 w0 _ ?_ ?_ A2.out).mono ?_);exact bw_q HB;exact Kd.R_tight rfl Aa.out;rintro e w8 ⟨rfl,Aj,hb,hkp⟩;refine ⟨_,rfl,?_⟩;replace Ab:=ak (Kd.R_mono (Kd.R_kept (Kd.R_apart' Ab.out (Kd.R_typed Aa.out) (by decide)) hkp (fun k_ h1_ h2_=> h1_.2 h2_)) (fun k_ h1_=> h1_.1));replace Ac:=ak (Kd.R_mono (Kd.R_kept (Kd.R_apart' Ac.out (Kd.R_typed Aa.out) (by decide)) hkp (fun k_ h1_ h2_=> h1_.2 h2_)) (fun k_ h1_=> h1_.1));replace Ah:=ak (Kd.S_mono (Kd.S_kept (Kd.S_apart' Ah.out (Kd.R_typed Aa.out) (by decide)) hkp (fun k_ h1_ h2_=> h1_.2 h2_)) (fun k_ h1_=> h1_.1));replace BK:=ak (blk_kept BK.out hkp (fun hs_=> (Kd.R_ne Aa.out BK.out (by decide)) hs_));replace HK:=ak (Kept.then_ (S:=P0_) HK.out hkp (fun k_ hs_=> Aa.out.1 k_ hs_.symm));replace Aa:=ak (Kd.R_reok rfl Aj (fun k_ e_=> Aa.out.1 k_ e_));replace HB:=ak hb;clear hb hkp Aj;have hcx_6:w8.cell? ⟨gb,6,none⟩=some (.slice Ao6 Ag.length co6):=(blk_cell BK.out 6).trans rfl;have hfx_6:=blk_frozen BK.out 6) | ((with_reducible refine gC_ 31 ?_);refine gL_ 16 Try.func31 #[.slice Ao6 Ag.length co6,.int .i64 t4] ?_;(with_reducible refine (laws_markRecordS.calls k (fun k_=> ((P0_ k_∧some k_≠(.slice Ao3 Ae.length co3:Value).ownBlock)∧some k_≠(.slice Ao4 Af.length co4:Value).ownBlock)∧some k_≠(.slice Ao5 Ad.length co5:Value).ownBlock) (.slice Ao6 Ag.length co6) Ag t4 t6 t7 w0 _ ?_ ?_ A3.out).mono ?_);exact bw_q HB;exact (Kd.S_apart' (Kd.S_apart' (Kd.S_apart' Ah.out (Kd.R_typed Ab.out) (by decide)) (Kd.R_typed Ac.out) (by decide)) (Kd.R_typed Aa.out) (by decide));rintro e w9 ⟨rfl,Aj,hb,hkp⟩;refine ⟨_,rfl,?_⟩;replace HK:=ak (Kept.then_ (S:=P0_) HK.out hkp (fun k_ hs_=> .inl hs_.1.1.1));replace Ah:=ak (Kd.S_mono Aj (fun k_ h1_=> h1_.1.1.1));replace Ab:=ak (Kd.R_mono (Kd.R_kept (Kd.R_tight2 rfl Ab.out) hkp (fun k_ h1_ h2_=> h2_.1.1.2 h1_.1)) (fun k_ h1_=> h1_.2));replace Ac:=ak (Kd.R_mono (Kd.R_kept (Kd.R_tight2 rfl Ac.out) hkp (fun k_ h1_ h2_=> h2_.1.2 h1_.1)) (fun k_ h1_=> h1_.2));replace Aa:=ak (Kd.R_mono (Kd.R_kept (Kd.R_tight2 rfl Aa.out) hkp (fun k_ h1_ h2_=> h2_.2 h1_.1)) (fun k_ h1_=> h1_.2));replace HB:=ak hb;clear hb hkp Aj))
  go_ret
  exact ⟨er_q,kR_q Ab,kR_q Ac,kR_q Aa,(kS_q Ah),bw_q HB,hk_q HK⟩

/-! ### laws_heldNearS: function 103 -/
def laws_heldNearS.l0:Nat→List (S127)→Int→Int→Option (Int)
 | 0,_,_,_=> none
 | k+1,b,c,a=> if a<(b.length:Int) then (if 0≤a then (if ((rd_T127 b a).f0)=c then (if ((rd_T127 b a).f1)=(wrap64 (c+1)) then (laws_heldNearS.l0 k b (wrap64 ((wrap64 (c+1))+1)) (wrap64 (a+1))) else (some (-1))) else (some (-1))) else (none)) else (some c)
def laws_heldNearS.f (k:Nat) (l0:List (S127)) (a1:Int):Option (Int):=laws_heldNearS.l0 k l0 a1 0
theorem laws_heldNearS.mono_l:∀k,(∀y0 y1 y2,LeO (laws_heldNearS.l0 k y0 y1 y2) (laws_heldNearS.l0 (k+1) y0 y1 y2))
 | 0=> fun _ _ _ r h=> by simp [laws_heldNearS.l0] at h
 | k+1=> by
  have ih0:=laws_heldNearS.mono_l k
  ·intro y0 y1 y2
   unfold laws_heldNearS.l0
   with_reducible repeat' (first | apply ih0 | exact LeO.refl _ | exact LeO.none _ | refine LeO.ite ?_ ?_ | refine LeO.bind ?_ (fun _=> ?_))
theorem laws_heldNearS.mono:∀a0 a1 k,LeO (laws_heldNearS.f k a0 a1) (laws_heldNearS.f (k+1) a0 a1):=by
 intro a0 a1 k
 have ih0:=laws_heldNearS.mono_l k
 unfold laws_heldNearS.f
 with_reducible repeat' (first | apply ih0 | exact LeO.refl _ | exact LeO.none _ | refine LeO.ite ?_ ?_ | refine LeO.bind ?_ (fun _=> ?_))
set_option maxHeartbeats 8000000 in
set_option maxRecDepth 100000 in
theorem laws_heldNearS.calls (k:Nat) (A0:Option Addr) (c0:Nat) (l0:List (S127)) (a1:Int) (r:Int) (w:World) (hr0:Kd.C k127 w A0 l0.length l0) (hc0:l0.length≤c0) (h:laws_heldNearS.f k l0 a1=some r):
  Calls Try.prog 103 #[.slice A0 l0.length c0,.int .i64 a1] w fun e w'=> e=.returned (.int .i64 r)∧Drawn0 w w':=by
 have HR0:=ak hr0;have Ar:=ak hc0;clear hr0 hc0;have H:=h
 clear h;unfold laws_heldNearS.f at H;have H':=ak H;clear H
 go_enter Try.func103,Try.ntmps103
 go_wp2
 go_loopg [1,5] k (fun kq v1 v5 w'=> ∃(Ab:Int) (Aa:Int),v1=.int .i64 Ab∧v5=.int .i64 Aa∧Aside0 (laws_heldNearS.l0 kq l0 Ab Aa=some r)∧Aside0 (kq≤k)∧Drawn0 w w')
 case atStart=> exact ⟨(a1),(0),rs_q,rs_q,H',⟨Nat.le_refl _⟩,by repeat (first | exact Drawn0.refl _ | apply Drawn0.step)⟩
 case round=>
  clear H';(try clear c1);(try clear p2);obtain ⟨Ab,Aa,rfl,rfl,HA,Am,⟨m1,rfl⟩⟩:=hrel
  cases gk with
  | zero=> exact absurd HA.out (by simp [laws_heldNearS.l0])
  | succ k1=>
   have H:=HA.out;clear HA
   simp only [laws_heldNearS.l0] at H
   by_cases c3:Aa<(l0.length:Int)
   ·rw [if_pos c3] at H;have Ap:=decide_eq_true c3;clear c3
    by_cases c4:0≤Aa
    ·rw [if_pos c4] at H;have Aq:=decide_eq_true c4
     clear c4;have An:=ak H;clear H
     have p756:0≤(Aa:Int):=of_decide_eq_true as_q
     have q756:Aa<(l0.length:Int):=of_decide_eq_true as_q
     obtain ⟨Ak,e756,Ag,Ah⟩:=at_T127 HR0.out Aa p756 q756
     cases e756
     replace p756:=eq_true p756;replace q756:=eq_true q756
     go_upto_if 18 with (fail)
     (try clear Ag);(try clear Ah);have H:=An.out;clear An
     by_cases c6:((rd_T127 l0 Aa).f0)=Ab
     ·rw [if_pos c6] at H;have Ac:=bqi c6;have Ad:=bnf c6;clear c6
      (first | rw [Ac] | rw [Ad] | (simp only [i64_w,i32_w];first | rw [Ac] | rw [Ad]) | skip)
      have Ao:=ak H;clear H
      have p757:0≤(Aa:Int):=of_decide_eq_true as_q
      have q757:Aa<(l0.length:Int):=of_decide_eq_true as_q
      obtain ⟨Al,e757,Ai,Aj⟩:=at_T127 HR0.out Aa p757 q757
      obtain rfl:Ak=Al:=(by injection e757)
      replace p757:=eq_true p757;replace q757:=eq_true q757
      go_upto_if 27 with (fail)
      (try clear Ai);(try clear Aj);have H:=Ao.out;clear Ao
      by_cases c8:((rd_T127 l0 Aa).f1)=(wrap64 (Ab+1))
      ·rw [if_pos c8] at H;have Ae:=bqi c8;have Af:=bnf c8;clear c8
       (first | rw [Ae] | rw [Af] | (simp only [i64_w,i32_w];first | rw [Ae] | rw [Af]) | skip)
       have H':=ak H;clear H
       go_wp2
       go_roundg k1
       case measure=> have:=Am.out;omega
       case rel=> exact ⟨(wrap64 ((wrap64 (Ab+1))+1)),(wrap64 (Aa+1)),rs_q,rs_q,H',⟨by have:=Am.out;omega⟩,by repeat (first | exact Drawn0.refl _ | apply Drawn0.step)⟩
      ·rw [if_neg c8] at H;have Ae:=bqf c8;have Af:=bni c8
       (first | rw [Ae] | rw [Af] | (simp only [i64_w,i32_w];first | rw [Ae] | rw [Af]) | skip)
       obtain rfl:=Option.some.inj H
       go_wp2
       go_ret
       exact ⟨rs_q,dr_q⟩
     ·rw [if_neg c6] at H;have Ac:=bqf c6;have Ad:=bni c6
      (first | rw [Ac] | rw [Ad] | (simp only [i64_w,i32_w];first | rw [Ac] | rw [Ad]) | skip)
      obtain rfl:=Option.some.inj H
      go_wp2
      go_ret
      exact ⟨rs_q,dr_q⟩
    ·rw [if_neg c4] at H
     exact absurd H (by simp)
   ·rw [if_neg c3] at H;have Ap:=decide_eq_false c3
    clear c3;obtain rfl:=Option.some.inj H
    go_wp2
    go_ret
    exact ⟨rs_q,dr_q⟩

end Go.Proofs.Ythjmdiggglkeaaa.Q
