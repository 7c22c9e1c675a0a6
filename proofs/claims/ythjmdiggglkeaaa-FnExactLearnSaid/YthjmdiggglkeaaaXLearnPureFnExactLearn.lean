import Derived.Test.YthjmdiggglkeaaaXLearnQlawsFnExactLearn
/- Proved: the pure statement of the law FnExactLearn, for every input that its statement lets in. -/

set_option linter.unusedVariables false
set_option linter.unusedSimpArgs false
namespace Go.Proofs.Ythjmdiggglkeaaa.Pure
open Go.RowKit Go.Proofs.Ythjmdiggglkeaaa.Q Go.Proofs.YthjmdiggglkeaaaW.PrintWords Go.Proofs.YthjmdiggglkeaaaW.PrintLast

theorem w64 {x:Int} (h0: -9223372036854775808≤x) (h1:x≤9223372036854775807):wrap64 x=x:=by unfold wrap64;omega
theorem ev_ex {α:Type} {g:Nat→Option α} {r:α} (h:Ev g r):∃k,g k=some r:=h.rounds

theorem ev_ite {α:Type} {c:Prop} [Decidable c] {g f:Nat→Option α} {r:α} (h:c→Ev g r) (k:¬c→Ev f r):Ev (fun n=> if c then g n else f n) r:=by
 by_cases hc:c
 ·exact Ev.congr (fun n=> by rw [if_pos hc]) (h hc)
 ·exact Ev.congr (fun n=> by rw [if_neg hc]) (k hc)
theorem ev_pos {α:Type} {c:Prop} [Decidable c] {g f:Nat→Option α} {r:α} (hc:c) (h:Ev g r):Ev (fun n=> if c then g n else f n) r:=Ev.congr (fun n=> by rw [if_pos hc]) h
theorem ev_neg {α:Type} {c:Prop} [Decidable c] {g f:Nat→Option α} {r:α} (hc:¬c) (h:Ev f r):Ev (fun n=> if c then g n else f n) r:=Ev.congr (fun n=> by rw [if_neg hc]) h
theorem ev_some {α:Type} {x r:α} (h:x=r):Ev (fun _=> some x) r:=by rw [h];exact Ev.now _
theorem ev_eq {α:Type} {x:Option α} {r:α} (h:x=some r):Ev (fun _=> x) r:=by rw [h];exact Ev.now _
theorem ev_succ {α:Type} {g:Nat→Option α} {r:α} (h:Ev (fun k=> g (k+1)) r):Ev g r:=Ev.step (fun _=> rfl) h
theorem ev_to {α:Type} {g:Nat→Option α} {r r':α} (h:Ev g r) (e:r=r'):Ev g r':=e▸h

theorem set_mid {α:Type} (p:List α) (x y:α) (r:List α) (i:Nat) (h:p.length=i):(p++x::r).set i y=p++y::r:=by
 subst h
 simp
theorem drop_at {α:Type} (l:List α) (z:α) (i:Nat) (h:i<l.length):l.drop i=l.getD i z::l.drop (i+1):=by
 rw [List.drop_eq_getElem_cons h,List.getD_eq_getElem?_getD,List.getElem?_eq_getElem h]
 rfl
-- toLink
/-! Link: lists -/
def toLink1 (x:S134):S93:=⟨x.f0,x.f1,x.f2,x.f3⟩
def toLinkL (l:List S134):List S93:=l.map toLink1
theorem toLinkL_len (l:List S134):(toLinkL l).length=l.length:=by simp [toLinkL]
theorem laws_toLinkS_l0_ev (l:List S134) (hl:l.length≤9223372036854775807) (d:Nat):∀i:Nat,i+d=l.length→
  Ev (fun k=> laws_toLinkS.l0 k l ((toLinkL l).take i++List.replicate d z93) i) (toLinkL l):=by
 induction d with
 | zero=>
  intro i hi
  apply ev_succ
  simp only [laws_toLinkS.l0]
  refine ev_neg (by omega) (ev_some ?_)
  rw [List.take_of_length_le (by rw [toLinkL_len];omega)]
  simp
 | succ d ih=>
  intro i hi
  have hr:=ih (i+1) (by omega)
  have hlt:i<(toLinkL l).length:=by rw [toLinkL_len];omega
  apply ev_succ
  simp only [laws_toLinkS.l0,laws_toLink.f,Option.bind_some]
  have hset:((toLinkL l).take i++List.replicate (d+1) z93).set ((i:Int).toNat) (⟨(rd_T134 l i).f0,(rd_T134 l i).f1,(rd_T134 l i).f2,(rd_T134 l i).f3⟩:S93)=(toLinkL l).take (i+1)++List.replicate d z93:=by
   rw [List.replicate_succ,set_mid _ _ _ _ _ (by rw [List.length_take];omega),List.take_succ_eq_append_getElem hlt]
   rw [List.append_assoc]
   congr 1
   simp only [List.singleton_append]
   congr 1
   have hli:i<l.length:=by omega
   simp [toLinkL,toLink1,rd_T134,List.getD_eq_getElem?_getD,hli]
  rw [hset,w64 (by omega) (by omega)]
  refine ev_pos (by omega) (ev_pos (by omega) (ev_pos ?_ hr))
  simp only [List.length_append,List.length_take,List.length_replicate,toLinkL_len]
  omega
theorem laws_toLinkS_ev (l:List S134) (hl:l.length≤1048576):Ev (fun k=> laws_toLinkS.f k l) (toLinkL l):=by
 unfold laws_toLinkS.f
 refine ev_pos (by omega) (ev_pos (by omega) ?_)
 exact laws_toLinkS_l0_ev l (by omega) l.length 0 (by omega)

-- toThing
/-! Thing: lists -/
def toThing1 (x:S136):S102:=⟨x.f0,x.f1,x.f2,x.f3⟩
def toThingL (l:List S136):List S102:=l.map toThing1
theorem toThingL_len (l:List S136):(toThingL l).length=l.length:=by simp [toThingL]
theorem laws_toThingS_l0_ev (l:List S136) (hl:l.length≤9223372036854775807) (d:Nat):∀i:Nat,i+d=l.length→
  Ev (fun k=> laws_toThingS.l0 k l ((toThingL l).take i++List.replicate d z102) i) (toThingL l):=by
 induction d with
 | zero=>
  intro i hi
  apply ev_succ
  simp only [laws_toThingS.l0]
  refine ev_neg (by omega) (ev_some ?_)
  rw [List.take_of_length_le (by rw [toThingL_len];omega)]
  simp
 | succ d ih=>
  intro i hi
  have hr:=ih (i+1) (by omega)
  have hlt:i<(toThingL l).length:=by rw [toThingL_len];omega
  apply ev_succ
  simp only [laws_toThingS.l0,laws_toThing.f,Option.bind_some]
  have hset:((toThingL l).take i++List.replicate (d+1) z102).set ((i:Int).toNat) (⟨(rd_T136 l i).f0,(rd_T136 l i).f1,(rd_T136 l i).f2,(rd_T136 l i).f3⟩:S102)=(toThingL l).take (i+1)++List.replicate d z102:=by
   rw [List.replicate_succ,set_mid _ _ _ _ _ (by rw [List.length_take];omega),List.take_succ_eq_append_getElem hlt]
   rw [List.append_assoc]
   congr 1
   simp only [List.singleton_append]
   congr 1
   have hli:i<l.length:=by omega
   simp [toThingL,toThing1,rd_T136,List.getD_eq_getElem?_getD,hli]
  rw [hset,w64 (by omega) (by omega)]
  refine ev_pos (by omega) (ev_pos (by omega) (ev_pos ?_ hr))
  simp only [List.length_append,List.length_take,List.length_replicate,toThingL_len]
  omega
theorem laws_toThingS_ev (l:List S136) (hl:l.length≤1048576):Ev (fun k=> laws_toThingS.f k l) (toThingL l):=by
 unfold laws_toThingS.f
 refine ev_pos (by omega) (ev_pos (by omega) ?_)
 exact laws_toThingS_l0_ev l (by omega) l.length 0 (by omega)

theorem laws_szLinkS_eq (l:List S134) (hl:l.length≤9223372036854775807) (n:Int) (h0:0≤n) (h1:n≤1048576):laws_szLinkS.f l n=some (if n<(l.length:Int) then -1 else n-l.length):=by
 unfold laws_szLinkS.f
 rw [w64 (by omega) (by omega)]
 by_cases h:n<(l.length:Int)
 ·rw [if_pos (by omega),if_pos h]
 ·rw [if_neg (by omega),if_neg h]

theorem laws_szThingS_eq (l:List S136) (hl:l.length≤9223372036854775807) (n:Int) (h0:0≤n) (h1:n≤1048576):laws_szThingS.f l n=some (if n<(l.length:Int) then -1 else n-l.length):=by
 unfold laws_szThingS.f
 rw [w64 (by omega) (by omega)]
 by_cases h:n<(l.length:Int)
 ·rw [if_pos (by omega),if_pos h]
 ·rw [if_neg (by omega),if_neg h]

theorem laws_eqLink_refl (a b c d:Int):laws_eqLink.f a b c d a b c d=some true:=by
 unfold laws_eqLink.f
 simp
theorem laws_eqLinkS_l0_ev (l:List S93) (hl:l.length≤9223372036854775807) (d:Nat):∀i:Nat,i+d=l.length→Ev (fun k=> laws_eqLinkS.l0 k l l i) true:=by
 induction d with
 | zero=>
  intro i hi
  apply ev_succ
  simp only [laws_eqLinkS.l0]
  exact ev_neg (by omega) (Ev.now _)
 | succ d ih=>
  intro i hi
  apply ev_succ
  simp only [laws_eqLinkS.l0,laws_eqLink_refl,if_true,Option.bind_some]
  rw [w64 (by omega) (by omega)]
  exact ev_pos (by omega) (ev_pos (by omega) (ev_pos (by omega) (ih (i+1) (by omega))))
theorem laws_eqLinkS_refl (l:List S93) (hl:l.length≤9223372036854775807):Ev (fun k=> laws_eqLinkS.f k l l) true:=by
 unfold laws_eqLinkS.f
 exact ev_pos rfl (laws_eqLinkS_l0_ev l hl l.length 0 (by omega))

theorem laws_eqThing_refl (a b c:Int) (d:Bool):laws_eqThing.f a b c d a b c d=some true:=by
 unfold laws_eqThing.f
 simp
theorem laws_eqThingS_l0_ev (l:List S102) (hl:l.length≤9223372036854775807) (d:Nat):∀i:Nat,i+d=l.length→Ev (fun k=> laws_eqThingS.l0 k l l i) true:=by
 induction d with
 | zero=>
  intro i hi
  apply ev_succ
  simp only [laws_eqThingS.l0]
  exact ev_neg (by omega) (Ev.now _)
 | succ d ih=>
  intro i hi
  apply ev_succ
  simp only [laws_eqThingS.l0,laws_eqThing_refl,if_true,Option.bind_some]
  rw [w64 (by omega) (by omega)]
  exact ev_pos (by omega) (ev_pos (by omega) (ev_pos (by omega) (ih (i+1) (by omega))))
theorem laws_eqThingS_refl (l:List S102) (hl:l.length≤9223372036854775807):Ev (fun k=> laws_eqThingS.f k l l) true:=by
 unfold laws_eqThingS.f
 exact ev_pos rfl (laws_eqThingS_l0_ev l hl l.length 0 (by omega))

theorem laws_toNet_ev (n:Int) (l:List S134) (m:List S136) (hl:l.length≤1048576) (hm:m.length≤1048576):Ev (fun k=> laws_toNet.f k n l m) (n,toLinkL l,toThingL m):=by
 unfold laws_toNet.f
 exact Ev.bind (laws_toLinkS_ev l hl) (Ev.bind (laws_toThingS_ev m hm) (Ev.now _))
theorem laws_eqNet_refl (n:Int) (l:List S93) (m:List S102) (hl:l.length≤9223372036854775807) (hm:m.length≤9223372036854775807):Ev (fun k=> laws_eqNet.f k n l m n l m) true:=by
 unfold laws_eqNet.f
 exact ev_pos rfl (Ev.bind (laws_eqLinkS_refl l hl) (ev_pos rfl (Ev.bind (laws_eqThingS_refl m hm) (ev_pos rfl (Ev.now _)))))
theorem laws_szNet_cases (n:Int) (l:List S134) (m:List S136) (hl:l.length≤9223372036854775807) (hm:m.length≤9223372036854775807) (t:Int) (h0:0≤t) (h1:t≤1048576):
  laws_szNet.f n l m t=some (-1)∨(laws_szNet.f n l m t=some (t-l.length-m.length)∧(l.length:Int)+m.length≤t):=by
 unfold laws_szNet.f
 rw [laws_szLinkS_eq l hl t h0 h1,Option.bind_some]
 by_cases hc:t<(l.length:Int)
 ·rw [if_pos hc,if_pos (by omega)];exact .inl rfl
 ·rw [if_neg hc,if_neg (by omega),laws_szThingS_eq m hm _ (by omega) (by omega),Option.bind_some]
  by_cases hd:t-(l.length:Int)<(m.length:Int)
  ·rw [if_pos hd,if_pos (by omega)];exact .inl rfl
  ·rw [if_neg hd,if_neg (by omega)];exact .inr ⟨rfl,by omega⟩

theorem impl_in_eq (a b c:Int):impl_in.f a b c=some (decide (b≤a∧a≤c)):=by
 unfold impl_in.f
 by_cases h:a≥b
 ·rw [if_pos h];congr 1;simp;omega
 ·rw [if_neg h];congr 1;simp;omega

theorem spec_l01In_eq (a b c:Int):spec_l01In.f a b c=some (decide (b≤a∧a≤c)):=by
 unfold spec_l01In.f
 by_cases h:a≥b
 ·rw [if_pos h];congr 1;simp;omega
 ·rw [if_neg h];congr 1;simp;omega

def okLink (n:Int) (x:S93):Bool:=decide (1≤n∧n≤6) && (decide (1≤x.f0∧x.f0≤n) && (decide (1≤x.f1∧x.f1≤n) && (decide (x.f0<x.f1) && (decide (1≤x.f2∧x.f2≤1000) && decide (0≤x.f3∧x.f3≤2)))))
def aheadB (a b:S93):Bool:=decide (a.f0<b.f0∨a.f0=b.f0∧(a.f1<b.f1∨a.f1=b.f1∧a.f3<b.f3))
def lessB (a b:S102):Bool:=decide (a.f1<b.f1∨a.f1=b.f1∧a.f0<b.f0)
def okThing (n:Int) (x:S102):Bool:=decide (1≤x.f1∧x.f1≤9) && (decide (1≤x.f0∧x.f0≤n) && decide (1≤x.f2∧x.f2≤1000))
def linksGo (n:Int):Option S93→List S93→Bool
 | _,[]=> true
 | p,x::xs=> okLink n x && p.all (fun y=> aheadB y x) && linksGo n (some x) xs
def thingsGo (n:Int):Option S102→List S102→Bool
 | _,[]=> true
 | p,x::xs=> okThing n x && p.all (fun y=> lessB y x) && thingsGo n (some x) xs
def netB (n:Int) (l:List S93) (m:List S102):Bool:=(decide (1≤n∧n≤6) && (!decide ((l.length:Int) > 12) && !decide ((m.length:Int) > 4))) && (linksGo n none l && thingsGo n none m)
def pvK (l:List S93) (i:Nat):Option S93:=if i=0 then none else some (l.getD (i-1) z93)
theorem pvK_succ (l:List S93) (i:Nat):pvK l (i+1)=some (l.getD i z93):=by simp [pvK]
theorem rdKp (l:List S93) (i:Nat) (h:0<i) (hl:i<9223372036854775807):rd_T93 l (wrap64 ((i:Int)-1))=l.getD (i-1) z93:=by
 rw [w64 (by omega) (by omega),show (i:Int)-1=((i-1:Nat):Int) by omega]
 rfl
def pvT (l:List S102) (i:Nat):Option S102:=if i=0 then none else some (l.getD (i-1) z102)
theorem pvT_succ (l:List S102) (i:Nat):pvT l (i+1)=some (l.getD i z102):=by simp [pvT]
theorem rdTp (l:List S102) (i:Nat) (h:0<i) (hl:i<9223372036854775807):rd_T102 l (wrap64 ((i:Int)-1))=l.getD (i-1) z102:=by
 rw [w64 (by omega) (by omega),show (i:Int)-1=((i-1:Nat):Int) by omega]
 rfl
theorem impl_LinkOk_eq (n:Int) (x:S93):impl_LinkOk.f n x.f0 x.f1 x.f2 x.f3=some (okLink n x):=by
 unfold impl_LinkOk.f okLink
 simp only [impl_in_eq,Option.bind_some,decide_eq_true_eq]
 by_cases h1:1≤n∧n≤6
 ·rw [if_pos h1,decide_eq_true h1,Bool.true_and]
  by_cases h2:1≤x.f0∧x.f0≤n
  ·rw [if_pos h2,decide_eq_true h2,Bool.true_and]
   by_cases h3:1≤x.f1∧x.f1≤n
   ·rw [if_pos h3,decide_eq_true h3,Bool.true_and]
    by_cases h4:x.f0<x.f1
    ·rw [if_pos h4,decide_eq_true h4,Bool.true_and]
     by_cases h5:1≤x.f2∧x.f2≤1000
     ·rw [if_pos h5,decide_eq_true h5,Bool.true_and]
     ·rw [if_neg h5,decide_eq_false h5,Bool.false_and]
    ·rw [if_neg h4,decide_eq_false h4,Bool.false_and]
   ·rw [if_neg h3,decide_eq_false h3,Bool.false_and]
  ·rw [if_neg h2,decide_eq_false h2,Bool.false_and]
 ·rw [if_neg h1,decide_eq_false h1,Bool.false_and]
theorem spec_LinkOk_eq (n:Int) (x:S93):spec_LinkOk.f n x.f0 x.f1 x.f2 x.f3=some (okLink n x):=by
 rw [←impl_LinkOk_eq]
 unfold spec_LinkOk.f impl_LinkOk.f
 simp only [spec_l01In_eq,impl_in_eq]
theorem impl_ahead_eq (a b:S93):impl_ahead.f a.f0 a.f1 a.f2 a.f3 b.f0 b.f1 b.f2 b.f3=some (aheadB a b):=by
 unfold impl_ahead.f aheadB
 repeat' split
 all_goals (congr 1;rw [Bool.eq_iff_iff,decide_eq_true_eq,decide_eq_true_eq];omega)
theorem spec_l03Ahead_eq (a b:S93):spec_l03Ahead.f a.f0 a.f1 a.f2 a.f3 b.f0 b.f1 b.f2 b.f3=some (aheadB a b):=by
 unfold spec_l03Ahead.f aheadB
 repeat' split
 all_goals (congr 1;rw [Bool.eq_iff_iff];simp only [decide_eq_true_eq,true_iff,Bool.false_eq_true,false_iff];omega)
theorem impl_less_eq (a b:S102):impl_less.f a.f0 a.f1 a.f2 a.f3 b.f0 b.f1 b.f2 b.f3=some (lessB a b):=by
 unfold impl_less.f lessB
 repeat' split
 all_goals (congr 1;rw [Bool.eq_iff_iff];simp only [decide_eq_true_eq,true_iff,Bool.false_eq_true,false_iff];omega)
theorem spec_l03Thing_eq (a b:S102):spec_l03Thing.f a.f0 a.f1 a.f2 a.f3 b.f0 b.f1 b.f2 b.f3=some (lessB a b):=by
 unfold spec_l03Thing.f lessB
 repeat' split
 all_goals (congr 1;rw [Bool.eq_iff_iff];simp only [decide_eq_true_eq,true_iff,Bool.false_eq_true,false_iff];omega)

theorem spec_NetOk_l1_ev (n:Int) (l:List S93) (m:List S102) (hm:m.length≤9223372036854775000) (d:Nat):∀i:Nat,i+d=m.length→
  Ev (fun k=> spec_NetOk.l1 k i n l m) (thingsGo n (pvT m i) (m.drop i)):=by
 induction d with
 | zero=>
  intro i hi
  rw [List.drop_eq_nil_of_le (by omega)]
  apply ev_succ
  simp only [spec_NetOk.l1]
  exact ev_neg (by omega) (ev_some (by simp [thingsGo]))
 | succ d ih=>
  intro i hi
  have hr:=ih (i+1) (by omega)
  obtain ⟨x,hx⟩:∃x,rd_T102 m (i:Int)=x:=⟨_,rfl⟩
  have hx2:m.getD i z102=x:=hx
  rw [pvT_succ,hx2] at hr
  rw [drop_at m z102 i (by omega),hx2,thingsGo,okThing]
  apply ev_succ
  simp only [spec_NetOk.l1,hx,spec_l01In_eq,Option.bind_some,decide_eq_true_eq]
  rw [w64 (x:=(i:Int)+1) (by omega) (by omega)]
  refine ev_pos (by omega) (ev_pos (by omega) ?_)
  refine ev_ite (fun h2=> ?_) (fun h2=> ev_some (by simp [h2]))
  refine ev_ite (fun h1=> ?_) (fun h1=> ev_some (by simp [h1]))
  refine ev_ite (fun h3=> ?_) (fun h3=> ev_some (by simp [h3]))
  refine ev_ite (fun h4=> ?_) (fun h4=> ?_)
  ·have h0:0<i:=by omega
   have hp:pvT m i=some (m.getD (i-1) z102):=by unfold pvT;rw [if_neg (by omega)]
   rw [hp]
   simp only [rdTp m i h0 (by omega),spec_l03Thing_eq,Option.bind_some]
   refine ev_pos (by rw [w64 (by omega) (by omega)];omega) (ev_pos (by rw [w64 (by omega) (by omega)];omega) ?_)
   refine ev_ite (fun h5=> ?_) (fun h5=> ev_some ?_)
   ·exact ev_to hr (by rw [decide_eq_true h1,decide_eq_true h2,decide_eq_true h3];simp only [Option.all_some,h5,Bool.true_and])
   ·have h5':lessB (m.getD (i-1) z102) x=false:=by simpa using h5
    simp only [Option.all_some,h5',Bool.and_false,Bool.false_and]
  ·have h0:i=0:=by omega
   have hp:pvT m i=none:=by rw [h0];rfl
   rw [hp]
   exact ev_to hr (by simp [h1,h2,h3])
theorem spec_NetOk_l0_ev (n:Int) (l:List S93) (m:List S102) (hl:l.length≤9223372036854775000) (hm:m.length≤9223372036854775000) (d:Nat):∀i:Nat,i+d=l.length→
  Ev (fun k=> spec_NetOk.l0 k i n l m) (linksGo n (pvK l i) (l.drop i) && thingsGo n none m):=by
 induction d with
 | zero=>
  intro i hi
  rw [List.drop_eq_nil_of_le (by omega)]
  apply ev_succ
  simp only [spec_NetOk.l0]
  exact ev_neg (by omega) (ev_to (spec_NetOk_l1_ev n l m hm m.length 0 (by omega)) (by simp [linksGo,pvT]))
 | succ d ih=>
  intro i hi
  have hr:=ih (i+1) (by omega)
  obtain ⟨x,hx⟩:∃x,rd_T93 l (i:Int)=x:=⟨_,rfl⟩
  have hx2:l.getD i z93=x:=hx
  rw [pvK_succ,hx2] at hr
  rw [drop_at l z93 i (by omega),hx2,linksGo]
  apply ev_succ
  simp only [spec_NetOk.l0,hx,spec_LinkOk_eq,Option.bind_some]
  rw [w64 (x:=(i:Int)+1) (by omega) (by omega)]
  refine ev_pos (by omega) (ev_pos (by omega) ?_)
  refine ev_ite (fun h1=> ?_) (fun h1=> ev_some (by simp [h1]))
  refine ev_ite (fun h4=> ?_) (fun h4=> ?_)
  ·have h0:0<i:=by omega
   have hp:pvK l i=some (l.getD (i-1) z93):=by unfold pvK;rw [if_neg (by omega)]
   rw [hp]
   simp only [rdKp l i h0 (by omega),spec_l03Ahead_eq,Option.bind_some]
   refine ev_pos (by rw [w64 (by omega) (by omega)];omega) (ev_pos (by rw [w64 (by omega) (by omega)];omega) ?_)
   refine ev_ite (fun h5=> ?_) (fun h5=> ev_some ?_)
   ·exact ev_to hr (by simp only [Option.all_some,h1,h5,Bool.true_and])
   ·have h5':aheadB (l.getD (i-1) z93) x=false:=by simpa using h5
    simp only [Option.all_some,h5',Bool.and_false,Bool.false_and]
  ·have h0:i=0:=by omega
   have hp:pvK l i=none:=by rw [h0];rfl
   rw [hp]
   exact ev_to hr (by simp [h1])
theorem spec_NetOk_ev (n:Int) (l:List S93) (m:List S102) (hl:l.length≤9223372036854775000) (hm:m.length≤9223372036854775000):Ev (fun k=> spec_NetOk.f k n l m) (netB n l m):=by
 have hL:=spec_NetOk_l0_ev n l m hl hm l.length 0 (by omega)
 have hj:∀b:Bool,Ev (fun k=> spec_NetOk.j0 k b n l m) (!b && (linksGo n none l && thingsGo n none m)):=by
  intro b
  apply ev_succ
  simp only [spec_NetOk.j0]
  refine ev_ite (fun h=> ev_some (by simp [h])) (fun h=> ev_to hL ?_)
  have h':b=false:=by simpa using h
  simp [h',pvK]
 unfold spec_NetOk.f netB
 simp only [spec_l01In_eq,Option.bind_some,decide_eq_true_eq]
 refine ev_ite (fun h1=> ?_) (fun h1=> ?_)
 ·refine ev_ite (fun h2=> ?_) (fun h2=> ?_)
  ·exact ev_to (hj true) (by simp [h2])
  ·exact ev_to (hj _) (by rw [decide_eq_true h1,decide_eq_false h2];simp)
 ·exact ev_to (hj true) (by simp [h1])

theorem impl_NetOk_l1_ev (n:Int) (l:List S93) (m:List S102) (hm:m.length≤9223372036854775000) (d:Nat):∀i:Nat,i+d=m.length→
  Ev (fun k=> impl_NetOk.l1 k m (m.length:Int) i n l m) (thingsGo n (pvT m i) (m.drop i)):=by
 induction d with
 | zero=>
  intro i hi
  rw [List.drop_eq_nil_of_le (by omega)]
  apply ev_succ
  simp only [impl_NetOk.l1]
  exact ev_neg (by omega) (ev_some (by simp [thingsGo]))
 | succ d ih=>
  intro i hi
  have hr:=ih (i+1) (by omega)
  obtain ⟨x,hx⟩:∃x,rd_T102 m (i:Int)=x:=⟨_,rfl⟩
  have hx2:m.getD i z102=x:=hx
  rw [pvT_succ,hx2] at hr
  rw [drop_at m z102 i (by omega),hx2,thingsGo,okThing]
  apply ev_succ
  simp only [impl_NetOk.l1,hx,impl_in_eq,Option.bind_some,decide_eq_true_eq]
  rw [w64 (x:=(i:Int)+1) (by omega) (by omega)]
  refine ev_pos (by omega) (ev_pos (by omega) (ev_pos (by omega) ?_))
  refine ev_ite (fun h1=> ?_) (fun h1=> ev_some (by simp [h1]))
  refine ev_ite (fun h2=> ?_) (fun h2=> ev_some (by simp [h2]))
  refine ev_ite (fun h3=> ?_) (fun h3=> ev_some (by simp [h3]))
  refine ev_ite (fun h4=> ?_) (fun h4=> ?_)
  ·have h0:0<i:=by omega
   have hp:pvT m i=some (m.getD (i-1) z102):=by unfold pvT;rw [if_neg (by omega)]
   rw [hp]
   simp only [rdTp m i h0 (by omega),impl_less_eq,Option.bind_some]
   refine ev_pos (by rw [w64 (by omega) (by omega)];omega) (ev_pos (by rw [w64 (by omega) (by omega)];omega) ?_)
   refine ev_ite (fun h5=> ?_) (fun h5=> ev_some ?_)
   ·exact ev_to hr (by rw [decide_eq_true h1,decide_eq_true h2,decide_eq_true h3];simp only [Option.all_some,h5,Bool.true_and])
   ·have h5':lessB (m.getD (i-1) z102) x=false:=by simpa using h5
    simp only [Option.all_some,h5',Bool.and_false,Bool.false_and]
  ·have h0:i=0:=by omega
   have hp:pvT m i=none:=by rw [h0];rfl
   rw [hp]
   exact ev_to hr (by simp [h1,h2,h3])
theorem impl_NetOk_l0_ev (n:Int) (l:List S93) (m:List S102) (hl:l.length≤9223372036854775000) (hm:m.length≤9223372036854775000) (d:Nat):∀i:Nat,i+d=l.length→
  Ev (fun k=> impl_NetOk.l0 k l (l.length:Int) i n l m) (linksGo n (pvK l i) (l.drop i) && thingsGo n none m):=by
 induction d with
 | zero=>
  intro i hi
  rw [List.drop_eq_nil_of_le (by omega)]
  apply ev_succ
  simp only [impl_NetOk.l0]
  exact ev_neg (by omega) (ev_to (impl_NetOk_l1_ev n l m hm m.length 0 (by omega)) (by simp [linksGo,pvT]))
 | succ d ih=>
  intro i hi
  have hr:=ih (i+1) (by omega)
  obtain ⟨x,hx⟩:∃x,rd_T93 l (i:Int)=x:=⟨_,rfl⟩
  have hx2:l.getD i z93=x:=hx
  rw [pvK_succ,hx2] at hr
  rw [drop_at l z93 i (by omega),hx2,linksGo]
  apply ev_succ
  simp only [impl_NetOk.l0,hx,impl_LinkOk_eq,Option.bind_some]
  rw [w64 (x:=(i:Int)+1) (by omega) (by omega)]
  refine ev_pos (by omega) (ev_pos (by omega) (ev_pos (by omega) ?_))
  refine ev_ite (fun h1=> ?_) (fun h1=> ev_some (by simp [h1]))
  refine ev_ite (fun h4=> ?_) (fun h4=> ?_)
  ·have h0:0<i:=by omega
   have hp:pvK l i=some (l.getD (i-1) z93):=by unfold pvK;rw [if_neg (by omega)]
   rw [hp]
   simp only [rdKp l i h0 (by omega),impl_ahead_eq,Option.bind_some]
   refine ev_pos (by rw [w64 (by omega) (by omega)];omega) (ev_pos (by rw [w64 (by omega) (by omega)];omega) ?_)
   refine ev_ite (fun h5=> ?_) (fun h5=> ev_some ?_)
   ·exact ev_to hr (by simp only [Option.all_some,h1,h5,Bool.true_and])
   ·have h5':aheadB (l.getD (i-1) z93) x=false:=by simpa using h5
    simp only [Option.all_some,h5',Bool.and_false,Bool.false_and]
  ·have h0:i=0:=by omega
   have hp:pvK l i=none:=by rw [h0];rfl
   rw [hp]
   exact ev_to hr (by simp [h1])
theorem impl_NetOk_ev (n:Int) (l:List S93) (m:List S102) (hl:l.length≤9223372036854775000) (hm:m.length≤9223372036854775000):Ev (fun k=> impl_NetOk.f k n l m) (netB n l m):=by
 have hL:=impl_NetOk_l0_ev n l m hl hm l.length 0 (by omega)
 have hj:∀b:Bool,Ev (fun k=> impl_NetOk.j0 k b n l m) (!b && (linksGo n none l && thingsGo n none m)):=by
  intro b
  apply ev_succ
  simp only [impl_NetOk.j0]
  refine ev_ite (fun h=> ev_some (by simp [h])) (fun h=> ev_to hL ?_)
  have h':b=false:=by simpa using h
  simp [h',pvK]
 unfold impl_NetOk.f netB
 simp only [impl_in_eq,Option.bind_some,decide_eq_true_eq]
 refine ev_ite (fun h1=> ?_) (fun h1=> ?_)
 ·refine ev_ite (fun h2=> ?_) (fun h2=> ?_)
  ·exact ev_to (hj true) (by simp [h2])
  ·exact ev_to (hj _) (by rw [decide_eq_true h1,decide_eq_false h2];simp)
 ·exact ev_to (hj true) (by simp [h1])

-- toNear
/-! Near: lists -/
def toNear1 (x:S141):S127:=⟨x.f0,x.f1⟩
def toNearL (l:List S141):List S127:=l.map toNear1
theorem toNearL_len (l:List S141):(toNearL l).length=l.length:=by simp [toNearL]
theorem laws_toNearS_l0_ev (l:List S141) (hl:l.length≤9223372036854775807) (d:Nat):∀i:Nat,i+d=l.length→
  Ev (fun k=> laws_toNearS.l0 k l ((toNearL l).take i++List.replicate d z127) i) (toNearL l):=by
 induction d with
 | zero=>
  intro i hi
  apply ev_succ
  simp only [laws_toNearS.l0]
  refine ev_neg (by omega) (ev_some ?_)
  rw [List.take_of_length_le (by rw [toNearL_len];omega)]
  simp
 | succ d ih=>
  intro i hi
  have hr:=ih (i+1) (by omega)
  have hlt:i<(toNearL l).length:=by rw [toNearL_len];omega
  apply ev_succ
  simp only [laws_toNearS.l0,laws_toNear.f,Option.bind_some]
  have hset:((toNearL l).take i++List.replicate (d+1) z127).set ((i:Int).toNat) (⟨(rd_T141 l i).f0,(rd_T141 l i).f1⟩:S127)=(toNearL l).take (i+1)++List.replicate d z127:=by
   rw [List.replicate_succ,set_mid _ _ _ _ _ (by rw [List.length_take];omega),List.take_succ_eq_append_getElem hlt]
   rw [List.append_assoc]
   congr 1
   simp only [List.singleton_append]
   congr 1
   have hli:i<l.length:=by omega
   simp [toNearL,toNear1,rd_T141,List.getD_eq_getElem?_getD,hli]
  rw [hset,w64 (by omega) (by omega)]
  refine ev_pos (by omega) (ev_pos (by omega) (ev_pos ?_ hr))
  simp only [List.length_append,List.length_take,List.length_replicate,toNearL_len]
  omega
theorem laws_toNearS_ev (l:List S141) (hl:l.length≤1048576):Ev (fun k=> laws_toNearS.f k l) (toNearL l):=by
 unfold laws_toNearS.f
 refine ev_pos (by omega) (ev_pos (by omega) ?_)
 exact laws_toNearS_l0_ev l (by omega) l.length 0 (by omega)

theorem laws_szNearS_eq (l:List S141) (hl:l.length≤9223372036854775807) (n:Int) (h0:0≤n) (h1:n≤1048576):laws_szNearS.f l n=some (if n<(l.length:Int) then -1 else n-l.length):=by
 unfold laws_szNearS.f
 rw [w64 (by omega) (by omega)]
 by_cases h:n<(l.length:Int)
 ·rw [if_pos (by omega),if_pos h]
 ·rw [if_neg (by omega),if_neg h]

theorem laws_toRecord_ev (a b c d e:Int) (l:List S141) (f:Int) (g:Bool) (hl:l.length≤1048576):Ev (fun k=> laws_toRecord.f k a b c d e l f g) (a,b,c,d,e,toNearL l,f,g):=by
 unfold laws_toRecord.f
 exact Ev.bind (laws_toNearS_ev l hl) (Ev.now _)
theorem laws_szRecord_eq (a b c d e:Int) (l:List S141) (f:Int) (g:Bool) (hl:l.length≤9223372036854775807) (n:Int) (h0:0≤n) (h1:n≤1048576):
  laws_szRecord.f a b c d e l f g n=some (if n<(l.length:Int) then -1 else n-l.length):=by
 unfold laws_szRecord.f
 rw [laws_szNearS_eq l hl n h0 h1,Option.bind_some]
 by_cases h:n<(l.length:Int)
 ·rw [if_pos h,if_pos (by omega)]
 ·rw [if_neg h,if_neg (by omega)]

theorem laws_eqNear_refl (a b:Int):laws_eqNear.f a b a b=some true:=by
 unfold laws_eqNear.f
 simp
theorem laws_eqNearS_l0_ev (l:List S127) (hl:l.length≤9223372036854775807) (d:Nat):∀i:Nat,i+d=l.length→Ev (fun k=> laws_eqNearS.l0 k l l i) true:=by
 induction d with
 | zero=>
  intro i hi
  apply ev_succ
  simp only [laws_eqNearS.l0]
  exact ev_neg (by omega) (Ev.now _)
 | succ d ih=>
  intro i hi
  apply ev_succ
  simp only [laws_eqNearS.l0,laws_eqNear_refl,if_true,Option.bind_some]
  rw [w64 (by omega) (by omega)]
  exact ev_pos (by omega) (ev_pos (by omega) (ev_pos (by omega) (ih (i+1) (by omega))))
theorem laws_eqNearS_refl (l:List S127) (hl:l.length≤9223372036854775807):Ev (fun k=> laws_eqNearS.f k l l) true:=by
 unfold laws_eqNearS.f
 exact ev_pos rfl (laws_eqNearS_l0_ev l hl l.length 0 (by omega))

theorem laws_eqRecord_refl (a b c d e:Int) (l:List S127) (f:Int) (g:Bool) (hl:l.length≤9223372036854775807):Ev (fun k=> laws_eqRecord.f k a b c d e l f g a b c d e l f g) true:=by
 unfold laws_eqRecord.f
 simp only [if_true]
 refine Ev.bind (laws_eqNearS_refl l hl) ?_
 simp
 exact Ev.now _

def toRec1 (x:S57):S61:=⟨x.f0,x.f1,x.f2,x.f3,x.f4,toNearL x.f5,x.f6,x.f7⟩
def toRecL (l:List S57):List S61:=l.map toRec1
theorem toRecL_len (l:List S57):(toRecL l).length=l.length:=by simp [toRecL]
/-- No list of a record is longer than can be counted. -/
def Lens (s:List S61):Prop:=s.length≤9223372036854775000∧∀x∈s,x.f5.length≤9223372036854775000
theorem getD_mem {α:Type} (l:List α) (z:α) (i:Nat) (h:i<l.length):l.getD i z∈l:=by
 rw [List.getD_eq_getElem?_getD,List.getElem?_eq_getElem h]
 exact List.getElem_mem h
theorem laws_toRecordS_l0_ev (l:List S57) (hl:l.length≤9223372036854775000) (hx:∀x∈l,x.f5.length≤1048576) (d:Nat):∀i:Nat,i+d=l.length→
  Ev (fun k=> laws_toRecordS.l0 k l ((toRecL l).take i++List.replicate d z61) i) (toRecL l):=by
 induction d with
 | zero=>
  intro i hi
  apply ev_succ
  simp only [laws_toRecordS.l0]
  refine ev_neg (by omega) (ev_some ?_)
  rw [List.take_of_length_le (by rw [toRecL_len];omega)]
  simp
 | succ d ih=>
  intro i hi
  have hr:=ih (i+1) (by omega)
  have hli:i<l.length:=by omega
  have hlt:i<(toRecL l).length:=by rw [toRecL_len];omega
  obtain ⟨x,hxe⟩:∃x,rd_T57 l (i:Int)=x:=⟨_,rfl⟩
  have hx2:l.getD i z57=x:=hxe
  have hm:x∈l:=by rw [←hx2];exact getD_mem l _ i hli
  apply ev_succ
  simp only [laws_toRecordS.l0,hxe]
  have hset:((toRecL l).take i++List.replicate (d+1) z61).set ((i:Int).toNat) (toRec1 x)=(toRecL l).take (i+1)++List.replicate d z61:=by
   rw [List.replicate_succ,set_mid _ _ _ _ _ (by rw [List.length_take];omega),List.take_succ_eq_append_getElem hlt]
   rw [List.append_assoc]
   congr 1
   simp only [List.singleton_append]
   congr 1
   rw [←hx2]
   simp [toRecL,List.getD_eq_getElem?_getD,hli]
  refine ev_pos (by omega) (ev_pos (by omega) (Ev.bind (laws_toRecord_ev x.f0 x.f1 x.f2 x.f3 x.f4 x.f5 x.f6 x.f7 (hx x hm)) (ev_pos ?_ ?_)))
  ·simp only [List.length_append,List.length_take,List.length_replicate,toRecL_len]
   omega
  ·have hset':((toRecL l).take i++List.replicate (d+1) z61).set ((i:Int).toNat) (⟨x.f0,x.f1,x.f2,x.f3,x.f4,toNearL x.f5,x.f6,x.f7⟩:S61)=(toRecL l).take (i+1)++List.replicate d z61:=hset
   simp only [hset']
   rw [w64 (by omega) (by omega)]
   exact hr
theorem laws_toRecordS_ev (l:List S57) (hl:l.length≤1048576) (hx:∀x∈l,x.f5.length≤1048576):Ev (fun k=> laws_toRecordS.f k l) (toRecL l):=by
 unfold laws_toRecordS.f
 refine ev_pos (by omega) (ev_pos (by omega) ?_)
 exact laws_toRecordS_l0_ev l (by omega) hx l.length 0 (by omega)
theorem laws_szRecordS_l0 (l:List S57) (hl:l.length≤9223372036854775000) (hx:∀x∈l,x.f5.length≤9223372036854775807) (d:Nat):∀(i:Nat) (n:Int),i+d=l.length→0≤n→n≤1048576→
  (Ev (fun k=> laws_szRecordS.l0 k l n i) (-1))∨(∃t,Ev (fun k=> laws_szRecordS.l0 k l n i) t∧0≤t∧t≤n∧∀x∈l.drop i,x.f5.length≤1048576):=by
 induction d with
 | zero=>
  intro i n hi h0 h1
  refine .inr ⟨n,?_,h0,by omega,by rw [List.drop_eq_nil_of_le (by omega)];simp⟩
  apply ev_succ
  simp only [laws_szRecordS.l0]
  exact ev_neg (by omega) (Ev.now _)
 | succ d ih=>
  intro i n hi h0 h1
  have hli:i<l.length:=by omega
  obtain ⟨x,hxe⟩:∃x,rd_T57 l (i:Int)=x:=⟨_,rfl⟩
  have hx2:l.getD i z57=x:=hxe
  have hm:x∈l:=by rw [←hx2];exact getD_mem l _ i hli
  have key:∀r,(n<(x.f5.length:Int)→r= -1)→(¬n<(x.f5.length:Int)→Ev (fun k=> laws_szRecordS.l0 k l (n-x.f5.length) ((i:Int)+1)) r)→Ev (fun k=> laws_szRecordS.l0 k l n i) r:=by
   intro r ha hb
   apply ev_succ
   simp only [laws_szRecordS.l0,hxe]
   rw [laws_szRecord_eq x.f0 x.f1 x.f2 x.f3 x.f4 x.f5 x.f6 x.f7 (hx x hm) n h0 h1,w64 (by omega) (by omega)]
   simp only [Option.bind_some]
   refine ev_pos (by omega) (ev_pos (by omega) ?_)
   by_cases hc:n<(x.f5.length:Int)
   ·rw [if_pos hc]
    rw [ha hc]
    exact ev_pos (by omega) (Ev.now _)
   ·rw [if_neg hc]
    exact ev_neg (by omega) (hb hc)
  by_cases hc:n<(x.f5.length:Int)
  ·exact .inl (key _ (fun _=> rfl) (fun h=> absurd hc h))
  ·rcases ih (i+1) (n-x.f5.length) (by omega) (by omega) (by omega) with h | ⟨t,h,h2,h3,h4⟩
   ·exact .inl (key _ (fun h=> absurd h hc) (fun _=> h))
   ·refine .inr ⟨t,key _ (fun h=> absurd h hc) (fun _=> h),h2,by omega,fun y hy=> ?_⟩
    rw [drop_at l z57 i hli,hx2] at hy
    rcases List.mem_cons.1 hy with rfl | hy
    ·omega
    ·exact h4 y hy
theorem laws_szRecordS_cases (l:List S57) (hl:l.length≤9223372036854775807) (hx:∀x∈l,x.f5.length≤9223372036854775807) (n:Int) (h0:0≤n) (h1:n≤1048576):
  (Ev (fun k=> laws_szRecordS.f k l n) (-1))∨(∃t,Ev (fun k=> laws_szRecordS.f k l n) t∧0≤t∧t≤n∧l.length≤1048576∧∀x∈l,x.f5.length≤1048576):=by
 unfold laws_szRecordS.f
 rw [w64 (by omega) (by omega)]
 by_cases hc:n<(l.length:Int)
 ·exact .inl (ev_pos (by omega) (Ev.now _))
 ·rcases laws_szRecordS_l0 l (by omega) hx l.length 0 (n-l.length) (by omega) (by omega) (by omega) with h | ⟨t,h,h2,h3,h4⟩
  ·exact .inl (ev_neg (by omega) h)
  ·exact .inr ⟨t,ev_neg (by omega) h,h2,by omega,by omega,fun x hm=> h4 x (by simpa using hm)⟩
theorem laws_eqRecordS_l0_ev (l:List S61) (hl:Lens l) (d:Nat):∀i:Nat,i+d=l.length→Ev (fun k=> laws_eqRecordS.l0 k l l i) true:=by
 induction d with
 | zero=>
  intro i hi
  apply ev_succ
  simp only [laws_eqRecordS.l0]
  exact ev_neg (by omega) (Ev.now _)
 | succ d ih=>
  intro i hi
  have h1:=hl.1;obtain ⟨x,hxe⟩:∃x,rd_T61 l (i:Int)=x:=⟨_,rfl⟩
  have hx2:l.getD i z61=x:=hxe
  have hm:x∈l:=by rw [←hx2];exact getD_mem l _ i (by omega)
  have h2:=hl.2 x hm
  apply ev_succ
  simp only [laws_eqRecordS.l0,hxe]
  rw [w64 (by omega) (by omega)]
  refine ev_pos (by omega) (ev_pos (by omega) (ev_pos (by omega) (Ev.bind (laws_eqRecord_refl _ _ _ _ _ _ _ _ (by omega)) (ev_pos rfl (ih (i+1) (by omega))))))
theorem laws_eqRecordS_refl (l:List S61) (hl:Lens l):Ev (fun k=> laws_eqRecordS.f k l l) true:=by
 unfold laws_eqRecordS.f
 exact ev_pos rfl (laws_eqRecordS_l0_ev l hl l.length 0 (by omega))

def sameKey (a b:S61):Bool:=decide (a.f0=b.f0∧a.f1=b.f1∧a.f2=b.f2∧a.f3=b.f3)
def beforeB (a b:S61):Bool:=decide (a.f0<b.f0∨a.f0=b.f0∧(a.f1<b.f1∨a.f1=b.f1∧(a.f2<b.f2∨a.f2=b.f2∧a.f3<b.f3)))
/-- The place of a key from place i on, -1 without one. -/
def keyGo (r:S61):List S61→Int→Int
 | [],_=> -1
 | x::xs,i=> if sameKey x r=true then i else keyGo r xs (i+1)
def keyB (s:List S61) (r:S61):Int:=keyGo r s 0
theorem keyGo_cases (r:S61) (xs:List S61):∀i:Int,(keyGo r xs i= -1∧∀x∈xs,sameKey x r=false)∨(∃j:Nat,j<xs.length∧keyGo r xs i=i+j∧sameKey (xs.getD j z61) r=true∧∀q:Nat,q<j→sameKey (xs.getD q z61) r=false):=by
 induction xs with
 | nil=> intro i;exact .inl ⟨rfl,by simp⟩
 | cons x xs ih=>
  intro i
  by_cases h:sameKey x r=true
  ·refine .inr ⟨0,by simp,?_,h,fun q hq=> by omega⟩
   rw [keyGo,if_pos h];omega
  ·rw [keyGo,if_neg h]
   rcases ih (i+1) with ⟨h1,h2⟩ | ⟨j,h1,h2,h3,h4⟩
   ·refine .inl ⟨h1,fun y hy=> ?_⟩
    rcases List.mem_cons.1 hy with rfl | hy
    ·simpa using h
    ·exact h2 y hy
   ·refine .inr ⟨j+1,by simp only [List.length_cons];omega,by rw [h2];omega,h3,fun q hq=> ?_⟩
    cases q with
    | zero=> simpa using h
    | succ q=> exact h4 q (by omega)
theorem keyB_cases (s:List S61) (r:S61):(keyB s r= -1∧∀x∈s,sameKey x r=false)∨(∃j:Nat,j<s.length∧keyB s r=j∧sameKey (s.getD j z61) r=true∧∀q:Nat,q<j→sameKey (s.getD q z61) r=false):=by
 rcases keyGo_cases r s 0 with h | ⟨j,h1,h2,h3⟩
 ·exact .inl h
 ·exact .inr ⟨j,h1,by rw [keyB,h2];omega,h3⟩
theorem keyB_lt (t:List S61) (x:S61):keyB t x<(t.length:Int):=by
 rcases keyB_cases t x with ⟨h,_⟩ | ⟨j,h1,h2,_⟩
 ·omega
 ·omega

/-- What is near ascends, and is right; the one before, if there is one. -/
def nearGo (ow:Int):Option Int→List S127→Bool
 | _,[]=> true
 | p,x::xs=> decide (1≤x.f0∧x.f0≤6) && !decide (x.f0=ow) && decide (1≤x.f1∧x.f1≤1000) && p.all (fun y=> decide (y<x.f0)) && nearGo ow (some x.f0) xs
def nearB (ow:Int) (l:List S127):Bool:=nearGo ow none l
def pvN (l:List S127) (i:Nat):Option Int:=if i=0 then none else some (l.getD (i-1) z127).f0
theorem pvN_succ (l:List S127) (i:Nat):pvN l (i+1)=some (l.getD i z127).f0:=by simp [pvN]
theorem rdNp (l:List S127) (i:Nat) (h:0<i) (hl:i<9223372036854775807):rd_T127 l (wrap64 ((i:Int)-1))=l.getD (i-1) z127:=by
 rw [w64 (by omega) (by omega),show (i:Int)-1=((i-1:Nat):Int) by omega]
 rfl

/-- Is what a record holds right for its kind? -/
def recK (ar ki ow ke:Int) (l:List S127) (co:Int) (fa:Bool):Bool:=
 if ki=1 then decide (0≤ar∧ar≤2) && decide (ke=0) && nearB ow l && decide (co=0) && !fa
 else if ki=2 then decide (0≤ar∧ar≤2) && decide (1≤ke∧ke≤6) && decide (l.length=0) && decide (0≤co∧co≤60000) && !fa
 else if ki=3 then decide (ar=9) && decide (1≤ke∧ke≤9) && decide (l.length=0) && (decide (1≤co∧co≤1000) || (co==60000))
 else false
def recB (ar ki ow ke se:Int) (l:List S127) (co:Int) (fa:Bool):Bool:=decide (1≤ow∧ow≤6) && decide (1≤se∧se≤100000) && recK ar ki ow ke l co fa

def recR (r:S61):Bool:=recB r.f0 r.f1 r.f2 r.f3 r.f4 r.f5 r.f6 r.f7
/-- Right records, one ahead of the other; the one before, if there is one. -/
def storeGo:Option S61→List S61→Bool
 | _,[]=> true
 | p,x::xs=> recR x && p.all (fun y=> beforeB y x) && storeGo (some x) xs
def storeB (s:List S61):Bool:=decide (s.length≤150) && storeGo none s
def pvR (l:List S61) (i:Nat):Option S61:=if i=0 then none else some (l.getD (i-1) z61)
theorem pvR_succ (l:List S61) (i:Nat):pvR l (i+1)=some (l.getD i z61):=by simp [pvR]
theorem rdRp (l:List S61) (i:Nat) (h:0<i) (hl:i<9223372036854775807):rd_T61 l (wrap64 ((i:Int)-1))=l.getD (i-1) z61:=by
 rw [w64 (by omega) (by omega),show (i:Int)-1=((i-1:Nat):Int) by omega]
 rfl

theorem spec_Before_eq (a b:S61):spec_Before.f a.f0 a.f1 a.f2 a.f3 a.f4 a.f5 a.f6 a.f7 b.f0 b.f1 b.f2 b.f3 b.f4 b.f5 b.f6 b.f7=some (beforeB a b):=by
 unfold spec_Before.f beforeB
 by_cases h0:a.f0=b.f0
 ·by_cases h1:a.f1=b.f1
  ·by_cases h2:a.f2=b.f2
   ·rw [if_pos h0,if_pos h1,if_pos h2]
    congr 1
    rw [Bool.eq_iff_iff,decide_eq_true_eq,decide_eq_true_eq]
    omega
   ·rw [if_pos h0,if_pos h1,if_neg h2]
    congr 1
    rw [Bool.eq_iff_iff,decide_eq_true_eq,decide_eq_true_eq]
    omega
  ·rw [if_pos h0,if_neg h1]
   congr 1
   rw [Bool.eq_iff_iff,decide_eq_true_eq,decide_eq_true_eq]
   omega
 ·rw [if_neg h0]
  congr 1
  rw [Bool.eq_iff_iff,decide_eq_true_eq,decide_eq_true_eq]
  omega

theorem spec_l04Near_l0_ev (q0 q1 ow q3 q4 q6:Int) (q7:Bool) (l:List S127) (hl:l.length≤9223372036854775807) (d:Nat):∀i:Nat,i+d=l.length→
  Ev (fun k=> spec_l04Near.l0 k i q0 q1 ow q3 q4 l q6 q7) (nearGo ow (pvN l i) (l.drop i)):=by
 induction d with
 | zero=>
  intro i hi
  rw [List.drop_eq_nil_of_le (by omega)]
  apply ev_succ
  simp only [spec_l04Near.l0]
  exact ev_neg (by omega) (ev_some rfl)
 | succ d ih=>
  intro i hi
  have hr:=ih (i+1) (by omega)
  obtain ⟨x,hx⟩:∃x,rd_T127 l (i:Int)=x:=⟨_,rfl⟩
  have hx2:l.getD i z127=x:=hx
  rw [pvN_succ,hx2] at hr
  rw [drop_at l z127 i (by omega),hx2]
  apply ev_succ
  simp only [spec_l04Near.l0,spec_l01In_eq,Option.bind_some,decide_eq_true_eq,hx]
  rw [nearGo]
  refine ev_pos (by omega) (ev_pos (by omega) ?_)
  refine ev_ite (fun h1=> ?_) (fun h1=> ev_some (by rw [decide_eq_false h1];rfl))
  refine ev_ite (fun h2=> ev_some (by rw [decide_eq_true h1,decide_eq_true h2];rfl)) (fun h2=> ?_)
  refine ev_ite (fun h3=> ?_) (fun h3=> ev_some (by rw [decide_eq_true h1,decide_eq_false h2,decide_eq_false h3];rfl))
  refine ev_ite (fun h4=> ?_) (fun h4=> ?_)
  ·have h0:0<i:=by omega
   refine ev_pos (by rw [w64 (by omega) (by omega)];omega) (ev_pos (by rw [w64 (by omega) (by omega)];omega) ?_)
   have hp:pvN l i=some (l.getD (i-1) z127).f0:=by unfold pvN;rw [if_neg (by omega)]
   rw [hp,rdNp l i h0 (by omega)]
   refine ev_ite (fun h5=> ev_some ?_) (fun h5=> ?_)
   ·have h6:¬((l.getD (i-1) z127).f0<x.f0):=by omega
    simp only [Option.all_some,decide_eq_false h6,Bool.and_false,Bool.false_and]
   ·have h6:(l.getD (i-1) z127).f0<x.f0:=by omega
    rw [w64 (by omega) (by omega)]
    refine ev_to hr ?_
    simp only [Option.all_some,decide_eq_true h6,decide_eq_true h1,decide_eq_false h2,decide_eq_true h3,Bool.true_and,Bool.not_false]
  ·have h0:i=0:=by omega
   have hp:pvN l i=none:=by rw [h0];rfl
   rw [hp,w64 (by omega) (by omega)]
   refine ev_to hr ?_
   simp only [Option.all_none,decide_eq_true h1,decide_eq_false h2,decide_eq_true h3,Bool.true_and,Bool.not_false]
theorem spec_l04Near_ev (q0 q1 ow q3 q4 q6:Int) (q7:Bool) (l:List S127) (hl:l.length≤9223372036854775807):Ev (fun k=> spec_l04Near.f k q0 q1 ow q3 q4 l q6 q7) (nearB ow l):=
 spec_l04Near_l0_ev q0 q1 ow q3 q4 q6 q7 l hl l.length 0 (by omega)

-- spec_RecordOk
/-! spec_RecordOk -/
theorem spec_RecordOk_ev (ar ki ow ke se:Int) (l:List S127) (co:Int) (fa:Bool) (hl:l.length≤9223372036854775807):Ev (fun k=> spec_RecordOk.f k ar ki ow ke se l co fa) (recB ar ki ow ke se l co fa):=by
 have hj:∀b:Bool,Ev (fun k=> spec_RecordOk.j0 k b ar ki ow ke se l co fa) (!b && recK ar ki ow ke l co fa):=by
  intro b
  apply ev_succ
  simp only [spec_RecordOk.j0,spec_l01In_eq,Option.bind_some,decide_eq_true_eq]
  refine ev_ite (fun hb=> ev_some (by simp [hb])) (fun hb=> ?_)
  have hb':b=false:=by simpa using hb
  rw [hb']
  unfold recK
  refine ev_ite (fun h1=> ?_) (fun h1=> ?_)
  ·rw [if_pos h1]
   refine ev_ite (fun h2=> ?_) (fun h2=> ev_some (by simp [h2]))
   refine ev_ite (fun h3=> ?_) (fun h3=> ev_some (by simp [h3]))
   refine Ev.bind (spec_l04Near_ev ar ki ow ke se co fa l hl) ?_
   refine ev_ite (fun h4=> ?_) (fun h4=> ev_some (by simp [h4]))
   refine ev_ite (fun h5=> ev_some ?_) (fun h5=> ev_some (by simp [h5]))
   simp [h2,h3,h4,h5]
  ·rw [if_neg h1]
   refine ev_ite (fun h1=> ?_) (fun h1=> ?_)
   ·rw [if_pos h1]
    refine ev_ite (fun h2=> ?_) (fun h2=> ev_some (by simp [h2]))
    refine ev_ite (fun h3=> ?_) (fun h3=> ev_some (by simp [h3]))
    refine ev_ite (fun h4=> ?_) (fun h4=> ev_some ?_)
    ·have h4':l.length=0:=by omega
     refine ev_ite (fun h5=> ev_some ?_) (fun h5=> ev_some (by simp [h5]))
     simp [h2,h3,h4',h5]
    ·have h4':¬l.length=0:=by omega
     simp [h4']
   ·rw [if_neg h1]
    refine ev_ite (fun h1=> ?_) (fun h1=> ?_)
    ·rw [if_pos h1]
     refine ev_ite (fun h2=> ?_) (fun h2=> ev_some (by simp [h2]))
     refine ev_ite (fun h3=> ?_) (fun h3=> ev_some (by simp [h3]))
     refine ev_ite (fun h4=> ?_) (fun h4=> ev_some ?_)
     ·have h4':l.length=0:=by omega
      refine ev_ite (fun h5=> ev_some ?_) (fun h5=> ev_some ?_)
      ·simp [h2,h3,h4',h5]
      ·simp [h2,h3,h4',h5]
     ·have h4':¬l.length=0:=by omega
      simp [h4']
    ·rw [if_neg h1]
     exact ev_some (by simp)
 unfold spec_RecordOk.f
 simp only [spec_l01In_eq,Option.bind_some,decide_eq_true_eq]
 unfold recB
 refine ev_ite (fun h1=> ?_) (fun h1=> ?_)
 ·exact ev_to (hj _) (by simp [h1])
 ·exact ev_to (hj _) (by simp [h1])

theorem spec_StoreOk_l0_ev (l:List S61) (hl:Lens l) (d:Nat):∀i:Nat,i+d=l.length→
  Ev (fun k=> spec_StoreOk.l0 k l i) (storeGo (pvR l i) (l.drop i)):=by
 have hl1:=hl.1
 induction d with
 | zero=>
  intro i hi
  rw [List.drop_eq_nil_of_le (by omega)]
  apply ev_succ
  simp only [spec_StoreOk.l0]
  exact ev_neg (by omega) (ev_some (by simp [storeGo]))
 | succ d ih=>
  intro i hi
  have hr:=ih (i+1) (by omega)
  obtain ⟨x,hx⟩:∃x,rd_T61 l (i:Int)=x:=⟨_,rfl⟩
  have hx2:l.getD i z61=x:=hx
  have hm:x∈l:=by rw [←hx2];exact getD_mem l _ i (by omega)
  have hn:=hl.2 x hm;rw [pvR_succ,hx2] at hr
  rw [drop_at l z61 i (by omega),hx2,storeGo]
  apply ev_succ
  simp only [spec_StoreOk.l0,hx]
  rw [w64 (x:=(i:Int)+1) (by omega) (by omega)]
  refine ev_pos (by omega) (ev_pos (by omega) ?_)
  refine Ev.bind (spec_RecordOk_ev x.f0 x.f1 x.f2 x.f3 x.f4 x.f5 x.f6 x.f7 (by omega)) ?_
  have hrec:recB x.f0 x.f1 x.f2 x.f3 x.f4 x.f5 x.f6 x.f7=recR x:=rfl
  rw [hrec]
  refine ev_ite (fun h1=> ?_) (fun h1=> ev_some (by simp [h1]))
  refine ev_ite (fun h2=> ?_) (fun h2=> ?_)
  ·have h0:0<i:=by omega
   have hp:pvR l i=some (l.getD (i-1) z61):=by unfold pvR;rw [if_neg (by omega)]
   rw [hp]
   simp only [rdRp l i h0 (by omega),spec_Before_eq,Option.bind_some]
   refine ev_pos (by rw [w64 (by omega) (by omega)];omega) (ev_pos (by rw [w64 (by omega) (by omega)];omega) ?_)
   refine ev_ite (fun h3=> ?_) (fun h3=> ev_some ?_)
   ·refine ev_to hr ?_
    simp only [Option.all_some,h1,h3,Bool.true_and]
   ·have h3':beforeB (l.getD (i-1) z61) x=false:=by simpa using h3
    simp only [Option.all_some,h3',Bool.and_false,Bool.false_and]
  ·have h0:i=0:=by omega
   have hp:pvR l i=none:=by rw [h0];rfl
   rw [hp]
   refine ev_to hr ?_
   simp [h1]
theorem spec_StoreOk_ev (l:List S61) (hl:Lens l):Ev (fun k=> spec_StoreOk.f k l) (storeB l):=by
 unfold spec_StoreOk.f storeB
 refine ev_ite (fun h=> ev_some ?_) (fun h=> ?_)
 ·rw [decide_eq_false (by omega),Bool.false_and]
 ·rw [decide_eq_true (by omega),Bool.true_and]
  exact spec_StoreOk_l0_ev l hl l.length 0 (by omega)

theorem impl_Before_eq (a b:S61):impl_Before.f a.f0 a.f1 a.f2 a.f3 a.f4 a.f5 a.f6 a.f7 b.f0 b.f1 b.f2 b.f3 b.f4 b.f5 b.f6 b.f7=some (beforeB a b):=by
 unfold impl_Before.f beforeB
 by_cases h0:a.f0=b.f0
 ·by_cases h1:a.f1=b.f1
  ·by_cases h2:a.f2=b.f2
   ·rw [if_pos h0,if_pos h1,if_pos h2]
    congr 1
    rw [Bool.eq_iff_iff,decide_eq_true_eq,decide_eq_true_eq]
    omega
   ·rw [if_pos h0,if_pos h1,if_neg h2]
    congr 1
    rw [Bool.eq_iff_iff,decide_eq_true_eq,decide_eq_true_eq]
    omega
  ·rw [if_pos h0,if_neg h1]
   congr 1
   rw [Bool.eq_iff_iff,decide_eq_true_eq,decide_eq_true_eq]
   omega
 ·rw [if_neg h0]
  congr 1
  rw [Bool.eq_iff_iff,decide_eq_true_eq,decide_eq_true_eq]
  omega

theorem impl_nearOk_l0_ev (q0 q1 ow q3 q4 q6:Int) (q7:Bool) (l:List S127) (hl:l.length≤9223372036854775807) (d:Nat):∀i:Nat,i+d=l.length→
  Ev (fun k=> impl_nearOk.l0 k l (l.length:Int) i q0 q1 ow q3 q4 l q6 q7) (nearGo ow (pvN l i) (l.drop i)):=by
 induction d with
 | zero=>
  intro i hi
  rw [List.drop_eq_nil_of_le (by omega)]
  apply ev_succ
  simp only [impl_nearOk.l0]
  exact ev_neg (by omega) (ev_some rfl)
 | succ d ih=>
  intro i hi
  have hr:=ih (i+1) (by omega)
  obtain ⟨x,hx⟩:∃x,rd_T127 l (i:Int)=x:=⟨_,rfl⟩
  have hx2:l.getD i z127=x:=hx
  rw [pvN_succ,hx2] at hr
  rw [drop_at l z127 i (by omega),hx2]
  apply ev_succ
  simp only [impl_nearOk.l0,impl_in_eq,Option.bind_some,decide_eq_true_eq,hx]
  rw [nearGo]
  refine ev_pos (by omega) (ev_pos (by omega) (ev_pos (by omega) ?_))
  refine ev_ite (fun h1=> ?_) (fun h1=> ev_some (by rw [decide_eq_false h1];rfl))
  refine ev_ite (fun h2=> ev_some (by rw [decide_eq_true h1,decide_eq_true h2];rfl)) (fun h2=> ?_)
  refine ev_ite (fun h3=> ?_) (fun h3=> ev_some (by rw [decide_eq_true h1,decide_eq_false h2,decide_eq_false h3];rfl))
  refine ev_ite (fun h4=> ?_) (fun h4=> ?_)
  ·have h0:0<i:=by omega
   refine ev_pos (by rw [w64 (by omega) (by omega)];omega) (ev_pos (by rw [w64 (by omega) (by omega)];omega) ?_)
   have hp:pvN l i=some (l.getD (i-1) z127).f0:=by unfold pvN;rw [if_neg (by omega)]
   rw [hp,rdNp l i h0 (by omega)]
   refine ev_ite (fun h5=> ev_some ?_) (fun h5=> ?_)
   ·have h6:¬((l.getD (i-1) z127).f0<x.f0):=by omega
    simp only [Option.all_some,decide_eq_false h6,Bool.and_false,Bool.false_and]
   ·have h6:(l.getD (i-1) z127).f0<x.f0:=by omega
    rw [w64 (by omega) (by omega)]
    refine ev_to hr ?_
    simp only [Option.all_some,decide_eq_true h6,decide_eq_true h1,decide_eq_false h2,decide_eq_true h3,Bool.true_and,Bool.not_false]
  ·have h0:i=0:=by omega
   have hp:pvN l i=none:=by rw [h0];rfl
   rw [hp,w64 (by omega) (by omega)]
   refine ev_to hr ?_
   simp only [Option.all_none,decide_eq_true h1,decide_eq_false h2,decide_eq_true h3,Bool.true_and,Bool.not_false]
theorem impl_nearOk_ev (q0 q1 ow q3 q4 q6:Int) (q7:Bool) (l:List S127) (hl:l.length≤9223372036854775807):Ev (fun k=> impl_nearOk.f k q0 q1 ow q3 q4 l q6 q7) (nearB ow l):=
 impl_nearOk_l0_ev q0 q1 ow q3 q4 q6 q7 l hl l.length 0 (by omega)

-- impl_RecordOk
/-! impl_RecordOk -/
theorem impl_RecordOk_ev (ar ki ow ke se:Int) (l:List S127) (co:Int) (fa:Bool) (hl:l.length≤9223372036854775807):Ev (fun k=> impl_RecordOk.f k ar ki ow ke se l co fa) (recB ar ki ow ke se l co fa):=by
 have hj:∀b:Bool,Ev (fun k=> impl_RecordOk.j0 k b ar ki ow ke se l co fa) (!b && recK ar ki ow ke l co fa):=by
  intro b
  apply ev_succ
  simp only [impl_RecordOk.j0,impl_in_eq,Option.bind_some,decide_eq_true_eq]
  refine ev_ite (fun hb=> ev_some (by simp [hb])) (fun hb=> ?_)
  have hb':b=false:=by simpa using hb
  rw [hb']
  unfold recK
  refine ev_ite (fun h1=> ?_) (fun h1=> ?_)
  ·rw [if_pos h1]
   refine ev_ite (fun h2=> ?_) (fun h2=> ev_some (by simp [h2]))
   refine ev_ite (fun h3=> ?_) (fun h3=> ev_some (by simp [h3]))
   refine Ev.bind (impl_nearOk_ev ar ki ow ke se co fa l hl) ?_
   refine ev_ite (fun h4=> ?_) (fun h4=> ev_some (by simp [h4]))
   refine ev_ite (fun h5=> ev_some ?_) (fun h5=> ev_some (by simp [h5]))
   simp [h2,h3,h4,h5]
  ·rw [if_neg h1]
   refine ev_ite (fun h1=> ?_) (fun h1=> ?_)
   ·rw [if_pos h1]
    refine ev_ite (fun h2=> ?_) (fun h2=> ev_some (by simp [h2]))
    refine ev_ite (fun h3=> ?_) (fun h3=> ev_some (by simp [h3]))
    refine ev_ite (fun h4=> ?_) (fun h4=> ev_some ?_)
    ·have h4':l.length=0:=by omega
     refine ev_ite (fun h5=> ev_some ?_) (fun h5=> ev_some (by simp [h5]))
     simp [h2,h3,h4',h5]
    ·have h4':¬l.length=0:=by omega
     simp [h4']
   ·rw [if_neg h1]
    refine ev_ite (fun h1=> ?_) (fun h1=> ?_)
    ·rw [if_pos h1]
     refine ev_ite (fun h2=> ?_) (fun h2=> ev_some (by simp [h2]))
     refine ev_ite (fun h3=> ?_) (fun h3=> ev_some (by simp [h3]))
     refine ev_ite (fun h4=> ?_) (fun h4=> ev_some ?_)
     ·have h4':l.length=0:=by omega
      refine ev_ite (fun h5=> ev_some ?_) (fun h5=> ev_some ?_)
      ·simp [h2,h3,h4',h5]
      ·simp [h2,h3,h4',h5]
     ·have h4':¬l.length=0:=by omega
      simp [h4']
    ·rw [if_neg h1]
     exact ev_some (by simp)
 unfold impl_RecordOk.f
 simp only [impl_in_eq,Option.bind_some,decide_eq_true_eq]
 unfold recB
 refine ev_ite (fun h1=> ?_) (fun h1=> ?_)
 ·exact ev_to (hj _) (by simp [h1])
 ·exact ev_to (hj _) (by simp [h1])

theorem impl_StoreOk_l0_ev (l:List S61) (hl:Lens l) (d:Nat):∀i:Nat,i+d=l.length→
  Ev (fun k=> impl_StoreOk.l0 k l l (l.length:Int) i) (decide (l.length≤150) && storeGo (pvR l i) (l.drop i)):=by
 have hl1:=hl.1
 induction d with
 | zero=>
  intro i hi
  rw [List.drop_eq_nil_of_le (by omega)]
  apply ev_succ
  simp only [impl_StoreOk.l0]
  exact ev_neg (by omega) (ev_some (by rw [storeGo,Bool.and_true];by_cases h:l.length≤150 <;> simp [h] <;> omega))
 | succ d ih=>
  intro i hi
  have hr:=ih (i+1) (by omega)
  obtain ⟨x,hx⟩:∃x,rd_T61 l (i:Int)=x:=⟨_,rfl⟩
  have hx2:l.getD i z61=x:=hx
  have hm:x∈l:=by rw [←hx2];exact getD_mem l _ i (by omega)
  have hn:=hl.2 x hm;rw [pvR_succ,hx2] at hr
  rw [drop_at l z61 i (by omega),hx2,storeGo]
  apply ev_succ
  simp only [impl_StoreOk.l0,hx]
  rw [w64 (x:=(i:Int)+1) (by omega) (by omega)]
  refine ev_pos (by omega) (ev_pos (by omega) (ev_pos (by omega) ?_))
  refine Ev.bind (impl_RecordOk_ev x.f0 x.f1 x.f2 x.f3 x.f4 x.f5 x.f6 x.f7 (by omega)) ?_
  have hrec:recB x.f0 x.f1 x.f2 x.f3 x.f4 x.f5 x.f6 x.f7=recR x:=rfl
  rw [hrec]
  refine ev_ite (fun h1=> ?_) (fun h1=> ev_some (by simp [h1]))
  refine ev_ite (fun h2=> ?_) (fun h2=> ?_)
  ·have h0:0<i:=by omega
   have hp:pvR l i=some (l.getD (i-1) z61):=by unfold pvR;rw [if_neg (by omega)]
   rw [hp]
   simp only [rdRp l i h0 (by omega),impl_Before_eq,Option.bind_some]
   refine ev_pos (by rw [w64 (by omega) (by omega)];omega) (ev_pos (by rw [w64 (by omega) (by omega)];omega) ?_)
   refine ev_ite (fun h3=> ?_) (fun h3=> ev_some ?_)
   ·refine ev_to hr ?_
    simp only [Option.all_some,h1,h3,Bool.true_and]
   ·have h3':beforeB (l.getD (i-1) z61) x=false:=by simpa using h3
    simp only [Option.all_some,h3',Bool.and_false,Bool.false_and]
  ·have h0:i=0:=by omega
   have hp:pvR l i=none:=by rw [h0];rfl
   rw [hp]
   refine ev_to hr ?_
   simp [h1]
theorem impl_StoreOk_ev (l:List S61) (hl:Lens l):Ev (fun k=> impl_StoreOk.f k l) (storeB l):=
 impl_StoreOk_l0_ev l hl l.length 0 (by omega)

/-- Is this the link? -/
def hitL (a b ar:Int) (x:S93):Bool:=decide (x.f3=ar) && (decide (x.f0=a∧x.f1=b) || decide (x.f0=b∧x.f1=a))
theorem hitL_iff (a b ar:Int) (x:S93):hitL a b ar x=true↔(x.f3=ar∧(x.f0=a∧x.f1=b∨x.f0=b∧x.f1=a)):=by
 unfold hitL
 simp
def costGo (a b ar:Int):List S93→Int
 | []=> 0
 | x::xs=> if hitL a b ar x=true then x.f2 else costGo a b ar xs
def atGo (a b ar:Int):List S93→Int→Int
 | [],_=> -1
 | x::xs,i=> if hitL a b ar x=true then i else atGo a b ar xs (i+1)
theorem atGo_cost (a b ar:Int) (xs:List S93):∀i:Nat,(atGo a b ar xs i= -1∧costGo a b ar xs=0∧∀x∈xs,hitL a b ar x=false)∨(∃j:Nat,j<xs.length∧atGo a b ar xs i=i+j∧costGo a b ar xs=(xs.getD j z93).f2∧hitL a b ar (xs.getD j z93)=true):=by
 induction xs with
 | nil=> intro i;exact .inl ⟨rfl,rfl,by simp⟩
 | cons x xs ih=>
  intro i
  by_cases h:hitL a b ar x=true
  ·refine .inr ⟨0,by simp,?_,?_,?_⟩
   ·rw [atGo,if_pos h];omega
   ·rw [costGo,if_pos h];rfl
   ·exact h
  ·rw [atGo,costGo,if_neg h,if_neg h]
   rcases ih (i+1) with ⟨h1,h2,h3⟩ | ⟨j,h1,h2,h3,h4⟩
   ·refine .inl ⟨h1,h2,fun y hy=> ?_⟩
    rcases List.mem_cons.1 hy with rfl | hy
    ·simpa using h
    ·exact h3 y hy
   ·refine .inr ⟨j+1,by simp only [List.length_cons];omega,?_,?_,?_⟩
    ·have h2':atGo a b ar xs ((i:Int)+1)=((i+1:Nat):Int)+j:=h2
     rw [h2'];omega
    ·rw [h3];rfl
    ·exact h4

theorem spec_CostTo_l0_ev (a b ar n:Int) (l:List S93) (m:List S102) (hl:l.length≤9223372036854775807) (d:Nat):∀i:Nat,i+d=l.length→
  Ev (fun k=> spec_CostTo.l0 k a b ar i n l m) (costGo a b ar (l.drop i)):=by
 induction d with
 | zero=>
  intro i hi
  rw [List.drop_eq_nil_of_le (by omega)]
  apply ev_succ
  simp only [spec_CostTo.l0]
  exact ev_neg (by omega) (ev_some rfl)
 | succ d ih=>
  intro i hi
  have hr:=ih (i+1) (by omega)
  obtain ⟨x,hx⟩:∃x,rd_T93 l (i:Int)=x:=⟨_,rfl⟩
  have hx2:l.getD i z93=x:=hx
  rw [drop_at l z93 i (by omega),hx2]
  apply ev_succ
  simp only [spec_CostTo.l0,hx]
  rw [w64 (by omega) (by omega),costGo]
  refine ev_pos (by omega) (ev_pos (by omega) ?_)
  have yes:hitL a b ar x=true→x.f2=(if hitL a b ar x=true then x.f2 else costGo a b ar (l.drop (i+1))):=fun h=> by rw [if_pos h]
  have no:¬hitL a b ar x=true→costGo a b ar (l.drop (i+1))=(if hitL a b ar x=true then x.f2 else costGo a b ar (l.drop (i+1))):=fun h=> by rw [if_neg h]
  repeat' (first | refine ev_ite (fun h=> ?_) (fun h=> ?_))
  all_goals (first | exact ev_some (yes ((hitL_iff a b ar x).2 (by omega))) | exact ev_to hr (no (fun hh=> by have:=(hitL_iff a b ar x).1 hh;omega)))
theorem spec_CostTo_ev (n:Int) (l:List S93) (m:List S102) (a b ar:Int) (hl:l.length≤9223372036854775807):Ev (fun k=> spec_CostTo.f k n l m a b ar) (costGo a b ar l):=
 spec_CostTo_l0_ev a b ar n l m hl l.length 0 (by omega)

theorem impl_linkAt_l0_ev (a b ar:Int) (l:List S93) (hl:l.length≤9223372036854775807) (d:Nat):∀i:Nat,i+d=l.length→
  Ev (fun k=> impl_linkAt.l0 k a b ar l (l.length:Int) i) (atGo a b ar (l.drop i) i):=by
 induction d with
 | zero=>
  intro i hi
  rw [List.drop_eq_nil_of_le (by omega)]
  apply ev_succ
  simp only [impl_linkAt.l0]
  exact ev_neg (by omega) (ev_some rfl)
 | succ d ih=>
  intro i hi
  have hr:Ev (fun k=> impl_linkAt.l0 k a b ar l (l.length:Int) ((i:Int)+1)) (atGo a b ar (l.drop (i+1)) ((i:Int)+1)):=ih (i+1) (by omega)
  obtain ⟨x,hx⟩:∃x,rd_T93 l (i:Int)=x:=⟨_,rfl⟩
  have hx2:l.getD i z93=x:=hx
  rw [drop_at l z93 i (by omega),hx2]
  apply ev_succ
  simp only [impl_linkAt.l0,hx]
  rw [w64 (by omega) (by omega),atGo]
  refine ev_pos (by omega) (ev_pos (by omega) (ev_pos (by omega) ?_))
  have yes:hitL a b ar x=true→(i:Int)=(if hitL a b ar x=true then (i:Int) else atGo a b ar (l.drop (i+1)) ((i:Int)+1)):=fun h=> by rw [if_pos h]
  have no:¬hitL a b ar x=true→atGo a b ar (l.drop (i+1)) ((i:Int)+1)=(if hitL a b ar x=true then (i:Int) else atGo a b ar (l.drop (i+1)) ((i:Int)+1)):=fun h=> by rw [if_neg h]
  repeat' (first | refine ev_ite (fun h=> ?_) (fun h=> ?_))
  all_goals (first | exact ev_some (yes ((hitL_iff a b ar x).2 (by omega))) | exact ev_to hr (no (fun hh=> by have:=(hitL_iff a b ar x).1 hh;omega)))
theorem impl_linkAt_ev (n:Int) (l:List S93) (m:List S102) (a b ar:Int) (hl:l.length≤9223372036854775807):Ev (fun k=> impl_linkAt.f k n l m a b ar) (atGo a b ar l 0):=
 impl_linkAt_l0_ev a b ar l hl l.length 0 (by omega)

/-- What is near, marked from m on. -/
def markN:List S127→Int→List S127
 | [],_=> []
 | _::xs,m=> ⟨m,m+1⟩::markN xs (m+2)
theorem rd_mid {α:Type} (p:List α) (x z:α) (r:List α) (i:Nat) (h:p.length=i):(p++x::r).getD i z=x:=by
 subst h
 simp
theorem laws_markNearS_l0 (xs:List S127):∀(p:List S127) (m:Int) (i:Nat),p.length=i→0≤m→m+2*(xs.length:Int)≤4611686018427387904→(i:Int)+xs.length≤4611686018427387904→
  Ev (fun k=> laws_markNearS.l0 k (p++xs) m i) (m+2*(xs.length:Int),p++markN xs m):=by
 induction xs with
 | nil=>
  intro p m i hp h0 h1 h2
  apply ev_succ
  simp only [laws_markNearS.l0]
  exact ev_neg (by simp;omega) (ev_some (by simp [markN]))
 | cons x xs ih=>
  intro p m i hp h0 h1 h2
  simp only [List.length_cons] at h1 h2
  have hr:=ih (p++[⟨m,m+1⟩]) (m+2) (i+1) (by simp [hp]) (by omega) (by omega) (by omega)
  apply ev_succ
  simp only [laws_markNearS.l0,Option.bind_some]
  refine ev_pos (by simp;omega) (ev_pos (by omega) ?_)
  rw [w64 (x:=m+1) (by omega) (by omega),w64 (x:=m+1+1) (by omega) (by omega),w64 (x:=(i:Int)+1) (by omega) (by omega),Int.toNat_natCast,set_mid _ _ _ _ i hp,set_mid _ _ _ _ i hp]
  have hrd:rd_T127 (p++(⟨m,(rd_T127 (p++x::xs) (i:Int)).f1⟩:S127)::xs) (i:Int)=⟨m,(rd_T127 (p++x::xs) (i:Int)).f1⟩:=rd_mid p _ _ xs i hp
  rw [hrd,show m+1+1=m+2 by omega]
  have e:p++[(⟨m,m+1⟩:S127)]++xs=p++(⟨m,m+1⟩:S127)::xs:=by simp
  rw [e] at hr
  refine ev_to hr ?_
  simp only [markN,List.append_assoc,List.cons_append,List.nil_append,List.length_cons,Prod.mk.injEq,and_true]
  push_cast
  omega
theorem laws_markNearS_ev (l:List S127) (m:Int) (h0:0≤m) (h1:m+2*(l.length:Int)≤4611686018427387904):
  Ev (fun k=> laws_markNearS.f k l m) (m+2*(l.length:Int),markN l m):=laws_markNearS_l0 l [] m 0 rfl h0 h1 (by omega)
theorem laws_heldNearS_l0 (xs:List S127):∀(p:List S127) (m:Int) (i:Nat),p.length=i→0≤m→m+2*(xs.length:Int)≤4611686018427387904→(i:Int)+xs.length≤4611686018427387904→
  Ev (fun k=> laws_heldNearS.l0 k (p++markN xs m) m i) (m+2*(xs.length:Int)):=by
 induction xs with
 | nil=>
  intro p m i hp h0 h1 h2
  apply ev_succ
  simp only [laws_heldNearS.l0]
  exact ev_neg (by simp [markN];omega) (ev_some (by simp))
 | cons x xs ih=>
  intro p m i hp h0 h1 h2
  simp only [List.length_cons] at h1 h2
  have hr:=ih (p++[⟨m,m+1⟩]) (m+2) (i+1) (by simp [hp]) (by omega) (by omega) (by omega)
  have hrd:rd_T127 (p++(⟨m,m+1⟩:S127)::markN xs (m+2)) (i:Int)=⟨m,m+1⟩:=rd_mid p _ _ _ i hp
  apply ev_succ
  simp only [laws_heldNearS.l0,markN,hrd]
  refine ev_pos (by simp;omega) (ev_pos (by omega) (ev_pos (by trivial) ?_))
  rw [w64 (x:=m+1) (by omega) (by omega),w64 (x:=m+1+1) (by omega) (by omega),w64 (x:=(i:Int)+1) (by omega) (by omega),show m+1+1=m+2 by omega]
  have e:p++[(⟨m,m+1⟩:S127)]++markN xs (m+2)=p++(⟨m,m+1⟩:S127)::markN xs (m+2):=by simp
  rw [e] at hr
  refine ev_pos rfl (ev_to hr ?_)
  simp only [List.length_cons]
  push_cast
  omega
theorem laws_heldNearS_ev (l:List S127) (m:Int) (h0:0≤m) (h1:m+2*(l.length:Int)≤4611686018427387904):
  Ev (fun k=> laws_heldNearS.f k (markN l m) m) (m+2*(l.length:Int)):=laws_heldNearS_l0 l [] m 0 rfl h0 h1 (by omega)

/-- Where the marks of records end, and the records marked. -/
def endR:List S61→Int→Int
 | [],m=> m
 | x::xs,m=> endR xs (m+7+2*(x.f5.length:Int))
def markR:List S61→Int→List S61
 | [],_=> []
 | x::xs,m=> ⟨m,m+1,m+2,m+3,m+4,markN x.f5 (m+5),m+5+2*(x.f5.length:Int),Int.tmod (m+6+2*(x.f5.length:Int)) 3==0⟩::markR xs (m+7+2*(x.f5.length:Int))
def Small (s:List S61):Prop:=s.length≤8388608∧∀x∈s,x.f5.length≤1048576
theorem Small.lens {s:List S61} (h:Small s):Lens s:=⟨by have:=h.1;omega,fun x hx=> by have:=h.2 x hx;omega⟩
theorem toRecL_small (l:List S57) (hl:l.length≤1048576) (hx:∀x∈l,x.f5.length≤1048576):Small (toRecL l):=by
 refine ⟨by rw [toRecL_len];omega,fun x h=> ?_⟩
 obtain ⟨y,hy,rfl⟩:=List.mem_map.1 h
 have:=hx y hy
 simp only [toRec1,toNearL_len]
 omega
theorem endR_ge (xs:List S61):∀m,m≤endR xs m:=by
 induction xs with
 | nil=> intro m;exact Int.le_refl _
 | cons x xs ih=> intro m;have:=ih (m+7+2*(x.f5.length:Int));simp only [endR];omega
theorem endR_le (xs:List S61):∀m,(∀x∈xs,x.f5.length≤1048576)→endR xs m≤m+2097159*(xs.length:Int):=by
 induction xs with
 | nil=> intro m _;simp [endR]
 | cons x xs ih=>
  intro m h
  have h1:=h x (by simp)
  have:=ih (m+7+2*(x.f5.length:Int)) (fun y hy=> h y (by simp [hy]))
  simp only [endR,List.length_cons]
  push_cast
  omega
theorem Small.end {s:List S61} (h:Small s) {m:Int} (hm:m≤1000000000000000):endR s m≤100000000000000000:=by
 have:=endR_le s m h.2
 have:=h.1
 omega
theorem laws_markRecordS_l0 (xs:List S61):∀(p:List S61) (m:Int) (i:Nat),p.length=i→0≤m→endR xs m≤4611686018427387000→(i:Int)+xs.length≤4611686018427387904→
  Ev (fun k=> laws_markRecordS.l0 k (p++xs) m i) (endR xs m,p++markR xs m):=by
 induction xs with
 | nil=>
  intro p m i hp h0 h1 h2
  apply ev_succ
  simp only [laws_markRecordS.l0]
  exact ev_neg (by simp;omega) (ev_some (by simp [markR,endR]))
 | cons x xs ih=>
  intro p m i hp h0 h1 h2
  simp only [List.length_cons,endR] at h1 h2
  have hg:=endR_ge xs (m+7+2*(x.f5.length:Int))
  have hrd:rd_T61 (p++x::xs) (i:Int)=x:=rd_mid p _ _ xs i hp
  have hw1:wrap64 (m+1)=m+1:=w64 (by omega) (by omega)
  have hw2:wrap64 (m+1+1)=m+2:=by rw [w64 (by omega) (by omega)];omega
  have hw3:wrap64 (m+2+1)=m+3:=by rw [w64 (by omega) (by omega)];omega
  have hw4:wrap64 (m+3+1)=m+4:=by rw [w64 (by omega) (by omega)];omega
  have hw5:wrap64 (m+4+1)=m+5:=by rw [w64 (by omega) (by omega)];omega
  have hw6:wrap64 (m+5+2*(x.f5.length:Int)+1)=m+6+2*(x.f5.length:Int):=by rw [w64 (by omega) (by omega)];omega
  have hw7:wrap64 (m+6+2*(x.f5.length:Int)+1)=m+7+2*(x.f5.length:Int):=by rw [w64 (by omega) (by omega)];omega
  have hr:=ih (p++[⟨m,m+1,m+2,m+3,m+4,markN x.f5 (m+5),m+5+2*(x.f5.length:Int),Int.tmod (m+6+2*(x.f5.length:Int)) 3==0⟩]) (m+7+2*(x.f5.length:Int)) (i+1) (by simp [hp]) (by omega) h1 (by omega)
  apply ev_succ
  simp only [laws_markRecordS.l0,hrd,hw1,hw2,hw3,hw4,hw5]
  refine ev_pos (by simp;omega) (ev_pos (by omega) (Ev.bind (laws_markNearS_ev x.f5 (m+5) (by omega) (by omega)) ?_))
  simp only [hw6,hw7]
  rw [w64 (x:=(i:Int)+1) (by omega) (by omega),Int.toNat_natCast,set_mid _ _ _ _ i hp]
  simp only [List.append_assoc,List.cons_append,List.nil_append] at hr
  exact ev_to hr rfl
theorem laws_markRecordS_ev (l:List S61) (m:Int) (hs:Small l) (h0:0≤m) (h1:m≤1000000000000000):
  Ev (fun k=> laws_markRecordS.f k l m) (endR l m,markR l m):=laws_markRecordS_l0 l [] m 0 rfl h0 (by have:=hs.end h1;omega) (by have:=hs.1;omega)
theorem laws_heldRecordS_l0 (xs:List S61):∀(p:List S61) (m:Int) (i:Nat),p.length=i→0≤m→endR xs m≤4611686018427387000→(i:Int)+xs.length≤4611686018427387904→
  Ev (fun k=> laws_heldRecordS.l0 k (p++markR xs m) m i) (endR xs m):=by
 induction xs with
 | nil=>
  intro p m i hp h0 h1 h2
  apply ev_succ
  simp only [laws_heldRecordS.l0]
  exact ev_neg (by simp [markR];omega) (ev_some (by simp [endR]))
 | cons x xs ih=>
  intro p m i hp h0 h1 h2
  simp only [List.length_cons,endR] at h1 h2
  have hg:=endR_ge xs (m+7+2*(x.f5.length:Int))
  have hw1:wrap64 (m+1)=m+1:=w64 (by omega) (by omega)
  have hw2:wrap64 (m+1+1)=m+2:=by rw [w64 (by omega) (by omega)];omega
  have hw3:wrap64 (m+2+1)=m+3:=by rw [w64 (by omega) (by omega)];omega
  have hw4:wrap64 (m+3+1)=m+4:=by rw [w64 (by omega) (by omega)];omega
  have hw5:wrap64 (m+4+1)=m+5:=by rw [w64 (by omega) (by omega)];omega
  have hw6:wrap64 (m+5+2*(x.f5.length:Int)+1)=m+6+2*(x.f5.length:Int):=by rw [w64 (by omega) (by omega)];omega
  have hw7:wrap64 (m+6+2*(x.f5.length:Int)+1)=m+7+2*(x.f5.length:Int):=by rw [w64 (by omega) (by omega)];omega
  have hr:=ih (p++[⟨m,m+1,m+2,m+3,m+4,markN x.f5 (m+5),m+5+2*(x.f5.length:Int),Int.tmod (m+6+2*(x.f5.length:Int)) 3==0⟩]) (m+7+2*(x.f5.length:Int)) (i+1) (by simp [hp]) (by omega) h1 (by omega)
  have hrd:rd_T61 (p++(⟨m,m+1,m+2,m+3,m+4,markN x.f5 (m+5),m+5+2*(x.f5.length:Int),Int.tmod (m+6+2*(x.f5.length:Int)) 3==0⟩:S61)::markR xs (m+7+2*(x.f5.length:Int))) (i:Int)=⟨m,m+1,m+2,m+3,m+4,markN x.f5 (m+5),m+5+2*(x.f5.length:Int),Int.tmod (m+6+2*(x.f5.length:Int)) 3==0⟩:=rd_mid p _ _ _ i hp
  apply ev_succ
  simp only [laws_heldRecordS.l0,markR,hrd,hw1,hw2,hw3,hw4,hw5]
  refine ev_pos (by simp;omega) (ev_pos (by omega) (ev_pos (by trivial) (ev_pos (by trivial) (ev_pos (by trivial) (ev_pos (by trivial) (ev_pos (by trivial) (Ev.bind (laws_heldNearS_ev x.f5 (m+5) (by omega) (by omega)) ?_)))))))
  simp only [hw6,hw7]
  rw [w64 (x:=(i:Int)+1) (by omega) (by omega)]
  simp only [List.append_assoc,List.cons_append,List.nil_append] at hr
  exact ev_neg (by omega) (ev_pos (by trivial) (ev_neg (by simp) (ev_to hr rfl)))
theorem laws_heldRecordS_ev (l:List S61) (m:Int) (hs:Small l) (h0:0≤m) (h1:m≤1000000000000000):
  Ev (fun k=> laws_heldRecordS.f k (markR l m) m) (endR l m):=laws_heldRecordS_l0 l [] m 0 rfl h0 (by have:=hs.end h1;omega) (by have:=hs.1;omega)

def h2Go (c:Int→Int→Bool):Option (Int×Int)→List Int→Bool
 | p,a::b::xs=> c a b && p.all (fun q=> decide (q.1<a∨q.1=a∧q.2<b)) && h2Go c (some (a,b)) xs
 | _,_=> true
def linkB (id:Int) (l:List S93) (v ar:Int):Bool:=decide (0≤atGo id v ar l 0)
def pvP (l:List Int) (i:Nat):Option (Int×Int):=if i=0 then none else some (l.getD (i-2) 0,l.getD (i-1) 0)
theorem pvP_succ (l:List Int) (i:Nat):pvP l (i+2)=some (l.getD i 0,l.getD (i+1) 0):=by simp [pvP]
theorem linksGo_all {n:Int} (l:List S93):∀p,linksGo n p l=true→∀x∈l,okLink n x=true:=by
 induction l with
 | nil=> intro p _ x hx;cases hx
 | cons y ys ih=>
  intro p h x hx
  simp only [linksGo,Bool.and_eq_true] at h
  rcases List.mem_cons.1 hx with rfl | hx
  ·exact h.1.1
  ·exact ih _ h.2 x hx
theorem linkB_cost {n:Int} (id:Int) (l:List S93) (hok:∀x∈l,okLink n x=true) (v ar:Int):
  (costGo id v ar l=0↔linkB id l v ar=false)∧(linkB id l v ar=true→1≤v∧v≤6∧0≤ar∧ar≤2):=by
 have h:=atGo_cost id v ar l 0
 rw [show ((0:Nat):Int)=0 from rfl] at h
 unfold linkB
 rcases h with ⟨h1,h2,_⟩ | ⟨j,hj,h1,h2,h3⟩
 ·rw [h1,h2]
  exact ⟨by simp,by simp⟩
 ·have hm:l.getD j z93∈l:=getD_mem l _ j hj
  have hk:=hok _ hm;rw [hitL_iff] at h3
  simp only [okLink,Bool.and_eq_true,decide_eq_true_eq] at hk
  rw [h1,h2]
  refine ⟨?_,fun _=> by omega⟩
  rw [decide_eq_false_iff_not]
  omega
theorem h2Go_len (c:Int→Int→Bool) (hc:∀v ar,c v ar=true→1≤v∧v≤6∧0≤ar∧ar≤2) (d:Nat):∀(hd:List Int) (p:Option (Int×Int)),hd.length=2*d→h2Go c p hd=true→
  (∀q,p=some q→q.2≤2∧3*q.1+q.2≤20)→(∀q,p=some q→3*q.1+q.2+d≤20)∧d≤18:=by
 induction d with
 | zero=> intro hd p _ _ hq;exact ⟨fun q h=> by have:=hq q h;omega,by omega⟩
 | succ d ih=>
  intro hd p hl h hq
  match hd,hl,h with
  | a::b::xs,hl,h=>
   simp only [h2Go,Bool.and_eq_true] at h
   obtain ⟨⟨h1,h2⟩,h3⟩:=h;have h4:=hc a b h1
   simp only [List.length_cons] at hl
   have h5:=ih xs (some (a,b)) (by omega) h3 (fun q hq=> by cases hq;exact ⟨by omega,by simp only;omega⟩)
   have h6:=h5.1 (a,b) rfl
   simp only at h6
   refine ⟨fun q hpq=> ?_,by omega⟩
   subst hpq;have h7:=hq q rfl
   simp only [Option.all_some,decide_eq_true_eq] at h2
   omega
theorem heard_loop_spec {n:Int} (id bt:Int) (l:List S93) (m:List S102) (hd:List Int) (st:List S61) (hl:l.length≤9223372036854775807) (hh:hd.length≤9223372036854775000) (hok:∀x∈l,okLink n x=true) (d:Nat):∀i:Nat,i+2*d=hd.length→(i=0∨2≤i)→
  Ev (fun k=> spec_l08Heard.l0 k i id bt n l m hd st) (h2Go (linkB id l) (pvP hd i) (hd.drop i)):=by
 induction d with
 | zero=>
  intro i hi h0
  rw [List.drop_eq_nil_of_le (by omega)]
  apply ev_succ
  simp only [spec_l08Heard.l0]
  exact ev_neg (by omega) (ev_some (by simp [h2Go]))
 | succ d ih=>
  intro i hi h0
  have hr:=ih (i+2) (by omega) (by omega)
  have hC:=(linkB_cost id l hok (hd.getD i 0) (hd.getD (i+1) 0)).1
  have w1:wrap64 ((i:Int)+1)=((i+1:Nat):Int):=by rw [w64 (by omega) (by omega)];omega
  have w2:wrap64 ((i:Int)+2)=((i+2:Nat):Int):=by rw [w64 (by omega) (by omega)];omega
  have r0:rd hd (i:Int)=hd.getD i 0:=rfl
  have r1:rd hd ((i+1:Nat):Int)=hd.getD (i+1) 0:=rfl
  rw [pvP_succ] at hr
  rw [drop_at hd 0 i (by omega),drop_at hd 0 (i+1) (by omega)]
  generalize hd.getD i 0=a at*
  generalize hd.getD (i+1) 0=b at*
  apply ev_succ
  simp only [spec_l08Heard.l0,h2Go]
  rw [w1,w2]
  simp only [r0,r1]
  refine ev_pos (by omega) (ev_pos (by omega) (ev_pos (by omega) (ev_pos (by omega) (Ev.bind (spec_CostTo_ev n l m id a b hl) ?_))))
  refine ev_ite (fun h1=> ev_some (by rw [hC.1 h1];rfl)) (fun h1=> ?_)
  have hc:linkB id l a b=true:=by
   rw [←Bool.not_eq_false]
   exact fun h=> h1 (hC.2 h)
  rw [hc,Bool.true_and]
  refine ev_ite (fun h2=> ?_) (fun h2=> ?_)
  ·have hp:pvP hd i=some (hd.getD (i-2) 0,hd.getD (i-1) 0):=by unfold pvP;rw [if_neg (by omega)]
   have w3:wrap64 ((i:Int)-2)=((i-2:Nat):Int):=by rw [w64 (by omega) (by omega)];omega
   have w4:wrap64 ((i:Int)-1)=((i-1:Nat):Int):=by rw [w64 (by omega) (by omega)];omega
   have r3:rd hd ((i-2:Nat):Int)=hd.getD (i-2) 0:=rfl
   have r4:rd hd ((i-1:Nat):Int)=hd.getD (i-1) 0:=rfl
   rw [hp,w3,w4]
   simp only [r3,r4,Option.all_some]
   refine ev_pos (by omega) (ev_pos (by omega) (ev_ite (fun h3=> ev_some ?_) (fun h3=> ev_ite (fun h4=> ev_pos (by omega) (ev_pos (by omega) (ev_ite (fun h5=> ev_some ?_) (fun h5=> ev_to hr ?_)))) (fun h4=> ev_to hr ?_))))
   ·rw [decide_eq_false (by omega)];rfl
   ·rw [decide_eq_false (by omega)];rfl
   ·rw [decide_eq_true (by omega),Bool.true_and]
   ·rw [decide_eq_true (by omega),Bool.true_and]
  ·have hp:pvP hd i=none:=by unfold pvP;rw [if_pos (by omega)]
   rw [hp]
   exact ev_to hr rfl
theorem heard_loop_impl {n:Int} (id bt:Int) (l:List S93) (m:List S102) (hd:List Int) (st:List S61) (hl:l.length≤9223372036854775807) (hh:hd.length≤9223372036854775000) (d:Nat):∀i:Nat,i+2*d=hd.length→(i=0∨2≤i)→
  Ev (fun k=> impl_heardOk.l0 k i id bt n l m hd st) (h2Go (linkB id l) (pvP hd i) (hd.drop i)):=by
 induction d with
 | zero=>
  intro i hi h0
  rw [List.drop_eq_nil_of_le (by omega)]
  apply ev_succ
  simp only [impl_heardOk.l0]
  exact ev_neg (by omega) (ev_some (by simp [h2Go]))
 | succ d ih=>
  intro i hi h0
  have hr:=ih (i+2) (by omega) (by omega)
  have w1:wrap64 ((i:Int)+1)=((i+1:Nat):Int):=by rw [w64 (by omega) (by omega)];omega
  have w2:wrap64 ((i:Int)+2)=((i+2:Nat):Int):=by rw [w64 (by omega) (by omega)];omega
  have r0:rd hd (i:Int)=hd.getD i 0:=rfl
  have r1:rd hd ((i+1:Nat):Int)=hd.getD (i+1) 0:=rfl
  rw [pvP_succ] at hr
  rw [drop_at hd 0 i (by omega),drop_at hd 0 (i+1) (by omega)]
  generalize hd.getD i 0=a at*
  generalize hd.getD (i+1) 0=b at*
  apply ev_succ
  simp only [impl_heardOk.l0,h2Go]
  rw [w1,w2]
  simp only [r0,r1]
  refine ev_pos (by omega) (ev_pos (by omega) (ev_pos (by omega) (ev_pos (by omega) (Ev.bind (impl_linkAt_ev n l m id a b hl) ?_))))
  refine ev_ite (fun h1=> ev_some (by rw [linkB,decide_eq_false (by omega)];rfl)) (fun h1=> ?_)
  have hc:linkB id l a b=true:=by rw [linkB,decide_eq_true_eq];omega
  rw [hc,Bool.true_and]
  refine ev_ite (fun h2=> ?_) (fun h2=> ?_)
  ·have hp:pvP hd i=some (hd.getD (i-2) 0,hd.getD (i-1) 0):=by unfold pvP;rw [if_neg (by omega)]
   have w3:wrap64 ((i:Int)-2)=((i-2:Nat):Int):=by rw [w64 (by omega) (by omega)];omega
   have w4:wrap64 ((i:Int)-1)=((i-1:Nat):Int):=by rw [w64 (by omega) (by omega)];omega
   have r3:rd hd ((i-2:Nat):Int)=hd.getD (i-2) 0:=rfl
   have r4:rd hd ((i-1:Nat):Int)=hd.getD (i-1) 0:=rfl
   rw [hp,w3,w4]
   simp only [r3,r4,Option.all_some]
   refine ev_pos (by omega) (ev_pos (by omega) (ev_ite (fun h3=> ev_some ?_) (fun h3=> ev_ite (fun h4=> ev_pos (by omega) (ev_pos (by omega) (ev_ite (fun h5=> ev_some ?_) (fun h5=> ev_to hr ?_)))) (fun h4=> ev_to hr ?_))))
   ·rw [decide_eq_false (by omega)];rfl
   ·rw [decide_eq_false (by omega)];rfl
   ·rw [decide_eq_true (by omega),Bool.true_and]
   ·rw [decide_eq_true (by omega),Bool.true_and]
  ·have hp:pvP hd i=none:=by unfold pvP;rw [if_pos (by omega)]
   rw [hp]
   exact ev_to hr rfl
def heardSB (id:Int) (l:List S93) (hd:List Int):Bool:=decide (hd.length % 2=0) && h2Go (linkB id l) none hd
theorem spec_l08Heard_ev {n:Int} (id bt:Int) (l:List S93) (m:List S102) (hd:List Int) (st:List S61) (hl:l.length≤9223372036854775807) (hh:hd.length≤9223372036854775000) (hok:∀x∈l,okLink n x=true):
  Ev (fun k=> spec_l08Heard.f k id bt n l m hd st) (heardSB id l hd):=by
 unfold spec_l08Heard.f heardSB
 refine ev_ite (fun h1=> ev_succ ?_) (fun h1=> ev_succ ?_)
 ·simp only [spec_l08Heard.j0]
  exact ev_pos trivial (ev_some (by rw [decide_eq_false (by omega)];rfl))
 ·simp only [spec_l08Heard.j0]
  have h2:hd.length % 2=0:=by omega
  rw [decide_eq_true h2,Bool.true_and]
  refine ev_ite (fun h3=> ev_some ?_) (fun h3=> ?_)
  ·rw [decide_eq_true_eq] at h3
   symm
   rw [←Bool.not_eq_true]
   intro h4
   have h5:=(h2Go_len (linkB id l) (fun v ar=> (linkB_cost id l hok v ar).2) (hd.length / 2) hd none (by omega) h4 (fun q hq=> by cases hq)).2
   omega
  ·exact heard_loop_spec id bt l m hd st hl hh hok (hd.length / 2) 0 (by omega) (Or.inl rfl)
theorem impl_heardOk_ev {n:Int} (id bt:Int) (l:List S93) (m:List S102) (hd:List Int) (st:List S61) (hl:l.length≤9223372036854775807) (hh:hd.length≤9223372036854775000):
  Ev (fun k=> impl_heardOk.f k id bt n l m hd st) (heardSB id l hd):=by
 unfold impl_heardOk.f heardSB
 refine ev_ite (fun h1=> ?_) (fun h1=> ev_some (by rw [decide_eq_false (by omega)];rfl))
 rw [decide_eq_true (show hd.length % 2=0 by omega),Bool.true_and]
 exact heard_loop_impl id bt l m hd st hl hh (hd.length / 2) 0 (by omega) (Or.inl rfl)
def selfB (id bt n:Int) (l:List S93) (m:List S102) (hd:List Int) (st:List S61):Bool:=
 netB n l m && (decide (1≤id∧id≤n) && (decide (0≤bt∧bt≤90) && (heardSB id l hd && storeB st)))
theorem netB_links {n:Int} {l:List S93} {m:List S102} (h:netB n l m=true):∀x∈l,okLink n x=true:=by
 simp only [netB,Bool.and_eq_true] at h
 exact linksGo_all l none h.2.1
theorem spec_SelfOk_ev (id bt n:Int) (l:List S93) (m:List S102) (hd:List Int) (st:List S61) (hl:l.length≤9223372036854775000) (hm:m.length≤9223372036854775000) (hh:hd.length≤9223372036854775000) (hs:Lens st):
  Ev (fun k=> spec_SelfOk.f k id bt n l m hd st) (selfB id bt n l m hd st):=by
 unfold spec_SelfOk.f selfB
 refine Ev.bind (spec_NetOk_ev n l m hl hm) (ev_ite (fun h0=> ?_) (fun h1=> ev_some (by rw [Bool.eq_false_iff.2 h1];rfl)))
 rw [h0,Bool.true_and]
 simp only [spec_l01In_eq,Option.bind_some]
 refine ev_ite (fun h1=> ?_) (fun h1=> ev_some (by rw [Bool.eq_false_iff.2 h1];rfl))
 rw [h1,Bool.true_and]
 refine ev_ite (fun h1=> ?_) (fun h1=> ev_some (by rw [Bool.eq_false_iff.2 h1];rfl))
 rw [h1,Bool.true_and]
 refine Ev.bind (spec_l08Heard_ev id bt l m hd st (by omega) hh (netB_links h0)) (ev_ite (fun h1=> ?_) (fun h1=> ev_some (by rw [Bool.eq_false_iff.2 h1];rfl)))
 rw [h1,Bool.true_and]
 exact Ev.bind (spec_StoreOk_ev st hs) (Ev.now _)
theorem impl_SelfOk_ev (id bt n:Int) (l:List S93) (m:List S102) (hd:List Int) (st:List S61) (hl:l.length≤9223372036854775000) (hm:m.length≤9223372036854775000) (hh:hd.length≤9223372036854775000) (hs:Lens st):
  Ev (fun k=> impl_SelfOk.f k id bt n l m hd st) (selfB id bt n l m hd st):=by
 unfold impl_SelfOk.f selfB
 refine Ev.bind (impl_NetOk_ev n l m hl hm) (ev_ite (fun h0=> ?_) (fun h1=> ev_some (by rw [Bool.eq_false_iff.2 h1];rfl)))
 rw [h0,Bool.true_and]
 simp only [impl_in_eq,Option.bind_some]
 refine ev_ite (fun h1=> ?_) (fun h1=> ev_some (by rw [Bool.eq_false_iff.2 h1];rfl))
 rw [h1,Bool.true_and]
 refine ev_ite (fun h1=> ?_) (fun h1=> ev_some (by rw [Bool.eq_false_iff.2 h1];rfl))
 rw [h1,Bool.true_and]
 refine Ev.bind (impl_heardOk_ev id bt l m hd st (by omega) hh) (ev_ite (fun h1=> ?_) (fun h1=> ev_some (by rw [Bool.eq_false_iff.2 h1];rfl)))
 rw [h1,Bool.true_and]
 exact Ev.bind (impl_StoreOk_ev st hs) (Ev.now _)

-- asc
/-! Records in the order of their keys. -/
def Asc (s:List S61):Prop:=s.Pairwise (fun a b=> beforeB a b=true)
theorem before_tri (a b:S61):beforeB a b=true∨sameKey a b=true∨beforeB b a=true:=by
 unfold beforeB sameKey
 simp only [decide_eq_true_eq]
 omega
theorem before_anti {a b:S61} (h:beforeB a b=true):beforeB b a=false∧sameKey a b=false∧sameKey b a=false:=by
 unfold beforeB sameKey at*
 simp only [decide_eq_true_eq,decide_eq_false_iff_not] at*
 omega
theorem before_trans {a b c:S61} (h:beforeB a b=true) (k:beforeB b c=true):beforeB a c=true:=by
 unfold beforeB at*
 simp only [decide_eq_true_eq] at*
 omega
theorem same_before {a b c:S61} (h:sameKey a b=true):(beforeB a c=true↔beforeB b c=true)∧(beforeB c a=true↔beforeB c b=true):=by
 unfold beforeB sameKey at*
 simp only [decide_eq_true_eq] at*
 omega
theorem same_not {a b:S61} (h:sameKey a b=true):beforeB a b=false∧beforeB b a=false:=by
 unfold beforeB sameKey at*
 simp only [decide_eq_true_eq,decide_eq_false_iff_not] at*
 omega
theorem storeGo_asc (xs:List S61):∀p:Option S61,storeGo p xs=true→(∀y,p=some y→∀x∈xs,beforeB y x=true)∧(∀x∈xs,recR x=true)∧Asc xs:=by
 induction xs with
 | nil=> intro p _;exact ⟨by simp,by simp,List.Pairwise.nil⟩
 | cons x xs ih=>
  intro p h
  rw [storeGo,Bool.and_eq_true,Bool.and_eq_true] at h;obtain ⟨⟨h1,h2⟩,h3⟩:=h;obtain ⟨h4,h5,h6⟩:=ih (some x) h3
  refine ⟨fun y hy z hz=> ?_,fun z hz=> ?_,List.pairwise_cons.2 ⟨h4 x rfl,h6⟩⟩
  ·subst hy
   have h2':beforeB y x=true:=by simpa using h2
   rcases List.mem_cons.1 hz with rfl | hz
   ·exact h2'
   ·exact before_trans h2' (h4 x rfl z hz)
  ·rcases List.mem_cons.1 hz with rfl | hz
   ·exact h1
   ·exact h5 z hz
theorem storeGo_of (xs:List S61):∀p:Option S61,(∀y,p=some y→∀x∈xs,beforeB y x=true)→(∀x∈xs,recR x=true)→Asc xs→storeGo p xs=true:=by
 induction xs with
 | nil=> intro p _ _ _;rfl
 | cons x xs ih=>
  intro p h1 h2 h3
  obtain ⟨h4,h5⟩:=List.pairwise_cons.1 h3
  rw [storeGo,h2 x (by simp),ih (some x) (fun y hy=> by injection hy with hy;subst hy;exact h4) (fun z hz=> h2 z (by simp [hz])) h5]
  cases p with
  | none=> rfl
  | some y=> simp [h1 y rfl x (by simp)]
theorem storeB_iff (s:List S61):storeB s=true↔s.length≤150∧(∀x∈s,recR x=true)∧Asc s:=by
 unfold storeB
 rw [Bool.and_eq_true,decide_eq_true_eq]
 constructor
 ·rintro ⟨h,k⟩
  exact ⟨h,(storeGo_asc s none k).2⟩
 ·rintro ⟨h,k,l⟩
  exact ⟨h,storeGo_of s none (fun y hy=> by cases hy) k l⟩
/-- A record in its place among those in order: those ahead of it, it, those behind it. -/
def putL (s:List S61) (r:S61):List S61:=s.filter (fun x=> beforeB x r)++r::s.filter (fun x=> beforeB r x)
def behind (r:S61):List S61→List S61
 | []=> []
 | x::xs=> if sameKey x r=true then xs else x::xs
theorem putL_split (p q:List S61) (r:S61) (hA:Asc (p++q)) (hp:∀x∈p,beforeB x r=true) (hq:∀x,q.head? =some x→beforeB x r=false):putL (p++q) r=p++r::behind r q:=by
 obtain ⟨h1,h2,h3⟩:=List.pairwise_append.1 hA
 have e1:p.filter (fun x=> beforeB x r)=p:=List.filter_eq_self.2 hp
 have e2:p.filter (fun x=> beforeB r x)=[]:=List.filter_eq_nil_iff.2 (fun x hx=> by rw [(before_anti (hp x hx)).1];exact Bool.false_ne_true)
 unfold putL
 rw [List.filter_append,List.filter_append,e1,e2,List.nil_append]
 cases q with
 | nil=> simp [behind]
 | cons x xs=>
  obtain ⟨h4,h5⟩:=List.pairwise_cons.1 h2;have hx:=hq x rfl
  have e3:(x::xs).filter (fun y=> beforeB y r)=[]:=List.filter_eq_nil_iff.2 (fun y hy=> by
   rcases List.mem_cons.1 hy with rfl | hy
   ·rw [hx];exact Bool.false_ne_true
   ·intro hc
    rw [before_trans (h4 y hy) hc] at hx
    cases hx)
  rw [e3,List.append_nil]
  simp only [behind]
  by_cases hk:sameKey x r=true
  ·rw [if_pos hk]
   have e4:xs.filter (fun y=> beforeB r y)=xs:=List.filter_eq_self.2 (fun y hy=> (same_before hk).1.1 (h4 y hy))
   rw [List.filter_cons_of_neg (by rw [(same_not hk).2];exact Bool.false_ne_true),e4]
  ·rw [if_neg hk]
   have hrx:beforeB r x=true:=by
    rcases before_tri x r with h | h | h
    ·rw [hx] at h;cases h
    ·exact absurd h hk
    ·exact h
   have e4:(x::xs).filter (fun y=> beforeB r y)=x::xs:=List.filter_eq_self.2 (fun y hy=> by
    rcases List.mem_cons.1 hy with rfl | hy
    ·exact hrx
    ·exact before_trans hrx (h4 y hy))
   rw [e4]
theorem mem_putL {s:List S61} {r x:S61} (h:x∈putL s r):x=r∨x∈s:=by
 unfold putL at h
 rcases List.mem_append.1 h with h | h
 ·exact .inr (List.mem_filter.1 h).1
 ·rcases List.mem_cons.1 h with h | h
  ·exact .inl h
  ·exact .inr (List.mem_filter.1 h).1
theorem putL_asc (s:List S61) (r:S61) (h:Asc s):Asc (putL s r):=by
 unfold putL
 refine List.pairwise_append.2 ⟨List.Pairwise.sublist List.filter_sublist h,List.pairwise_cons.2 ⟨fun x hx=> (List.mem_filter.1 hx).2,List.Pairwise.sublist List.filter_sublist h⟩,fun a ha b hb=> ?_⟩
 have h1:=(List.mem_filter.1 ha).2
 rcases List.mem_cons.1 hb with rfl | hb
 ·exact h1
 ·exact before_trans h1 (List.mem_filter.1 hb).2
theorem putL_length (s:List S61) (r:S61):(putL s r).length≤s.length+1∧((∃x∈s,sameKey x r=true)→(putL s r).length≤s.length):=by
 induction s with
 | nil=> exact ⟨by simp [putL],by simp⟩
 | cons y s ih=>
  obtain ⟨h1,h2⟩:=ih
  unfold putL at*
  simp only [List.length_append,List.length_cons,List.filter_cons] at*
  rcases before_tri y r with h | h | h
  ·obtain ⟨h3,h4,_⟩:=before_anti h
   rw [if_pos h,if_neg (by rw [h3];exact Bool.false_ne_true)]
   simp only [List.length_cons]
   refine ⟨by omega,fun ⟨x,hx,hk⟩=> ?_⟩
   rcases List.mem_cons.1 hx with rfl | hx
   ·rw [h4] at hk;cases hk
   ·have:=h2 ⟨x,hx,hk⟩;omega
  ·obtain ⟨h3,h4⟩:=same_not h
   rw [if_neg (by rw [h3];exact Bool.false_ne_true),if_neg (by rw [h4];exact Bool.false_ne_true)]
   exact ⟨by omega,fun _=> by omega⟩
  ·obtain ⟨h3,_,h4⟩:=before_anti h
   rw [if_neg (by rw [h3];exact Bool.false_ne_true),if_pos h]
   simp only [List.length_cons]
   refine ⟨by omega,fun ⟨x,hx,hk⟩=> ?_⟩
   rcases List.mem_cons.1 hx with rfl | hx
   ·rw [h4] at hk;cases hk
   ·have:=h2 ⟨x,hx,hk⟩;omega
/-- Is a record newer than what there is of its key, or is there room for it? -/
def newB (s:List S61) (r:S61):Bool:=if 0≤keyB s r then decide ((s.getD (keyB s r).toNat z61).f4<r.f4) else decide (s.length<150)
theorem newB_key {s:List S61} {r:S61} (h:0≤keyB s r):newB s r=decide ((s.getD (keyB s r).toNat z61).f4<r.f4):=by unfold newB;rw [if_pos h]
theorem newB_none {s:List S61} {r:S61} (h:¬0≤keyB s r):newB s r=decide (s.length<150):=by unfold newB;rw [if_neg h]
def instB (s:List S61) (r:S61):Bool:=recR r && newB s r
theorem putL_store {s:List S61} {r:S61} (hs:storeB s=true) (hr:instB s r=true):storeB (putL s r)=true:=by
 obtain ⟨h1,h2,h3⟩:=(storeB_iff s).1 hs;obtain ⟨h4,h5⟩:=(Bool.and_eq_true _ _).mp hr
 refine (storeB_iff _).2 ⟨?_,fun x hx=> ?_,putL_asc s r h3⟩
 ·obtain ⟨h6,h7⟩:=putL_length s r
  unfold newB at h5
  rcases keyB_cases s r with ⟨h8,_⟩ | ⟨j,h8,h9,h10,_⟩
  ·rw [if_neg (by omega),decide_eq_true_eq] at h5
   omega
  ·have:=h7 ⟨_,by
    rw [List.getD_eq_getElem?_getD,List.getElem?_eq_getElem h8] at h10
    exact List.getElem_mem h8,by
    rw [List.getD_eq_getElem?_getD,List.getElem?_eq_getElem h8] at h10
    exact h10⟩
   omega
 ·rcases mem_putL hx with rfl | hx
  ·exact h4
  ·exact h2 x hx

/-- Records put into a store, one behind the other, where each is newer; and those that were. -/
def learnL:List S61→List S61→List S61→List S61×List S61
 | s,f,[]=> (s,f)
 | s,f,r::t=> if instB s r=true then learnL (putL s r) (f++[r]) t else learnL s f t
theorem store_small {s:List S61} (h:storeB s=true) (hn:∀x∈s,x.f5.length≤1048576):Small s:=⟨by have:=((storeB_iff s).1 h).1;omega,hn⟩
theorem putL_near {s:List S61} {r:S61} (hn:∀x∈s,x.f5.length≤1048576) (hr:r.f5.length≤1048576):∀x∈putL s r,x.f5.length≤1048576:=by
 intro x hx
 rcases mem_putL hx with rfl | hx
 ·exact hr
 ·exact hn x hx
theorem learnL_small (t:List S61):∀s f,storeB s=true→(∀x∈s,x.f5.length≤1048576)→(∀x∈t,x.f5.length≤1048576)→(∀x∈f,x.f5.length≤1048576)→
  storeB (learnL s f t).1=true∧Small (learnL s f t).1∧(learnL s f t).2.length≤f.length+t.length∧∀x∈(learnL s f t).2,x.f5.length≤1048576:=by
 induction t with
 | nil=> intro s f h1 h2 _ h4;exact ⟨h1,store_small h1 h2,by simp [learnL],h4⟩
 | cons r t ih=>
  intro s f h1 h2 h3 h4
  have hr:=h3 r (by simp)
  have ht:∀x∈t,x.f5.length≤1048576:=fun x hx=> h3 x (by simp [hx])
  rw [learnL]
  by_cases hi:instB s r=true
  ·rw [if_pos hi]
   obtain ⟨a,b,c,d⟩:=ih (putL s r) (f++[r]) (putL_store h1 hi) (putL_near h2 hr) ht (fun x hx=> by
    rcases List.mem_append.1 hx with hx | hx
    ·exact h4 x hx
    ·rw [List.mem_singleton] at hx;rw [hx];exact hr)
   refine ⟨a,b,?_,d⟩
   simp only [List.length_append,List.length_cons,List.length_nil] at c ⊢
   omega
  ·rw [if_neg hi]
   obtain ⟨a,b,c,d⟩:=ih s f h1 h2 ht h4
   exact ⟨a,b,by simp only [List.length_cons];omega,d⟩
theorem impl_copyRecord_eq (x:S61) (h:x.f5.length≤1048576):impl_copyRecord.f x.f0 x.f1 x.f2 x.f3 x.f4 x.f5 x.f6 x.f7=some (x.f0,x.f1,x.f2,x.f3,x.f4,x.f5,x.f6,x.f7):=by
 unfold impl_copyRecord.f
 rw [if_pos (by simp;omega)]
 simp

theorem spec_l04Copy_eq (x:S61) (h:x.f5.length≤1048576):spec_l04Copy.f x.f0 x.f1 x.f2 x.f3 x.f4 x.f5 x.f6 x.f7=some (x.f0,x.f1,x.f2,x.f3,x.f4,x.f5,x.f6,x.f7):=by
 unfold spec_l04Copy.f
 simp only [Option.bind_some]
 rw [if_pos (by simp;omega)]
 simp

theorem impl_copyRecords_l0_ev (l:List S61) (hs:Small l) (d:Nat):∀(i:Nat) (acc:List S61),i+d=l.length→acc.length≤i→
  Ev (fun k=> impl_copyRecords.l0 k acc l (l.length:Int) i) (acc++l.drop i):=by
 have hl1:=hs.1
 induction d with
 | zero=>
  intro i acc hi ha
  rw [List.drop_eq_nil_of_le (by omega)]
  apply ev_succ
  simp only [impl_copyRecords.l0]
  exact ev_neg (by omega) (ev_some (by simp))
 | succ d ih=>
  intro i acc hi ha
  obtain ⟨x,hx⟩:∃x,rd_T61 l (i:Int)=x:=⟨_,rfl⟩
  have hx2:l.getD i z61=x:=hx
  have hm:x∈l:=by rw [←hx2];exact getD_mem l _ i (by omega)
  have hn:=hs.2 x hm
  have hr1:=ih (i+1) (acc++[x]) (by omega) (by simp;omega)
  rw [drop_at l z61 i (by omega),hx2]
  apply ev_succ
  simp only [impl_copyRecords.l0,hx,impl_copyRecord_eq x hn,Option.bind_some]
  rw [w64 (x:=(i:Int)+1) (by omega) (by omega)]
  exact ev_pos (by omega) (ev_pos (by omega) (ev_pos (by omega) (ev_pos (by omega) (ev_to hr1 (by simp)))))
theorem impl_copyRecords_ev (l:List S61) (hs:Small l):Ev (fun k=> impl_copyRecords.f k l) l:=ev_to (impl_copyRecords_l0_ev l hs l.length 0 [] (by omega) (by simp)) (by simp)

theorem impl_SameKey_eq (a b:S61):impl_SameKey.f a.f0 a.f1 a.f2 a.f3 a.f4 a.f5 a.f6 a.f7 b.f0 b.f1 b.f2 b.f3 b.f4 b.f5 b.f6 b.f7=some (sameKey a b):=by
 unfold impl_SameKey.f sameKey
 by_cases h0:a.f0=b.f0
 ·by_cases h1:a.f1=b.f1
  ·by_cases h2:a.f2=b.f2
   ·rw [if_pos h0,if_pos h1,if_pos h2]
    congr 1
    rw [Bool.eq_iff_iff]
    simp [h0,h1,h2]
   ·rw [if_pos h0,if_pos h1,if_neg h2,decide_eq_false (by omega)]
  ·rw [if_pos h0,if_neg h1,decide_eq_false (by omega)]
 ·rw [if_neg h0,decide_eq_false (by omega)]

theorem Small.take {s:List S61} (h:Small s) (i:Nat):Small (s.take i):=⟨by have:=h.1;rw [List.length_take];omega,fun x hx=> h.2 x (List.mem_of_mem_take hx)⟩
theorem Small.drop {s:List S61} (h:Small s) (i:Nat):Small (s.drop i):=⟨by have:=h.1;rw [List.length_drop];omega,fun x hx=> h.2 x (List.mem_of_mem_drop hx)⟩
theorem impl_put_j1_ev (s:List S61) (r:S61) (hs:Small s) (hr:r.f5.length≤1048576) (hA:Asc s) (i:Nat) (hi:i≤s.length) (hp:∀x∈s.take i,beforeB x r=true) (hq:∀x,(s.drop i).head? =some x→beforeB x r=false):
  Ev (fun k=> impl_put.j1 k s i r.f0 r.f1 r.f2 r.f3 r.f4 r.f5 r.f6 r.f7) (putL s r):=by
 have hl1:=hs.1
 have hsp:=putL_split (s.take i) (s.drop i) r (by rw [List.take_append_drop];exact hA) hp hq
 rw [List.take_append_drop] at hsp
 rw [hsp]
 have hT:=impl_copyRecords_ev (s.take i) (hs.take i)
 have hlt:(s.take i).length=i:=by rw [List.length_take];omega
 apply ev_succ
 simp only [impl_put.j1,impl_copyRecord_eq r hr,Option.bind_some,Int.toNat_natCast]
 refine ev_pos (by omega) (ev_pos (by omega) (Ev.bind hT (ev_pos (by omega) ?_)))
 refine ev_ite (fun h1=> ?_) (fun h1=> ?_)
 ·obtain ⟨x,hx⟩:∃x,rd_T61 s (i:Int)=x:=⟨_,rfl⟩
  have hx2:s.getD i z61=x:=hx
  have hd:s.drop i=x::s.drop (i+1):=by rw [drop_at s z61 i (by omega),hx2]
  simp only [hx,impl_SameKey_eq,Option.bind_some]
  rw [w64 (x:=(i:Int)+1) (by omega) (by omega)]
  refine ev_ite (fun h2=> ?_) (fun h2=> ?_)
  ·have hD:=impl_copyRecords_ev (s.drop (i+1)) (hs.drop (i+1))
   have hld:(s.drop (i+1)).length≤s.length:=by rw [List.length_drop];omega
   rw [show ((i:Int)+1).toNat=i+1 by omega]
   refine ev_pos (by omega) (ev_pos (by omega) (Ev.bind hD (ev_pos (by simp only [List.length_append,List.length_cons,List.length_nil];omega) (ev_some ?_))))
   rw [hd,behind,if_pos h2]
   simp
  ·have hD:=impl_copyRecords_ev (s.drop i) (hs.drop i)
   have hld:(s.drop i).length≤s.length:=by rw [List.length_drop];omega
   refine Ev.bind hD (ev_pos (by simp only [List.length_append,List.length_cons,List.length_nil];omega) (ev_some ?_))
   rw [hd,behind,if_neg h2]
   simp
 ·have hD:=impl_copyRecords_ev (s.drop i) (hs.drop i)
  have hld:(s.drop i).length≤s.length:=by rw [List.length_drop];omega
  refine Ev.bind hD (ev_pos (by simp only [List.length_append,List.length_cons,List.length_nil];omega) (ev_some ?_))
  rw [List.drop_eq_nil_of_le (by omega)]
  simp [behind]
theorem impl_put_l0_ev (s:List S61) (r:S61) (hs:Small s) (hr:r.f5.length≤1048576) (hA:Asc s) (d:Nat):∀i:Nat,i+d=s.length→(∀x∈s.take i,beforeB x r=true)→
  Ev (fun k=> impl_put.l0 k s i r.f0 r.f1 r.f2 r.f3 r.f4 r.f5 r.f6 r.f7) (putL s r):=by
 have hl1:=hs.1
 induction d with
 | zero=>
  intro i hi hp
  apply ev_succ
  simp only [impl_put.l0]
  refine ev_neg (by omega) (impl_put_j1_ev s r hs hr hA i (by omega) hp ?_)
  rw [List.drop_eq_nil_of_le (by omega)]
  intro x hx
  cases hx
 | succ d ih=>
  intro i hi hp
  obtain ⟨x,hx⟩:∃x,rd_T61 s (i:Int)=x:=⟨_,rfl⟩
  have hx2:s.getD i z61=x:=hx
  have hd:s.drop i=x::s.drop (i+1):=by rw [drop_at s z61 i (by omega),hx2]
  apply ev_succ
  simp only [impl_put.l0,hx,impl_Before_eq,Option.bind_some]
  rw [w64 (x:=(i:Int)+1) (by omega) (by omega)]
  refine ev_pos (by omega) (ev_pos (by omega) (ev_ite (fun h1=> ?_) (fun h1=> ?_)))
  ·refine ih (i+1) (by omega) (fun y hy=> ?_)
   rw [List.take_succ_eq_append_getElem (by omega)] at hy
   rcases List.mem_append.1 hy with hy | hy
   ·exact hp y hy
   ·have hy2:y=x:=by
     rw [List.mem_singleton] at hy
     rw [hy,←hx2,List.getD_eq_getElem?_getD,List.getElem?_eq_getElem (by omega)]
     rfl
    rw [hy2];exact h1
  ·refine impl_put_j1_ev s r hs hr hA i (by omega) hp (fun y hy=> ?_)
   rw [hd] at hy
   have hy2:x=y:=by simpa using hy
   rw [←hy2]
   simpa using h1
theorem impl_put_ev (s:List S61) (r:S61) (hs:Small s) (hr:r.f5.length≤1048576) (hA:Asc s):Ev (fun k=> impl_put.f k s r.f0 r.f1 r.f2 r.f3 r.f4 r.f5 r.f6 r.f7) (putL s r):=
 impl_put_l0_ev s r hs hr hA s.length 0 (by omega) (by simp)

theorem impl_keyAt_l0_ev (r:S61) (l:List S61) (hl:l.length≤9223372036854775000) (d:Nat):∀i:Nat,i+d=l.length→
  Ev (fun k=> impl_keyAt.l0 k l (l.length:Int) i r.f0 r.f1 r.f2 r.f3 r.f4 r.f5 r.f6 r.f7) (keyGo r (l.drop i) i):=by
 induction d with
 | zero=>
  intro i hi
  rw [List.drop_eq_nil_of_le (by omega)]
  apply ev_succ
  simp only [impl_keyAt.l0]
  exact ev_neg (by omega) (ev_some rfl)
 | succ d ih=>
  intro i hi
  have hr:=ih (i+1) (by omega)
  have hr':=hr;obtain ⟨x,hx⟩:∃x,rd_T61 l (i:Int)=x:=⟨_,rfl⟩
  have hx2:l.getD i z61=x:=hx
  rw [drop_at l z61 i (by omega),hx2]
  apply ev_succ
  simp only [impl_keyAt.l0,hx,impl_SameKey_eq,Option.bind_some]
  rw [w64 (by omega) (by omega),keyGo]
  refine ev_pos (by omega) (ev_pos (by omega) (ev_pos (by omega) ?_))
  refine ev_ite (fun h=> ev_some (by rw [if_pos h])) (fun h=> ?_)
  rw [if_neg h]
  exact hr
theorem impl_keyAt_ev (l:List S61) (r:S61) (hl:l.length≤9223372036854775000):Ev (fun k=> impl_keyAt.f k l r.f0 r.f1 r.f2 r.f3 r.f4 r.f5 r.f6 r.f7) (keyB l r):=
 impl_keyAt_l0_ev r l hl l.length 0 (by omega)

theorem impl_Install_j0_ev (s:List S61) (r:S61) (hs:Small s) (hr:r.f5.length≤1048576) (b:Bool) (hb:b=false→Asc s):
  Ev (fun k=> impl_Install.j0 k s b r.f0 r.f1 r.f2 r.f3 r.f4 r.f5 r.f6 r.f7) (if (!b && newB s r)=true then (putL s r,true) else ([],false)):=by
 have hl1:=hs.1;have hk:=keyB_lt s r
 apply ev_succ
 simp only [impl_Install.j0]
 refine ev_ite (fun h1=> ev_some (by simp [h1])) (fun h1=> ?_)
 have h1':b=false:=by simpa using h1
 have hA:=hb h1';have hP:=impl_put_ev s r hs hr hA;subst h1'
 refine Ev.bind (impl_keyAt_ev s r hs.lens.1) ?_
 simp only [Bool.not_false,Bool.true_and]
 have hrd:rd_T61 s (keyB s r)=s.getD (keyB s r).toNat z61:=rfl
 simp only [hrd]
 refine ev_ite (fun h2=> ?_) (fun h2=> ?_)
 ·rw [newB_key (s:=s) (r:=r) (by omega)]
  refine ev_pos (by omega) (ev_pos hk (ev_ite (fun h3=> ev_some ?_) (fun h3=> ?_)))
  ·rw [if_neg (by rw [decide_eq_true_eq];omega)]
  ·refine ev_neg (by omega) ?_
   rw [if_pos (by rw [decide_eq_true_eq];omega)]
   exact Ev.bind hP (Ev.now _)
 ·rw [newB_none (s:=s) (r:=r) (by omega)]
  refine ev_pos (by omega) (ev_ite (fun h3=> ev_some ?_) (fun h3=> ?_))
  ·rw [if_neg (by rw [decide_eq_true_eq];omega)]
  ·rw [if_pos (by rw [decide_eq_true_eq];omega)]
   exact Ev.bind hP (Ev.now _)
theorem impl_Install_ev (s:List S61) (r:S61) (hs:Small s) (hr:r.f5.length≤1048576):
  Ev (fun k=> impl_Install.f k s r.f0 r.f1 r.f2 r.f3 r.f4 r.f5 r.f6 r.f7) (if (storeB s && instB s r)=true then (putL s r,true) else ([],false)):=by
 unfold impl_Install.f
 refine Ev.bind (impl_StoreOk_ev s hs.lens) (ev_ite (fun h1=> ?_) (fun h1=> ?_))
 ·refine Ev.bind (impl_RecordOk_ev r.f0 r.f1 r.f2 r.f3 r.f4 r.f5 r.f6 r.f7 (by omega)) ?_
  refine ev_to (impl_Install_j0_ev s r hs hr _ (fun _=> ((storeB_iff s).1 h1).2.2)) ?_
  rw [h1,Bool.true_and,Bool.not_not]
  rfl
 ·refine ev_to (impl_Install_j0_ev s r hs hr true (fun h=> by cases h)) ?_
  simp [h1]

theorem impl_learned_l0_no (s f t:List S61) (hs:Small s) (ht:Small t) (hn:¬storeB s=true) (d:Nat):∀i:Nat,i+d=t.length→Ev (fun k=> impl_learned.l0 k s f t (t.length:Int) i) (s,f):=by
 have hl1:=ht.1
 induction d with
 | zero=>
  intro i hi
  apply ev_succ
  simp only [impl_learned.l0]
  exact ev_neg (by omega) (Ev.now _)
 | succ d ih=>
  intro i hi
  obtain ⟨x,hx⟩:∃x,rd_T61 t (i:Int)=x:=⟨_,rfl⟩
  have hx2:t.getD i z61=x:=hx
  have hm:x∈t:=by rw [←hx2];exact getD_mem t _ i (by omega)
  have hI:=impl_Install_ev s x hs (ht.2 x hm)
  rw [if_neg (by simp [hn])] at hI
  apply ev_succ
  simp only [impl_learned.l0,hx]
  rw [w64 (x:=(i:Int)+1) (by omega) (by omega)]
  exact ev_pos (by omega) (ev_pos (by omega) (ev_pos (by omega) (Ev.bind hI (ev_neg (by simp) (ih (i+1) (by omega))))))
theorem impl_learned_l0_ev (t:List S61) (ht:Small t) (d:Nat):∀(i:Nat) (s f:List S61),i+d=t.length→storeB s=true→(∀x∈s,x.f5.length≤1048576)→f.length≤i→
  Ev (fun k=> impl_learned.l0 k s f t (t.length:Int) i) (learnL s f (t.drop i)):=by
 have hl1:=ht.1
 induction d with
 | zero=>
  intro i s f hi h1 h2 hf
  rw [List.drop_eq_nil_of_le (by omega)]
  apply ev_succ
  simp only [impl_learned.l0]
  exact ev_neg (by omega) (Ev.now _)
 | succ d ih=>
  intro i s f hi h1 h2 hf
  obtain ⟨x,hx⟩:∃x,rd_T61 t (i:Int)=x:=⟨_,rfl⟩
  have hx2:t.getD i z61=x:=hx
  have hm:x∈t:=by rw [←hx2];exact getD_mem t _ i (by omega)
  have hI:=impl_Install_ev s x (store_small h1 h2) (ht.2 x hm);rw [h1,Bool.true_and] at hI
  rw [drop_at t z61 i (by omega),hx2,learnL]
  apply ev_succ
  simp only [impl_learned.l0,hx,impl_copyRecord_eq x (ht.2 x hm),Option.bind_some]
  rw [w64 (x:=(i:Int)+1) (by omega) (by omega)]
  refine ev_pos (by omega) (ev_pos (by omega) (ev_pos (by omega) (Ev.bind hI ?_)))
  by_cases hi2:instB s x=true
  ·simp only [if_pos hi2]
   exact ev_pos (by trivial) (ev_pos (by omega) (ih (i+1) (putL s x) (f++[x]) (by omega) (putL_store h1 hi2) (putL_near h2 (ht.2 x hm)) (by simp;omega)))
  ·simp only [if_neg hi2]
   exact ev_neg (by simp) (ih (i+1) s f (by omega) h1 h2 (by omega))
theorem impl_learned_ev (s t:List S61) (hs:Small s) (ht:Small t):Ev (fun k=> impl_learned.f k s t) (if storeB s=true then learnL s [] t else (s,[])):=by
 unfold impl_learned.f
 refine Ev.bind (impl_copyRecords_ev s hs) ?_
 split
 ·rename_i h
  exact impl_learned_l0_ev t ht t.length 0 s [] (by omega) h hs.2 (by simp)
 ·rename_i h
  exact impl_learned_l0_no s [] t hs ht h t.length 0 (by omega)
theorem spec_l04CopyList_l0_ev (l:List S61) (hs:Small l) (d:Nat):∀(i:Nat) (acc:List S61),i+d=l.length→acc.length≤i→
  Ev (fun k=> spec_l04CopyList.l0 k l acc i) (acc++l.drop i):=by
 have hl1:=hs.1
 induction d with
 | zero=>
  intro i acc hi ha
  rw [List.drop_eq_nil_of_le (by omega)]
  apply ev_succ
  simp only [spec_l04CopyList.l0]
  exact ev_neg (by omega) (ev_some (by simp))
 | succ d ih=>
  intro i acc hi ha
  obtain ⟨x,hx⟩:∃x,rd_T61 l (i:Int)=x:=⟨_,rfl⟩
  have hx2:l.getD i z61=x:=hx
  have hm:x∈l:=by rw [←hx2];exact getD_mem l _ i (by omega)
  have hn:=hs.2 x hm
  have hr1:=ih (i+1) (acc++[x]) (by omega) (by simp;omega)
  rw [drop_at l z61 i (by omega),hx2]
  apply ev_succ
  simp only [spec_l04CopyList.l0,hx,spec_l04Copy_eq x hn,Option.bind_some]
  rw [w64 (x:=(i:Int)+1) (by omega) (by omega)]
  exact ev_pos (by omega) (ev_pos (by omega) (ev_pos (by omega) (ev_to hr1 (by simp))))
theorem spec_l04CopyList_ev (l:List S61) (hs:Small l):Ev (fun k=> spec_l04CopyList.f k l) l:=ev_to (spec_l04CopyList_l0_ev l hs l.length 0 [] (by omega) (by simp)) (by simp)

theorem spec_l05Put_l1_ev (s:List S61) (r:S61) (hs:Small s) (d:Nat):∀(i:Nat) (acc:List S61),i+d=s.length→acc.length≤s.length+1+i→
  Ev (fun k=> spec_l05Put.l1 k s acc i r.f0 r.f1 r.f2 r.f3 r.f4 r.f5 r.f6 r.f7) (acc++(s.drop i).filter (fun x=> beforeB r x)):=by
 have hl1:=hs.1
 induction d with
 | zero=>
  intro i acc hi ha
  rw [List.drop_eq_nil_of_le (by omega)]
  apply ev_succ
  simp only [spec_l05Put.l1]
  exact ev_neg (by omega) (ev_some (by simp))
 | succ d ih=>
  intro i acc hi ha
  obtain ⟨x,hx⟩:∃x,rd_T61 s (i:Int)=x:=⟨_,rfl⟩
  have hx2:s.getD i z61=x:=hx
  have hr1:=ih (i+1) (acc++[x]) (by omega) (by simp;omega)
  have hr0:=ih (i+1) acc (by omega) (by omega)
  rw [drop_at s z61 i (by omega),hx2]
  apply ev_succ
  simp only [spec_l05Put.l1,hx,spec_Before_eq,Option.bind_some]
  rw [w64 (x:=(i:Int)+1) (by omega) (by omega)]
  refine ev_pos (by omega) (ev_pos (by omega) (ev_ite (fun h1=> ?_) (fun h1=> ?_)))
  ·exact ev_pos (by omega) (ev_to hr1 (by simp [h1]))
  ·exact ev_to hr0 (by simp [h1])
theorem spec_l05Put_l0_ev (s:List S61) (r:S61) (hs:Small s) (d:Nat):∀(i:Nat) (acc:List S61),i+d=s.length→acc.length≤i→
  Ev (fun k=> spec_l05Put.l0 k s acc i r.f0 r.f1 r.f2 r.f3 r.f4 r.f5 r.f6 r.f7) (acc++(s.drop i).filter (fun x=> beforeB x r)++r::s.filter (fun x=> beforeB r x)):=by
 have hl1:=hs.1
 induction d with
 | zero=>
  intro i acc hi ha
  rw [List.drop_eq_nil_of_le (by omega)]
  apply ev_succ
  simp only [spec_l05Put.l0]
  refine ev_neg (by omega) (ev_pos (by omega) ?_)
  have h:=spec_l05Put_l1_ev s r hs s.length 0 (acc++[r]) (by omega) (by simp;omega)
  exact ev_to h (by simp)
 | succ d ih=>
  intro i acc hi ha
  obtain ⟨x,hx⟩:∃x,rd_T61 s (i:Int)=x:=⟨_,rfl⟩
  have hx2:s.getD i z61=x:=hx
  have hr1:=ih (i+1) (acc++[x]) (by omega) (by simp;omega)
  have hr0:=ih (i+1) acc (by omega) (by omega)
  rw [drop_at s z61 i (by omega),hx2]
  apply ev_succ
  simp only [spec_l05Put.l0,hx,spec_Before_eq,Option.bind_some]
  rw [w64 (x:=(i:Int)+1) (by omega) (by omega)]
  refine ev_pos (by omega) (ev_pos (by omega) (ev_ite (fun h1=> ?_) (fun h1=> ?_)))
  ·exact ev_pos (by omega) (ev_to hr1 (by simp [h1]))
  ·exact ev_to hr0 (by simp [h1])
theorem spec_l05Put_ev (s:List S61) (r:S61) (hs:Small s):Ev (fun k=> spec_l05Put.f k s r.f0 r.f1 r.f2 r.f3 r.f4 r.f5 r.f6 r.f7) (putL s r):=
 ev_to (spec_l05Put_l0_ev s r hs s.length 0 [] (by omega) (by simp)) (by simp [putL])

theorem spec_SameKey_eq (a b:S61):spec_SameKey.f a.f0 a.f1 a.f2 a.f3 a.f4 a.f5 a.f6 a.f7 b.f0 b.f1 b.f2 b.f3 b.f4 b.f5 b.f6 b.f7=some (sameKey a b):=by
 unfold spec_SameKey.f sameKey
 by_cases h0:a.f0=b.f0
 ·by_cases h1:a.f1=b.f1
  ·by_cases h2:a.f2=b.f2
   ·rw [if_pos h0,if_pos h1,if_pos h2]
    congr 1
    rw [Bool.eq_iff_iff]
    simp [h0,h1,h2]
   ·rw [if_pos h0,if_pos h1,if_neg h2,decide_eq_false (by omega)]
  ·rw [if_pos h0,if_neg h1,decide_eq_false (by omega)]
 ·rw [if_neg h0,decide_eq_false (by omega)]

theorem spec_l05At_l0_ev (r:S61) (l:List S61) (hl:l.length≤9223372036854775000) (d:Nat):∀i:Nat,i+d=l.length→
  Ev (fun k=> spec_l05At.l0 k l i r.f0 r.f1 r.f2 r.f3 r.f4 r.f5 r.f6 r.f7) (keyGo r (l.drop i) i):=by
 induction d with
 | zero=>
  intro i hi
  rw [List.drop_eq_nil_of_le (by omega)]
  apply ev_succ
  simp only [spec_l05At.l0]
  exact ev_neg (by omega) (ev_some rfl)
 | succ d ih=>
  intro i hi
  have hr:=ih (i+1) (by omega)
  have hr':=hr;obtain ⟨x,hx⟩:∃x,rd_T61 l (i:Int)=x:=⟨_,rfl⟩
  have hx2:l.getD i z61=x:=hx
  rw [drop_at l z61 i (by omega),hx2]
  apply ev_succ
  simp only [spec_l05At.l0,hx,spec_SameKey_eq,Option.bind_some]
  rw [w64 (by omega) (by omega),keyGo]
  refine ev_pos (by omega) (ev_pos (by omega) ?_)
  refine ev_ite (fun h=> ev_some (by rw [if_pos h])) (fun h=> ?_)
  rw [if_neg h]
  exact hr
theorem spec_l05At_ev (l:List S61) (r:S61) (hl:l.length≤9223372036854775000):Ev (fun k=> spec_l05At.f k l r.f0 r.f1 r.f2 r.f3 r.f4 r.f5 r.f6 r.f7) (keyB l r):=
 spec_l05At_l0_ev r l hl l.length 0 (by omega)

theorem spec_l05Install_ev (s:List S61) (r:S61) (hs:Small s) (hr:r.f5.length≤1048576):
  Ev (fun k=> spec_l05Install.f k s r.f0 r.f1 r.f2 r.f3 r.f4 r.f5 r.f6 r.f7) (if instB s r=true then (putL s r,true) else (s,false)):=by
 have hl1:=hs.1;have hk:=keyB_lt s r;have hP:=spec_l05Put_ev s r hs
 have hrec:recB r.f0 r.f1 r.f2 r.f3 r.f4 r.f5 r.f6 r.f7=recR r:=rfl
 unfold spec_l05Install.f instB
 refine Ev.bind (spec_l05At_ev s r hs.lens.1) (Ev.bind (spec_RecordOk_ev r.f0 r.f1 r.f2 r.f3 r.f4 r.f5 r.f6 r.f7 (by omega)) ?_)
 rw [hrec]
 refine ev_ite (fun h1=> ?_) (fun h1=> ev_some (by simp [h1]))
 rw [h1,Bool.true_and]
 have hrd:rd_T61 s (keyB s r)=s.getD (keyB s r).toNat z61:=rfl
 simp only [hrd]
 refine ev_ite (fun h2=> ?_) (fun h2=> ?_)
 ·rw [newB_key (s:=s) (r:=r) (by omega)]
  refine ev_pos (by omega) (ev_pos hk (ev_ite (fun h3=> ev_some ?_) (fun h3=> ?_)))
  ·rw [if_neg (by rw [decide_eq_true_eq];omega)]
  ·refine ev_neg (by omega) ?_
   rw [if_pos (by rw [decide_eq_true_eq];omega)]
   exact Ev.bind hP (Ev.now _)
 ·rw [newB_none (s:=s) (r:=r) (by omega)]
  refine ev_pos (by omega) (ev_ite (fun h3=> ev_some ?_) (fun h3=> ?_))
  ·rw [if_neg (by rw [decide_eq_true_eq];omega)]
  ·rw [if_pos (by rw [decide_eq_true_eq];omega)]
   exact Ev.bind hP (Ev.now _)

theorem laws_szIntS_eq (l:List Int) (hl:l.length≤9223372036854775807) (n:Int) (h0:0≤n) (h1:n≤1048576):laws_szIntS.f l n=some (if n<(l.length:Int) then -1 else n-l.length):=by
 unfold laws_szIntS.f
 rw [w64 (by omega) (by omega)]
 by_cases h:n<(l.length:Int)
 ·rw [if_pos (by omega),if_pos h]
 ·rw [if_neg (by omega),if_neg h]
theorem laws_toIntS_l0_ev (l:List Int) (hl:l.length≤9223372036854775807) (d:Nat):∀i:Nat,i+d=l.length→
  Ev (fun k=> laws_toIntS.l0 k l (l.take i++List.replicate d 0) i) l:=by
 induction d with
 | zero=>
  intro i hi
  apply ev_succ
  simp only [laws_toIntS.l0]
  refine ev_neg (by omega) (ev_some ?_)
  rw [List.take_of_length_le (by omega)]
  simp
 | succ d ih=>
  intro i hi
  have hr:=ih (i+1) (by omega)
  have hlt:i<l.length:=by omega
  apply ev_succ
  simp only [laws_toIntS.l0]
  have hset:(l.take i++List.replicate (d+1) (0:Int)).set ((i:Int).toNat) (rd l i)=l.take (i+1)++List.replicate d 0:=by
   rw [List.replicate_succ,set_mid _ _ _ _ _ (by rw [List.length_take];omega),List.take_succ_eq_append_getElem hlt,List.append_assoc]
   simp [rd,List.getD_eq_getElem?_getD,hlt]
  rw [hset,w64 (by omega) (by omega)]
  refine ev_pos (by omega) (ev_pos (by omega) (ev_pos ?_ hr))
  simp only [List.length_append,List.length_take,List.length_replicate]
  omega
theorem laws_toIntS_ev (l:List Int) (hl:l.length≤1048576):Ev (fun k=> laws_toIntS.f k l) l:=by
 unfold laws_toIntS.f
 exact ev_pos (by omega) (ev_pos (by omega) (laws_toIntS_l0_ev l (by omega) l.length 0 (by omega)))
theorem laws_eqIntS_l0_ev (l:List Int) (hl:l.length≤9223372036854775807) (d:Nat):∀i:Nat,i+d=l.length→Ev (fun k=> laws_eqIntS.l0 k l l i) true:=by
 induction d with
 | zero=>
  intro i hi
  apply ev_succ
  simp only [laws_eqIntS.l0]
  exact ev_neg (by omega) (Ev.now _)
 | succ d ih=>
  intro i hi
  apply ev_succ
  simp only [laws_eqIntS.l0,if_true]
  rw [w64 (by omega) (by omega)]
  exact ev_pos (by omega) (ev_pos (by omega) (ev_pos (by omega) (ih (i+1) (by omega))))
theorem laws_eqIntS_refl (l:List Int) (hl:l.length≤9223372036854775807):Ev (fun k=> laws_eqIntS.f k l l) true:=by
 unfold laws_eqIntS.f
 exact ev_pos rfl (laws_eqIntS_l0_ev l hl l.length 0 (by omega))

/-- Numbers from m on, as many as l has. -/
def markI:List Int→Int→List Int
 | [],_=> []
 | _::xs,m=> m::markI xs (m+1)
theorem rd_midI {α:Type} (p:List α) (x z:α) (r:List α) (i:Nat) (h:p.length=i):(p++x::r).getD i z=x:=by
 subst h
 simp
theorem laws_markIntS_l0 (xs:List Int):∀(p:List Int) (m:Int) (i:Nat),p.length=i→0≤m→m+(xs.length:Int)≤4611686018427387904→(i:Int)+xs.length≤4611686018427387904→
  Ev (fun k=> laws_markIntS.l0 k (p++xs) m i) (m+(xs.length:Int),p++markI xs m):=by
 induction xs with
 | nil=>
  intro p m i hp h0 h1 h2
  apply ev_succ
  simp only [laws_markIntS.l0]
  exact ev_neg (by simp;omega) (ev_some (by simp [markI]))
 | cons x xs ih=>
  intro p m i hp h0 h1 h2
  simp only [List.length_cons] at h1 h2
  have hr:=ih (p++[m]) (m+1) (i+1) (by simp [hp]) (by omega) (by omega) (by omega)
  apply ev_succ
  simp only [laws_markIntS.l0]
  refine ev_pos (by simp;omega) (ev_pos (by omega) ?_)
  rw [w64 (x:=m+1) (by omega) (by omega),w64 (x:=(i:Int)+1) (by omega) (by omega),Int.toNat_natCast,set_mid _ _ _ _ i hp]
  have e:p++[m]++xs=p++m::xs:=by simp
  rw [e] at hr
  refine ev_to hr ?_
  simp only [markI,List.append_assoc,List.cons_append,List.nil_append,List.length_cons,Prod.mk.injEq,and_true]
  push_cast
  omega
theorem laws_markIntS_ev (l:List Int) (m:Int) (h0:0≤m) (h1:m+(l.length:Int)≤4611686018427387904):
  Ev (fun k=> laws_markIntS.f k l m) (m+(l.length:Int),markI l m):=laws_markIntS_l0 l [] m 0 rfl h0 h1 (by omega)
theorem laws_heldIntS_l0 (xs:List Int):∀(p:List Int) (m:Int) (i:Nat),p.length=i→0≤m→m+(xs.length:Int)≤4611686018427387904→(i:Int)+xs.length≤4611686018427387904→
  Ev (fun k=> laws_heldIntS.l0 k (p++markI xs m) m i) (m+(xs.length:Int)):=by
 induction xs with
 | nil=>
  intro p m i hp h0 h1 h2
  apply ev_succ
  simp only [laws_heldIntS.l0]
  exact ev_neg (by simp [markI];omega) (ev_some (by simp))
 | cons x xs ih=>
  intro p m i hp h0 h1 h2
  simp only [List.length_cons] at h1 h2
  have hr:=ih (p++[m]) (m+1) (i+1) (by simp [hp]) (by omega) (by omega) (by omega)
  have hrd:rd (p++m::markI xs (m+1)) (i:Int)=m:=rd_midI p _ _ _ i hp
  apply ev_succ
  simp only [laws_heldIntS.l0,markI,hrd]
  refine ev_pos (by simp;omega) (ev_pos (by omega) (ev_pos (by trivial) ?_))
  rw [w64 (x:=m+1) (by omega) (by omega),w64 (x:=(i:Int)+1) (by omega) (by omega)]
  have e:p++[m]++markI xs (m+1)=p++m::markI xs (m+1):=by simp
  rw [e] at hr
  refine ev_to hr ?_
  simp only [List.length_cons]
  push_cast
  omega
theorem laws_heldIntS_ev (l:List Int) (m:Int) (h0:0≤m) (h1:m+(l.length:Int)≤4611686018427387904):
  Ev (fun k=> laws_heldIntS.f k (markI l m) m) (m+(l.length:Int)):=laws_heldIntS_l0 l [] m 0 rfl h0 h1 (by omega)

def markK:List S93→Int→List S93
 | [],_=> []
 | _::xs,m=> ⟨m,m+1,m+1+1,m+1+1+1⟩::markK xs (m+1+1+1+1)
theorem laws_markLinkS_l0 (xs:List S93):∀(p:List S93) (m:Int) (i:Nat),p.length=i→0≤m→m+4*(xs.length:Int)≤4611686018427387904→(i:Int)+xs.length≤4611686018427387904→
  Ev (fun k=> laws_markLinkS.l0 k (p++xs) m i) (m+4*(xs.length:Int),p++markK xs m):=by
 induction xs with
 | nil=>
  intro p m i hp h0 h1 h2
  apply ev_succ
  simp only [laws_markLinkS.l0]
  exact ev_neg (by simp;omega) (ev_some (by simp [markK]))
 | cons x xs ih=>
  intro p m i hp h0 h1 h2
  simp only [List.length_cons] at h1 h2
  have hr:=ih (p++[⟨m,m+1,m+1+1,m+1+1+1⟩]) (m+1+1+1+1) (i+1) (by simp [hp]) (by omega) (by omega) (by omega)
  have e:p++[(⟨m,m+1,m+1+1,m+1+1+1⟩:S93)]++xs=p++(⟨m,m+1,m+1+1,m+1+1+1⟩:S93)::xs:=by simp
  rw [e] at hr
  have c1:(i:Int)<((p++x::xs).length:Int):=by simp;omega
  have sm:∀u y:S93,(p++u::xs).set i y=p++y::xs:=fun u y=> set_mid p u y xs i hp
  have rm:∀u:S93,rd_T93 (p++u::xs) (i:Int)=u:=fun u=> rd_mid p u _ xs i hp
  have w1:wrap64 (m+1)=m+1:=w64 (by omega) (by omega)
  have w2:wrap64 (m+1+1)=m+1+1:=w64 (by omega) (by omega)
  have w3:wrap64 (m+1+1+1)=m+1+1+1:=w64 (by omega) (by omega)
  have w4:wrap64 (m+1+1+1+1)=m+1+1+1+1:=w64 (by omega) (by omega)
  have wi:wrap64 ((i:Int)+1)=(i:Int)+1:=w64 (by omega) (by omega)
  have hres:(m+1+1+1+1+4*(xs.length:Int),p++(⟨m,m+1,m+1+1,m+1+1+1⟩:S93)::markK xs (m+1+1+1+1))=(m+4*((x::xs).length:Int),p++markK (x::xs) m):=by
   simp only [markK,List.length_cons,Prod.mk.injEq,and_true]
   push_cast
   clear w1 w2 w3 w4 wi
   omega
  rw [List.append_assoc,List.cons_append,List.nil_append] at hr
  apply ev_succ
  simp only [laws_markLinkS.l0,Option.bind_some,Int.toNat_natCast,w1,w2,w3,w4,wi,sm,rm]
  exact ev_pos c1 (ev_pos (Int.natCast_nonneg i) (ev_to hr hres))
theorem laws_markLinkS_ev (l:List S93) (m:Int) (h0:0≤m) (h1:m+4*(l.length:Int)≤4611686018427387904):
  Ev (fun k=> laws_markLinkS.f k l m) (m+4*(l.length:Int),markK l m):=laws_markLinkS_l0 l [] m 0 rfl h0 h1 (by omega)
theorem laws_heldLinkS_l0 (xs:List S93):∀(p:List S93) (m:Int) (i:Nat),p.length=i→0≤m→m+4*(xs.length:Int)≤4611686018427387904→(i:Int)+xs.length≤4611686018427387904→
  Ev (fun k=> laws_heldLinkS.l0 k (p++markK xs m) m i) (m+4*(xs.length:Int)):=by
 induction xs with
 | nil=>
  intro p m i hp h0 h1 h2
  apply ev_succ
  simp only [laws_heldLinkS.l0]
  exact ev_neg (by simp [markK];omega) (ev_some (by simp))
 | cons x xs ih=>
  intro p m i hp h0 h1 h2
  simp only [List.length_cons] at h1 h2
  have hr:=ih (p++[⟨m,m+1,m+1+1,m+1+1+1⟩]) (m+1+1+1+1) (i+1) (by simp [hp]) (by omega) (by omega) (by omega)
  have e:p++[(⟨m,m+1,m+1+1,m+1+1+1⟩:S93)]++markK xs (m+1+1+1+1)=p++(⟨m,m+1,m+1+1,m+1+1+1⟩:S93)::markK xs (m+1+1+1+1):=by simp
  rw [e] at hr
  have hrd:rd_T93 (p++(⟨m,m+1,m+1+1,m+1+1+1⟩:S93)::markK xs (m+1+1+1+1)) (i:Int)=⟨m,m+1,m+1+1,m+1+1+1⟩:=rd_mid p _ _ _ i hp
  have c1:(i:Int)<((p++(⟨m,m+1,m+1+1,m+1+1+1⟩:S93)::markK xs (m+1+1+1+1)).length:Int):=by simp;omega
  have w1:wrap64 (m+1)=m+1:=w64 (by omega) (by omega)
  have w2:wrap64 (m+1+1)=m+1+1:=w64 (by omega) (by omega)
  have w3:wrap64 (m+1+1+1)=m+1+1+1:=w64 (by omega) (by omega)
  have w4:wrap64 (m+1+1+1+1)=m+1+1+1+1:=w64 (by omega) (by omega)
  have wi:wrap64 ((i:Int)+1)=(i:Int)+1:=w64 (by omega) (by omega)
  have hres:m+1+1+1+1+4*(xs.length:Int)=m+4*((x::xs).length:Int):=by
   simp only [List.length_cons]
   push_cast
   clear w1 w2 w3 w4 wi
   omega
  apply ev_succ
  simp only [laws_heldLinkS.l0,markK,hrd,w1,w2,w3,w4,wi]
  exact ev_pos c1 (ev_pos (Int.natCast_nonneg i) (ev_pos trivial (ev_pos trivial (ev_pos trivial (ev_pos trivial (ev_to hr hres))))))
theorem laws_heldLinkS_ev (l:List S93) (m:Int) (h0:0≤m) (h1:m+4*(l.length:Int)≤4611686018427387904):
  Ev (fun k=> laws_heldLinkS.f k (markK l m) m) (m+4*(l.length:Int)):=laws_heldLinkS_l0 l [] m 0 rfl h0 h1 (by omega)
def markT:List S102→Int→List S102
 | [],_=> []
 | _::xs,m=> ⟨m,m+1,m+1+1,(Int.tmod (m+1+1+1) 3)==0⟩::markT xs (m+1+1+1+1)
theorem laws_markThingS_l0 (xs:List S102):∀(p:List S102) (m:Int) (i:Nat),p.length=i→0≤m→m+4*(xs.length:Int)≤4611686018427387904→(i:Int)+xs.length≤4611686018427387904→
  Ev (fun k=> laws_markThingS.l0 k (p++xs) m i) (m+4*(xs.length:Int),p++markT xs m):=by
 induction xs with
 | nil=>
  intro p m i hp h0 h1 h2
  apply ev_succ
  simp only [laws_markThingS.l0]
  exact ev_neg (by simp;omega) (ev_some (by simp [markT]))
 | cons x xs ih=>
  intro p m i hp h0 h1 h2
  simp only [List.length_cons] at h1 h2
  have hr:=ih (p++[⟨m,m+1,m+1+1,(Int.tmod (m+1+1+1) 3)==0⟩]) (m+1+1+1+1) (i+1) (by simp [hp]) (by omega) (by omega) (by omega)
  have e:p++[(⟨m,m+1,m+1+1,(Int.tmod (m+1+1+1) 3)==0⟩:S102)]++xs=p++(⟨m,m+1,m+1+1,(Int.tmod (m+1+1+1) 3)==0⟩:S102)::xs:=by simp
  rw [e] at hr
  have c1:(i:Int)<((p++x::xs).length:Int):=by simp;omega
  have sm:∀u y:S102,(p++u::xs).set i y=p++y::xs:=fun u y=> set_mid p u y xs i hp
  have rm:∀u:S102,rd_T102 (p++u::xs) (i:Int)=u:=fun u=> rd_mid p u _ xs i hp
  have w1:wrap64 (m+1)=m+1:=w64 (by omega) (by omega)
  have w2:wrap64 (m+1+1)=m+1+1:=w64 (by omega) (by omega)
  have w3:wrap64 (m+1+1+1)=m+1+1+1:=w64 (by omega) (by omega)
  have w4:wrap64 (m+1+1+1+1)=m+1+1+1+1:=w64 (by omega) (by omega)
  have wi:wrap64 ((i:Int)+1)=(i:Int)+1:=w64 (by omega) (by omega)
  have hres:(m+1+1+1+1+4*(xs.length:Int),p++(⟨m,m+1,m+1+1,(Int.tmod (m+1+1+1) 3)==0⟩:S102)::markT xs (m+1+1+1+1))=(m+4*((x::xs).length:Int),p++markT (x::xs) m):=by
   simp only [markT,List.length_cons,Prod.mk.injEq,and_true]
   push_cast
   clear w1 w2 w3 w4 wi
   omega
  rw [List.append_assoc,List.cons_append,List.nil_append] at hr
  apply ev_succ
  simp only [laws_markThingS.l0,Option.bind_some,Int.toNat_natCast,w1,w2,w3,w4,wi,sm,rm]
  exact ev_pos c1 (ev_pos (Int.natCast_nonneg i) (ev_to hr hres))
theorem laws_markThingS_ev (l:List S102) (m:Int) (h0:0≤m) (h1:m+4*(l.length:Int)≤4611686018427387904):
  Ev (fun k=> laws_markThingS.f k l m) (m+4*(l.length:Int),markT l m):=laws_markThingS_l0 l [] m 0 rfl h0 h1 (by omega)
theorem laws_heldThingS_l0 (xs:List S102):∀(p:List S102) (m:Int) (i:Nat),p.length=i→0≤m→m+4*(xs.length:Int)≤4611686018427387904→(i:Int)+xs.length≤4611686018427387904→
  Ev (fun k=> laws_heldThingS.l0 k (p++markT xs m) m i) (m+4*(xs.length:Int)):=by
 induction xs with
 | nil=>
  intro p m i hp h0 h1 h2
  apply ev_succ
  simp only [laws_heldThingS.l0]
  exact ev_neg (by simp [markT];omega) (ev_some (by simp))
 | cons x xs ih=>
  intro p m i hp h0 h1 h2
  simp only [List.length_cons] at h1 h2
  have hr:=ih (p++[⟨m,m+1,m+1+1,(Int.tmod (m+1+1+1) 3)==0⟩]) (m+1+1+1+1) (i+1) (by simp [hp]) (by omega) (by omega) (by omega)
  have e:p++[(⟨m,m+1,m+1+1,(Int.tmod (m+1+1+1) 3)==0⟩:S102)]++markT xs (m+1+1+1+1)=p++(⟨m,m+1,m+1+1,(Int.tmod (m+1+1+1) 3)==0⟩:S102)::markT xs (m+1+1+1+1):=by simp
  rw [e] at hr
  have hrd:rd_T102 (p++(⟨m,m+1,m+1+1,(Int.tmod (m+1+1+1) 3)==0⟩:S102)::markT xs (m+1+1+1+1)) (i:Int)=⟨m,m+1,m+1+1,(Int.tmod (m+1+1+1) 3)==0⟩:=rd_mid p _ _ _ i hp
  have c1:(i:Int)<((p++(⟨m,m+1,m+1+1,(Int.tmod (m+1+1+1) 3)==0⟩:S102)::markT xs (m+1+1+1+1)).length:Int):=by simp;omega
  have w1:wrap64 (m+1)=m+1:=w64 (by omega) (by omega)
  have w2:wrap64 (m+1+1)=m+1+1:=w64 (by omega) (by omega)
  have w3:wrap64 (m+1+1+1)=m+1+1+1:=w64 (by omega) (by omega)
  have w4:wrap64 (m+1+1+1+1)=m+1+1+1+1:=w64 (by omega) (by omega)
  have wi:wrap64 ((i:Int)+1)=(i:Int)+1:=w64 (by omega) (by omega)
  have hres:m+1+1+1+1+4*(xs.length:Int)=m+4*((x::xs).length:Int):=by
   simp only [List.length_cons]
   push_cast
   clear w1 w2 w3 w4 wi
   omega
  apply ev_succ
  simp only [laws_heldThingS.l0,markT,hrd,w1,w2,w3,w4,wi]
  exact ev_pos c1 (ev_pos (Int.natCast_nonneg i) (ev_pos trivial (ev_pos trivial (ev_pos trivial (ev_neg (by simp) (ev_to hr hres))))))
theorem laws_heldThingS_ev (l:List S102) (m:Int) (h0:0≤m) (h1:m+4*(l.length:Int)≤4611686018427387904):
  Ev (fun k=> laws_heldThingS.f k (markT l m) m) (m+4*(l.length:Int)):=laws_heldThingS_l0 l [] m 0 rfl h0 h1 (by omega)

theorem selfB_store {id bt n:Int} {l:List S93} {m:List S102} {hd:List Int} {st:List S61} (h:selfB id bt n l m hd st=true):storeB st=true:=by
 unfold selfB at h
 simp only [Bool.and_eq_true] at h
 exact h.2.2.2.2
theorem spec_Learn_l0_ev (id bt n:Int) (l:List S93) (m:List S102) (hd:List Int) (t:List S61) (ht:Small t) (d:Nat):∀(i:Nat) (s f:List S61),i+d=t.length→storeB s=true→(∀x∈s,x.f5.length≤1048576)→f.length≤i→
  Ev (fun k=> spec_Learn.l0 k t f i id bt n l m hd s) (id,bt,n,l,m,hd,(learnL s f (t.drop i)).1,(learnL s f (t.drop i)).2):=by
 have hl1:=ht.1
 induction d with
 | zero=>
  intro i s f hi h1 h2 hf
  rw [List.drop_eq_nil_of_le (by omega)]
  have hC:=spec_l04CopyList_ev s (store_small h1 h2)
  apply ev_succ
  simp only [spec_Learn.l0]
  exact ev_neg (by omega) (Ev.bind hC (Ev.now _))
 | succ d ih=>
  intro i s f hi h1 h2 hf
  obtain ⟨x,hx⟩:∃x,rd_T61 t (i:Int)=x:=⟨_,rfl⟩
  have hx2:t.getD i z61=x:=hx
  have hm:x∈t:=by rw [←hx2];exact getD_mem t _ i (by omega)
  have hI:=spec_l05Install_ev s x (store_small h1 h2) (ht.2 x hm)
  rw [drop_at t z61 i (by omega),hx2,learnL]
  apply ev_succ
  simp only [spec_Learn.l0,hx,spec_l04Copy_eq x (ht.2 x hm),Option.bind_some]
  rw [w64 (x:=(i:Int)+1) (by omega) (by omega)]
  refine ev_pos (by omega) (ev_pos (by omega) (Ev.bind hI ?_))
  by_cases hi2:instB s x=true
  ·simp only [if_pos hi2]
   exact ev_pos (by trivial) (ev_pos (by omega) (ih (i+1) (putL s x) (f++[x]) (by omega) (putL_store h1 hi2) (putL_near h2 (ht.2 x hm)) (by simp;omega)))
  ·simp only [if_neg hi2]
   exact ev_neg (by simp) (ih (i+1) s f (by omega) h1 h2 (by omega))
theorem learn_both (id bt n:Int) (l:List S93) (m:List S102) (hd:List Int) (st t:List S61) (hl:l.length≤1048576) (hm:m.length≤1048576) (hh:hd.length≤1048576) (hs:Small st) (ht:Small t):
  ∃s f,Small s∧Small f∧Ev (fun k=> spec_Learn.f k id bt n l m hd st t) (id,bt,n,l,m,hd,s,f)∧Ev (fun k=> impl_Learn.f k id bt n l m hd st t) (id,bt,n,l,m,hd,s,f):=by
 have hSC:Ev (fun k=> spec_l08Copy.f k id bt n l m hd st) (id,bt,n,l,m,hd,st):=by
  unfold spec_l08Copy.f
  simp only [Option.bind_some,List.nil_append,List.length_nil,Nat.zero_add]
  exact ev_pos (by omega) (ev_pos (by omega) (ev_pos (by omega) (Ev.bind (spec_l04CopyList_ev st hs) (Ev.now _))))
 have hIC:Ev (fun k=> impl_copySelf.f k id bt n l m hd st) (id,bt,n,l,m,hd,st):=by
  unfold impl_copySelf.f impl_copyNet.f impl_copyInts.f
  simp only [List.nil_append,List.length_nil,Nat.zero_add]
  rw [if_pos (by omega),if_pos (by omega),if_pos (by omega)]
  simp only [Option.bind_some]
  exact Ev.bind (impl_copyRecords_ev st hs) (Ev.now _)
 have hSO:=spec_SelfOk_ev id bt n l m hd st (by omega) (by omega) (by omega) hs.lens
 have hIO:=impl_SelfOk_ev id bt n l m hd st (by omega) (by omega) (by omega) hs.lens
 by_cases hb:selfB id bt n l m hd st=true
 ·have hst:=selfB_store hb
  rw [hb] at hSO hIO
  have hI:=impl_learned_ev st t hs ht;rw [if_pos hst] at hI
  have hS:=spec_Learn_l0_ev id bt n l m hd t ht t.length 0 st [] (by omega) hst hs.2 (by simp)
  rw [List.drop_zero] at hS
  have hq:=learnL_small t st [] hst hs.2 ht.2 (by simp)
  have ht1:=ht.1
  refine ⟨(learnL st [] t).1,(learnL st [] t).2,hq.2.1,⟨by have:=hq.2.2.1;simp at this;omega,hq.2.2.2⟩,?_,?_⟩
  ·unfold spec_Learn.f
   refine Ev.bind hSC ?_
   simp only [Option.bind_some]
   exact Ev.bind hSO (ev_pos rfl hS)
  ·unfold impl_Learn.f
   exact Ev.bind hIC (Ev.bind hIO (ev_pos rfl (Ev.bind hI (Ev.now _))))
 ·refine ⟨st,[],hs,⟨by simp,by simp⟩,?_,?_⟩
  ·unfold spec_Learn.f
   refine Ev.bind hSC ?_
   simp only [Option.bind_some]
   exact Ev.bind hSO (ev_neg hb (Ev.now _))
  ·unfold impl_Learn.f
   exact Ev.bind hIC (Ev.bind hIO (ev_neg hb (Ev.now _)))
theorem small_end {s:List S61} (h:Small s) {m:Int} (hm:m≤100000000):endR s m≤1000000000000000:=by
 have h1:=endR_le s m h.2;have h2:=h.1
 omega
theorem markSelf_ev (id bt n:Int) (l:List S93) (m:List S102) (hd:List Int) (st:List S61) (hl:l.length≤1048576) (hm:m.length≤1048576) (hh:hd.length≤1048576) (hs:Small st):
  ∃e l' m' hd' st',e=endR st (1+4*(l.length:Int)+4*(m.length:Int)+(hd.length:Int))∧Ev (fun k=> laws_markSelf.f k id bt n l m hd st 1) (e,l',m',hd',st')∧Ev (fun k=> laws_heldSelf.f k id bt n l' m' hd' st' 1) e:=by
 have h1:=laws_markLinkS_ev l 1 (by omega) (by omega)
 have h2:=laws_markThingS_ev m (1+4*(l.length:Int)) (by omega) (by omega)
 have h3:=laws_markIntS_ev hd (1+4*(l.length:Int)+4*(m.length:Int)) (by omega) (by omega)
 have h4:=laws_markRecordS_ev st (1+4*(l.length:Int)+4*(m.length:Int)+(hd.length:Int)) hs (by omega) (by omega)
 have g1:=laws_heldLinkS_ev l 1 (by omega) (by omega)
 have g2:=laws_heldThingS_ev m (1+4*(l.length:Int)) (by omega) (by omega)
 have g3:=laws_heldIntS_ev hd (1+4*(l.length:Int)+4*(m.length:Int)) (by omega) (by omega)
 have g4:=laws_heldRecordS_ev st (1+4*(l.length:Int)+4*(m.length:Int)+(hd.length:Int)) hs (by omega) (by omega)
 have hq:=endR_ge st (1+4*(l.length:Int)+4*(m.length:Int)+(hd.length:Int))
 refine ⟨_,_,_,_,_,rfl,Ev.bind (Ev.bind h1 (Ev.bind h2 (Ev.now _))) (Ev.bind h3 (Ev.bind h4 (Ev.now _))),?_⟩
 have gn:Ev (fun k=> laws_heldNet.f k n (markK l 1) (markT m (1+4*(l.length:Int))) 1) (1+4*(l.length:Int)+4*(m.length:Int)):=Ev.bind g1 (ev_neg (by omega) (Ev.bind g2 (ev_neg (by omega) (Ev.now _))))
 exact Ev.bind gn (ev_neg (by omega) (Ev.bind g3 (ev_neg (by omega) (Ev.bind g4 (ev_neg (by omega) (Ev.now _))))))
theorem FnExactLearn:∀(a0_0:Int) (a0_1:Int) (a0_2:Int) (l0_3:List (S134)) (l0_4:List (S136)) (l0_5:List Int) (l0_6:List (S57)) (l1:List (S57)),(l0_3.length≤9223372036854775807)→(l0_4.length≤9223372036854775807)→(l0_5.length≤9223372036854775807)→(l0_6.length≤9223372036854775807)→(∀x∈l0_6,x.f5.length≤9223372036854775807)→(l1.length≤9223372036854775807)→(∀x∈l1,x.f5.length≤9223372036854775807)→∃k,laws_FnExactLearn.f k a0_0 a0_1 a0_2 l0_3 l0_4 l0_5 l0_6 l1=some true:=by
 intro id bt n l m hd st t hl hm hh hst hx ht htx
 refine ev_ex ?_
 unfold laws_FnExactLearn.f
 have Z:Ev (fun k=> laws_szSelf.f k id bt n l m hd st 1048576) (-1)∨∃t,Ev (fun k=> laws_szSelf.f k id bt n l m hd st 1048576) t∧0≤t∧t≤1048576∧l.length≤1048576∧m.length≤1048576∧hd.length≤1048576∧st.length≤1048576∧∀x∈st,x.f5.length≤1048576:=by
  unfold laws_szSelf.f
  rcases laws_szNet_cases n l m hl hm 1048576 (by omega) (by omega) with h | ⟨h,h2⟩
  ·exact Or.inl (Ev.bind (ev_eq h) (ev_pos (by omega) (Ev.now _)))
  ·simp only [h,Option.bind_some]
   by_cases h9:(1048576-(l.length:Int)-m.length:Int)<hd.length
   ·left
    refine ev_neg (by omega) ?_
    rw [laws_szIntS_eq hd hh _ (by omega) (by omega),if_pos (by omega)]
    simp only [Option.bind_some]
    exact ev_pos (by omega) (Ev.now _)
   ·rcases laws_szRecordS_cases st hst hx (1048576-(l.length:Int)-m.length-hd.length) (by omega) (by omega) with h' | ⟨t',h',h1',h2',h3',h4'⟩
    ·left
     refine ev_neg (by omega) ?_
     rw [laws_szIntS_eq hd hh _ (by omega) (by omega),if_neg (by omega)]
     simp only [Option.bind_some]
     exact ev_neg (by omega) (Ev.bind h' (ev_pos (by omega) (Ev.now _)))
    ·right
     refine ⟨t',ev_neg (by omega) ?_,h1',by omega,by omega,by omega,by omega,h3',h4'⟩
     rw [laws_szIntS_eq hd hh _ (by omega) (by omega),if_neg (by omega)]
     simp only [Option.bind_some]
     exact ev_neg (by omega) (Ev.bind h' (ev_neg (by omega) (Ev.now _)))
 rcases Z with h | ⟨q,h,q0,q1,h2,h3,h4,h5,h6⟩
 ·exact Ev.bind h (ev_pos (by omega) (Ev.now _))
 refine Ev.bind h (ev_neg (by omega) ?_)
 rcases laws_szRecordS_cases t ht htx q q0 q1 with h' | ⟨q',h',p0,p1,t5,t6⟩
 ·exact Ev.bind h' (ev_pos (by omega) (Ev.now _))
 refine Ev.bind h' (ev_neg (by omega) ?_)
 have hs:=toRecL_small st h5 h6;have hts:=toRecL_small t t5 t6
 have h7:(toLinkL l).length≤1048576:=by rw [toLinkL_len];omega
 have h8:(toThingL m).length≤1048576:=by rw [toThingL_len];omega
 have T:Ev (fun k=> laws_toSelf.f k id bt n l m hd st) (id,bt,n,toLinkL l,toThingL m,hd,toRecL st):=Ev.bind (laws_toNet_ev n l m h2 h3) (Ev.bind (laws_toIntS_ev hd h4) (Ev.bind (laws_toRecordS_ev st h5 h6) (Ev.now _)))
 have TR:=laws_toRecordS_ev t t5 t6;obtain ⟨s,f,hsS,hsF,S,I⟩:=learn_both id bt n (toLinkL l) (toThingL m) hd (toRecL st) (toRecL t) h7 h8 h4 hs hts
 have EQ:∀u:List S61,Small u→Ev (fun k=> laws_eqSelf.f k id bt n (toLinkL l) (toThingL m) hd u id bt n (toLinkL l) (toThingL m) hd u) true:=by
  intro u hu
  unfold laws_eqSelf.f
  simp only [if_true]
  exact Ev.bind (laws_eqNet_refl n (toLinkL l) (toThingL m) (by omega) (by omega)) (ev_pos rfl (Ev.bind (laws_eqIntS_refl hd (by omega)) (ev_pos rfl (Ev.bind (laws_eqRecordS_refl _ hu.lens) (ev_pos rfl (Ev.now _))))))
 have E1:=EQ s hsS;have E2:=laws_eqRecordS_refl _ hsF.lens;have E3:=EQ (toRecL st) hs;have E4:=laws_eqRecordS_refl _ hts.lens;obtain ⟨e,l1,m1,d1,s1,he,M1,_⟩:=markSelf_ev id bt n (toLinkL l) (toThingL m) hd (toRecL st) h7 h8 h4 hs;obtain ⟨e',l2,m2,d2,s2,he',M2,G2⟩:=markSelf_ev id bt n (toLinkL l) (toThingL m) hd s h7 h8 h4 hsS
 have b1:=small_end hs (m:=1+4*((toLinkL l).length:Int)+4*((toThingL m).length:Int)+(hd.length:Int)) (by omega)
 have b2:=small_end hsS (m:=1+4*((toLinkL l).length:Int)+4*((toThingL m).length:Int)+(hd.length:Int)) (by omega)
 have a1:=endR_ge (toRecL st) (1+4*((toLinkL l).length:Int)+4*((toThingL m).length:Int)+(hd.length:Int));have a2:=endR_ge s (1+4*((toLinkL l).length:Int)+4*((toThingL m).length:Int)+(hd.length:Int))
 have R1:=laws_markRecordS_ev (toRecL t) e hts (by omega) (by omega)
 have R2:=laws_markRecordS_ev f e' hsF (by omega) (by omega)
 have G3:=laws_heldRecordS_ev f e' hsF (by omega) (by omega)
 have c1:=endR_ge (toRecL t) e;have c2:=endR_ge f e'
 refine Ev.bind T (Ev.bind TR (Ev.bind S (Ev.bind T (Ev.bind TR (Ev.bind I (Ev.bind E1 (ev_pos rfl (Ev.bind E2 (ev_pos rfl ?_)))))))))
 refine Ev.bind T (Ev.bind E3 (ev_pos rfl (Ev.bind TR (Ev.bind E4 (ev_pos rfl ?_)))))
 refine Ev.bind M1 (Ev.bind R1 (ev_neg (by simp only;omega) (Ev.bind E1 (ev_pos rfl (Ev.bind E2 (ev_pos rfl ?_))))))
 refine Ev.bind M2 (Ev.bind R2 (Ev.bind G2 (ev_neg (by omega) (Ev.bind G3 (ev_neg (by omega) (ev_pos rfl ?_))))))
 exact Ev.bind T (Ev.bind TR (Ev.bind I (Ev.bind E1 (ev_pos rfl (Ev.bind E2 (ev_pos rfl (Ev.bind G2 (ev_neg (by omega) (Ev.bind G3 (ev_neg (by omega) (ev_pos rfl (Ev.now _))))))))))))

end Go.Proofs.Ythjmdiggglkeaaa.Pure
