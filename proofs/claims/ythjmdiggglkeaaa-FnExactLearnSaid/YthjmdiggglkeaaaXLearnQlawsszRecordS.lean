import Derived.Test.YthjmdiggglkeaaaXLearnW
import Derived.Test.YthjmdiggglkeaaaProg
import Derived.Below
import Derived.Deep.Draws
import Derived.Deep.AppendLies
import Derived.Maps.AppendAt
import Derived.OwnWalk
import Derived.Laws.BytesArg
import Derived.Laws.MakeOwn
import Derived.Laws.OwnMore
import Derived.Deep.OwnRows
import Derived.Tactics
import Derived.Lib.ConvBytes
import Derived.Laws.Slices
import Derived.WalkKit
import Derived.KernelRfl
import Derived.RowKit3
import Derived.Deep.LoopGhost
import Derived.Deep.QuietTactic
import Derived.BigQuiet
import Derived.WideLaws
import Derived.Deep.DeepCutAuto
import Derived.Deep.CutBlock
import Derived.Deep.RegionHeld3
import Derived.Laws.Rows
import Derived.Lib.AppendStr
import Derived.ArgAppend
import Derived.Laws.IdiomCopy
import Derived.OrdersHeld
import Derived.Laws.BitsLemmas
import Derived.RowKit
/- Words for the walks: which operations of a region have run, as bits; a whole row of elements that lead to rows, appended to another such row that is apart from it: what comes of it is apart in itself. -/


namespace Go.Proofs.YthjmdiggglkeaaaW.PrintWords
def bL (n m:Nat):Array Bool:=((List.range n).map fun i=> m / 2 ^ i % 2==1).toArray
open Go.RowKit
section
open Go.Proofs.YthjmdiggglkeaaaW.PrintLast
variable {P:Program} {md:Region.Mode} {ops:Array Oper} {Q:Exit→Act→World→Prop}
/-- What is held through a region's orders may be more from here on. -/
theorem last_more_ {S S':World→Prop} (hs:∀w,S' w→S w):∀(fuel:Nat) (l:Array Bool) (a:Act) (w:World),S' w→wpAnyLast P md ops Q S' [] fuel l a w→wpAnyLast P md ops Q S [] fuel l a w
  | 0,_,_,_,_,h=> h
  | fuel+1,_,_,_,h0,h=> ⟨h.1,fun i hi=> wpOp_mono (fun a' w' hh=> ⟨fun _ _=> hs _ (hh.1 (by simp) h0),last_more_ hs fuel _ a' w' (hh.1 (by simp) h0) hh.2⟩) (h.2 i hi)⟩
theorem last_weaken {S:World→Prop} {fuel:Nat} {l:Array Bool} {a:Act} {w:World} (S':World→Prop) (hs:∀w,S' w→S w) (h0:S' w) (h:S' w→wpAnyLast P md ops Q S' [] fuel l a w):wpAnyLast P md ops Q S [] fuel l a w:=last_more_ hs fuel l a w h0 (h h0)
end
namespace Kd
section
variable {P:Program} {ops:Array Oper} {rest:List Oper} {o:Oper} {a:Act} {Q:Exit→Act→World→Prop} {Kc:Act→World→Prop} {α:Type}
open Classical in
/-- The two rows under one owner map: the elder's elements keep their numbers, the other's come behind them. -/
theorem S_two_ {d:Kd α} {e base:Nat} {W:World} {v:Value} {xs ys:List α} {A:Option Addr} {m c:Nat} {okv okp:Nat→Prop} (HO:S d e W base okv v xs) (HX:S d e W base okp (.slice A m c) ys) (hap:∀k,okp k→¬okv k):
    ∃f,(tag f d).R e W base okv v xs.zipIdx∧ReadsRow ((tag f d).M W base okp) d.sz W A m (ys.zipIdx xs.length):=by
  obtain ⟨f,h1⟩:=HO;obtain ⟨g,h2⟩:=HX
  refine ⟨fun k=> if okp k then xs.length+g k else f k,R_tag h1 (fun k hk _=> if_neg (fun h=> hap k h hk)),?_⟩
  obtain ⟨h0,inner,ho,hr⟩:=h2
  have hm:m=ys.zipIdx.length:=by
    rcases ho.2 with ⟨hv,h3⟩ | ⟨g',cap,cur,hv,_⟩
    · injection hv with _ h4 _;rw [h4,h3]
    · injection hv
  obtain ⟨A',c',hv,hl,hle,hc⟩:=own_reads_row (R:=fun p cs=> (tag g d).M W base okp p cs) ho (hr.imp_ (fun p cs h=> (tag g d).M_mono (fun k hk=> hk.1) h)) rfl
  injection hv with hA _ _
  subst hA
  refine ⟨by rw [List.length_zipIdx,hm,List.length_zipIdx],by omega,fun hp=> ?_⟩
  obtain ⟨ad,hA,hj⟩:=hc (by omega)
  refine ⟨ad,hA,fun j p hjp=> ?_⟩
  rw [List.getElem?_zipIdx] at hjp
  obtain ⟨x,hx,rfl⟩:=Option.map_eq_some_iff.1 hjp;obtain ⟨cs,h3,h4,h5⟩:=hj j (x,j) (zip_at hx)
  refine ⟨cs,h3,d.M_mono (fun k hk=> ⟨hk.1,?_⟩) h4,h5⟩
  show (if okp k then xs.length+g k else f k)=xs.length+j
  rw [if_pos hk.1]
  have h6:g k=j:=hk.2
  rw [h6]
theorem S_append_rows (d:Kd α) {w0 W:World} (base:Nat) (hgd:o.guard=none) (s x:Operand) (t e:TypeId) (z:Value) (bytes:Nat)
    (ho:o.op=.call {callee:=.builtin .append,args:=#[s,x],argTypes:=#[t,t]})
    (ht:P.underlying t=some (.slice e)) (hinfo:(P.info? e).map (fun i=> (i.zero,i.size,i.bytes))=some (some z,d.sz,bytes)) (hz:z.cells.size=d.sz) (hs0:0<d.sz) (hb0:0<bytes)
    (v:Value) (xs ys:List α) (A:Option Addr) (m c:Nat) (ok okv okp:Nat→Prop) (hs:a.eval s=v) (hx:a.eval x=.slice A m c)
    (HO:S d e W base okv v xs) (HX:S d e W base okp (.slice A m c) ys) (hokv:∀k,okv k→ok k) (hap:∀k,okp k→¬okv k) (hokp:∀k,okp k→ok k∧some k≠v.ownBlock) (hfresh:∀k,W.heap.size≤k→ok k)
    (HB:Below base w0 W) (hbase:base≤W.heap.size) (hl:(xs.length+ys.length)*bytes≤140737488355328)
    (h:∀v1 w1,S d e w1 base ok v1 (xs++ys)→Below base w0 w1→W.grownBy w1 v.ownBlock→(v1.ownBlock=v.ownBlock∨∃b,v1.ownBlock=some b∧W.heap.size≤b)→wpList P ops Q rest (a.put o.dst v1) w1):
    wpList P ops Q (o::rest) a W:=by
  have hm:=(S_reads' HX).1;obtain ⟨f,h1,h2⟩:=S_two_ HO HX hap
  refine R_append_rows (tag f d) base hgd s x t e z bytes ho ht hinfo hz hs0 hb0 v xs.zipIdx (ys.zipIdx xs.length) A m c ok okp hs hx (R_mono h1 hokv) h2 (fun _ _ h=> h) hokp hfresh HB hbase (by rw [List.length_zipIdx,hm];exact hl) ?_
  intro v1 w1 hr
  rw [←show (xs++ys).zipIdx=xs.zipIdx++ys.zipIdx xs.length by rw [List.zipIdx_append,Nat.zero_add]] at hr
  exact h v1 w1 ⟨f,hr⟩
theorem S_append_rows_step (d:Kd α) {w0 W:World} (base:Nat) (hw:Region.wanted o (yielded ops a.tmps)=true) (s x:Operand) (t e:TypeId) (z:Value) (bytes:Nat)
    (ho:o.op=.call {callee:=.builtin .append,args:=#[s,x],argTypes:=#[t,t]})
    (ht:P.underlying t=some (.slice e)) (hinfo:(P.info? e).map (fun i=> (i.zero,i.size,i.bytes))=some (some z,d.sz,bytes)) (hz:z.cells.size=d.sz) (hs0:0<d.sz) (hb0:0<bytes)
    (v:Value) (xs ys:List α) (A:Option Addr) (m c:Nat) (ok okv okp:Nat→Prop) (hs:a.eval s=v) (hx:a.eval x=.slice A m c)
    (HO:S d e W base okv v xs) (HX:S d e W base okp (.slice A m c) ys) (hokv:∀k,okv k→ok k) (hap:∀k,okp k→¬okv k) (hokp:∀k,okp k→ok k∧some k≠v.ownBlock) (hfresh:∀k,W.heap.size≤k→ok k)
    (HB:Below base w0 W) (hbase:base≤W.heap.size) (hl:(xs.length+ys.length)*bytes≤140737488355328)
    (h:∀v1 w1,S d e w1 base ok v1 (xs++ys)→Below base w0 w1→W.grownBy w1 v.ownBlock→(v1.ownBlock=v.ownBlock∨∃b,v1.ownBlock=some b∧W.heap.size≤b)→Kc (a.put o.dst v1) w1):
    if Region.wanted o (yielded ops a.tmps)=true then Oper.wp P o a W Kc Q else Kc (a.put o.dst undef) W:=by
  have hm:=(S_reads' HX).1;obtain ⟨f,h1,h2⟩:=S_two_ HO HX hap
  refine R_append_rows_step (tag f d) base hw s x t e z bytes ho ht hinfo hz hs0 hb0 v xs.zipIdx (ys.zipIdx xs.length) A m c ok okp hs hx (R_mono h1 hokv) h2 (fun _ _ h=> h) hokp hfresh HB hbase (by rw [List.length_zipIdx,hm];exact hl) ?_
  intro v1 w1 hr
  rw [←show (xs++ys).zipIdx=xs.zipIdx++ys.zipIdx xs.length by rw [List.zipIdx_append,Nat.zero_add]] at hr
  exact h v1 w1 ⟨f,hr⟩
end
end Kd
end Go.Proofs.YthjmdiggglkeaaaW.PrintWords

/- A Go function as a Lean function, and its contract: for every input the Go code comes to what the Lean function tells. -/




















































namespace Go.Proofs.Ythjmdiggglkeaaa.Q
open Go.RowKit Go.Proofs.YthjmdiggglkeaaaW.PrintWords Go.Proofs.YthjmdiggglkeaaaW.PrintLast Go.Proofs.YthjmdiggglkeaaaW.PrintMore
attribute [local go_sem] max2_int min2_int max_two min_two max_three min_three max_four min_four   -- for this text's walks alone
set_option linter.unusedVariables false
set_option linter.unusedSimpArgs false



def errW:Option Int→Value
  | none=> .nilIface
  | some c=> .iface 0 (.int .i64 c)
theorem errW_none:errW none=.nilIface:=rfl
theorem errW_some (c:Int):errW (some c)=.iface 0 (.int .i64 c):=rfl

theorem info3:(Try.prog.info? 3).map (fun i=> (i.zero,i.size,i.bytes))=some (some (.int .i64 0),1,8):=by kernel_rfl
theorem info4:(Try.prog.info? 4).map (fun i=> (i.zero,i.size,i.bytes))=some (some (.bool false),1,1):=by kernel_rfl
theorem info61:(Try.prog.info? 61).map (fun i=> (i.zero,i.size,i.bytes))=some (some (.agg #[(.int .i64 0),(.int .i64 0),(.int .i64 0),(.int .i64 0),(.int .i64 0),(.slice none 0 0),(.int .i64 0),(.bool false)]),8,80):=by kernel_rfl
theorem info93:(Try.prog.info? 93).map (fun i=> (i.zero,i.size,i.bytes))=some (some (.agg #[(.int .i64 0),(.int .i64 0),(.int .i64 0),(.int .i64 0)]),4,32):=by kernel_rfl
theorem info102:(Try.prog.info? 102).map (fun i=> (i.zero,i.size,i.bytes))=some (some (.agg #[(.int .i64 0),(.int .i64 0),(.int .i64 0),(.bool false)]),4,32):=by kernel_rfl
theorem info127:(Try.prog.info? 127).map (fun i=> (i.zero,i.size,i.bytes))=some (some (.agg #[(.int .i64 0),(.int .i64 0)]),2,16):=by kernel_rfl
-- the values' own types
/-! #### struct type 134 -/
structure S134 where
  f0:Int
  f1:Int
  f2:Int
  f3:Int
def z134:S134:=⟨(0:Int),(0:Int),(0:Int),(0:Int)⟩
def k134:Kd S134:=Kd.iso (Kd.pair (Kd.int .i64) (Kd.pair (Kd.int .i64) (Kd.pair (Kd.int .i64) (Kd.int .i64)))) (fun x:S134=> (x.f0,x.f1,x.f2,x.f3))
theorem k134_heap:Kd.Heap k134:=Kd.heap_iso _ (Kd.heap_pair (Kd.heap_int .i64) (Kd.heap_pair (Kd.heap_int .i64) (Kd.heap_pair (Kd.heap_int .i64) (Kd.heap_int .i64))))
theorem k134_open {w:World} {x:S134} {cs:List Value} (h:k134.K w x cs):cs=[.int .i64 x.f0,.int .i64 x.f1,.int .i64 x.f2,.int .i64 x.f3]:=by
  obtain ⟨_,_,rfl,rfl,⟨_,_,rfl,rfl,⟨_,_,rfl,rfl,rfl⟩⟩⟩:=h
  exact rfl
theorem k134_openM {w:World} {base:Nat} {ok:Nat→Prop} {x:S134} {cs:List Value} (h:k134.M w base ok x cs):cs=[.int .i64 x.f0,.int .i64 x.f1,.int .i64 x.f2,.int .i64 x.f3]:=by
  obtain ⟨_,_,rfl,rfl,⟨_,_,rfl,rfl,⟨_,_,rfl,rfl,rfl⟩⟩⟩:=h
  exact rfl
theorem k134_mk (w:World) (x:S134)  :k134.K w x [.int .i64 x.f0,.int .i64 x.f1,.int .i64 x.f2,.int .i64 x.f3]:=⟨[.int .i64 x.f0],[.int .i64 x.f1,.int .i64 x.f2,.int .i64 x.f3],rfl,rfl,⟨[.int .i64 x.f1],[.int .i64 x.f2,.int .i64 x.f3],rfl,rfl,⟨[.int .i64 x.f2],[.int .i64 x.f3],rfl,rfl,rfl⟩⟩⟩
theorem k134_mkM (w:World) (base:Nat) (ok:Nat→Prop) (x:S134)  :k134.M w base ok x [.int .i64 x.f0,.int .i64 x.f1,.int .i64 x.f2,.int .i64 x.f3]:=⟨[.int .i64 x.f0],[.int .i64 x.f1,.int .i64 x.f2,.int .i64 x.f3],rfl,rfl,⟨[.int .i64 x.f1],[.int .i64 x.f2,.int .i64 x.f3],rfl,rfl,⟨[.int .i64 x.f2],[.int .i64 x.f3],rfl,rfl,rfl⟩⟩⟩
theorem k134_mkF (W:World) (ok:Nat→Prop) (x:S134):Kd.FK k134 W ok x [.int .i64 x.f0,.int .i64 x.f1,.int .i64 x.f2,.int .i64 x.f3]:=fun W2 _=> k134_mk W2 x
def rd_T134 (xs:List S134) (i:Int):S134:=xs.getD i.toNat z134
theorem at_T134 {w:World} {A:Option Addr} {n:Nat} {xs:List S134} (h:Kd.C k134 w A n xs) (i:Int) (h0:0≤i) (h1:i<n):∃ad,A=some ad∧w.cell? (ad.add (i.toNat*4))=some (.int .i64 (rd_T134 xs i).f0)∧w.cell? ⟨(ad.add (i.toNat*4)).block,(ad.add (i.toNat*4)).off+1,none⟩=some (.int .i64 (rd_T134 xs i).f1)∧w.cell? ⟨(ad.add (i.toNat*4)).block,(ad.add (i.toNat*4)).off+2,none⟩=some (.int .i64 (rd_T134 xs i).f2)∧w.cell? ⟨(ad.add (i.toNat*4)).block,(ad.add (i.toNat*4)).off+3,none⟩=some (.int .i64 (rd_T134 xs i).f3):=by
  obtain ⟨ad,c,e,_,hK,hc0⟩:=Kd.C_get h z134 i h0 h1
  have hc:∀j u,c[j]? =some u→w.cell? (ad.add (i.toNat*4+j))=some u:=hc0
  obtain rfl:=k134_open hK
  exact ⟨ad,e,hc 0 _ rfl,by rw [←add_field _ _ 1 (by omega)];exact hc 1 _ rfl,by rw [←add_field _ _ 2 (by omega)];exact hc 2 _ rfl,by rw [←add_field _ _ 3 (by omega)];exact hc 3 _ rfl⟩

/-! #### struct type 136 -/
structure S136 where
  f0:Int
  f1:Int
  f2:Int
  f3:Bool
def z136:S136:=⟨(0:Int),(0:Int),(0:Int),false⟩
def k136:Kd S136:=Kd.iso (Kd.pair (Kd.int .i64) (Kd.pair (Kd.int .i64) (Kd.pair (Kd.int .i64) Kd.bool))) (fun x:S136=> (x.f0,x.f1,x.f2,x.f3))
theorem k136_heap:Kd.Heap k136:=Kd.heap_iso _ (Kd.heap_pair (Kd.heap_int .i64) (Kd.heap_pair (Kd.heap_int .i64) (Kd.heap_pair (Kd.heap_int .i64) Kd.heap_bool)))
theorem k136_open {w:World} {x:S136} {cs:List Value} (h:k136.K w x cs):cs=[.int .i64 x.f0,.int .i64 x.f1,.int .i64 x.f2,.bool x.f3]:=by
  obtain ⟨_,_,rfl,rfl,⟨_,_,rfl,rfl,⟨_,_,rfl,rfl,rfl⟩⟩⟩:=h
  exact rfl
theorem k136_openM {w:World} {base:Nat} {ok:Nat→Prop} {x:S136} {cs:List Value} (h:k136.M w base ok x cs):cs=[.int .i64 x.f0,.int .i64 x.f1,.int .i64 x.f2,.bool x.f3]:=by
  obtain ⟨_,_,rfl,rfl,⟨_,_,rfl,rfl,⟨_,_,rfl,rfl,rfl⟩⟩⟩:=h
  exact rfl
theorem k136_mk (w:World) (x:S136)  :k136.K w x [.int .i64 x.f0,.int .i64 x.f1,.int .i64 x.f2,.bool x.f3]:=⟨[.int .i64 x.f0],[.int .i64 x.f1,.int .i64 x.f2,.bool x.f3],rfl,rfl,⟨[.int .i64 x.f1],[.int .i64 x.f2,.bool x.f3],rfl,rfl,⟨[.int .i64 x.f2],[.bool x.f3],rfl,rfl,rfl⟩⟩⟩
theorem k136_mkM (w:World) (base:Nat) (ok:Nat→Prop) (x:S136)  :k136.M w base ok x [.int .i64 x.f0,.int .i64 x.f1,.int .i64 x.f2,.bool x.f3]:=⟨[.int .i64 x.f0],[.int .i64 x.f1,.int .i64 x.f2,.bool x.f3],rfl,rfl,⟨[.int .i64 x.f1],[.int .i64 x.f2,.bool x.f3],rfl,rfl,⟨[.int .i64 x.f2],[.bool x.f3],rfl,rfl,rfl⟩⟩⟩
theorem k136_mkF (W:World) (ok:Nat→Prop) (x:S136):Kd.FK k136 W ok x [.int .i64 x.f0,.int .i64 x.f1,.int .i64 x.f2,.bool x.f3]:=fun W2 _=> k136_mk W2 x
def rd_T136 (xs:List S136) (i:Int):S136:=xs.getD i.toNat z136
theorem at_T136 {w:World} {A:Option Addr} {n:Nat} {xs:List S136} (h:Kd.C k136 w A n xs) (i:Int) (h0:0≤i) (h1:i<n):∃ad,A=some ad∧w.cell? (ad.add (i.toNat*4))=some (.int .i64 (rd_T136 xs i).f0)∧w.cell? ⟨(ad.add (i.toNat*4)).block,(ad.add (i.toNat*4)).off+1,none⟩=some (.int .i64 (rd_T136 xs i).f1)∧w.cell? ⟨(ad.add (i.toNat*4)).block,(ad.add (i.toNat*4)).off+2,none⟩=some (.int .i64 (rd_T136 xs i).f2)∧w.cell? ⟨(ad.add (i.toNat*4)).block,(ad.add (i.toNat*4)).off+3,none⟩=some (.bool (rd_T136 xs i).f3):=by
  obtain ⟨ad,c,e,_,hK,hc0⟩:=Kd.C_get h z136 i h0 h1
  have hc:∀j u,c[j]? =some u→w.cell? (ad.add (i.toNat*4+j))=some u:=hc0
  obtain rfl:=k136_open hK
  exact ⟨ad,e,hc 0 _ rfl,by rw [←add_field _ _ 1 (by omega)];exact hc 1 _ rfl,by rw [←add_field _ _ 2 (by omega)];exact hc 2 _ rfl,by rw [←add_field _ _ 3 (by omega)];exact hc 3 _ rfl⟩

/-! #### struct type 93 -/
structure S93 where
  f0:Int
  f1:Int
  f2:Int
  f3:Int
def z93:S93:=⟨(0:Int),(0:Int),(0:Int),(0:Int)⟩
def k93:Kd S93:=Kd.iso (Kd.pair (Kd.int .i64) (Kd.pair (Kd.int .i64) (Kd.pair (Kd.int .i64) (Kd.int .i64)))) (fun x:S93=> (x.f0,x.f1,x.f2,x.f3))
theorem k93_heap:Kd.Heap k93:=Kd.heap_iso _ (Kd.heap_pair (Kd.heap_int .i64) (Kd.heap_pair (Kd.heap_int .i64) (Kd.heap_pair (Kd.heap_int .i64) (Kd.heap_int .i64))))
theorem k93_open {w:World} {x:S93} {cs:List Value} (h:k93.K w x cs):cs=[.int .i64 x.f0,.int .i64 x.f1,.int .i64 x.f2,.int .i64 x.f3]:=by
  obtain ⟨_,_,rfl,rfl,⟨_,_,rfl,rfl,⟨_,_,rfl,rfl,rfl⟩⟩⟩:=h
  exact rfl
theorem k93_openM {w:World} {base:Nat} {ok:Nat→Prop} {x:S93} {cs:List Value} (h:k93.M w base ok x cs):cs=[.int .i64 x.f0,.int .i64 x.f1,.int .i64 x.f2,.int .i64 x.f3]:=by
  obtain ⟨_,_,rfl,rfl,⟨_,_,rfl,rfl,⟨_,_,rfl,rfl,rfl⟩⟩⟩:=h
  exact rfl
theorem k93_mk (w:World) (x:S93)  :k93.K w x [.int .i64 x.f0,.int .i64 x.f1,.int .i64 x.f2,.int .i64 x.f3]:=⟨[.int .i64 x.f0],[.int .i64 x.f1,.int .i64 x.f2,.int .i64 x.f3],rfl,rfl,⟨[.int .i64 x.f1],[.int .i64 x.f2,.int .i64 x.f3],rfl,rfl,⟨[.int .i64 x.f2],[.int .i64 x.f3],rfl,rfl,rfl⟩⟩⟩
theorem k93_mkM (w:World) (base:Nat) (ok:Nat→Prop) (x:S93)  :k93.M w base ok x [.int .i64 x.f0,.int .i64 x.f1,.int .i64 x.f2,.int .i64 x.f3]:=⟨[.int .i64 x.f0],[.int .i64 x.f1,.int .i64 x.f2,.int .i64 x.f3],rfl,rfl,⟨[.int .i64 x.f1],[.int .i64 x.f2,.int .i64 x.f3],rfl,rfl,⟨[.int .i64 x.f2],[.int .i64 x.f3],rfl,rfl,rfl⟩⟩⟩
theorem k93_mkF (W:World) (ok:Nat→Prop) (x:S93):Kd.FK k93 W ok x [.int .i64 x.f0,.int .i64 x.f1,.int .i64 x.f2,.int .i64 x.f3]:=fun W2 _=> k93_mk W2 x
def rd_T93 (xs:List S93) (i:Int):S93:=xs.getD i.toNat z93
theorem at_T93 {w:World} {A:Option Addr} {n:Nat} {xs:List S93} (h:Kd.C k93 w A n xs) (i:Int) (h0:0≤i) (h1:i<n):∃ad,A=some ad∧w.cell? (ad.add (i.toNat*4))=some (.int .i64 (rd_T93 xs i).f0)∧w.cell? ⟨(ad.add (i.toNat*4)).block,(ad.add (i.toNat*4)).off+1,none⟩=some (.int .i64 (rd_T93 xs i).f1)∧w.cell? ⟨(ad.add (i.toNat*4)).block,(ad.add (i.toNat*4)).off+2,none⟩=some (.int .i64 (rd_T93 xs i).f2)∧w.cell? ⟨(ad.add (i.toNat*4)).block,(ad.add (i.toNat*4)).off+3,none⟩=some (.int .i64 (rd_T93 xs i).f3):=by
  obtain ⟨ad,c,e,_,hK,hc0⟩:=Kd.C_get h z93 i h0 h1
  have hc:∀j u,c[j]? =some u→w.cell? (ad.add (i.toNat*4+j))=some u:=hc0
  obtain rfl:=k93_open hK
  exact ⟨ad,e,hc 0 _ rfl,by rw [←add_field _ _ 1 (by omega)];exact hc 1 _ rfl,by rw [←add_field _ _ 2 (by omega)];exact hc 2 _ rfl,by rw [←add_field _ _ 3 (by omega)];exact hc 3 _ rfl⟩

/-! #### struct type 102 -/
structure S102 where
  f0:Int
  f1:Int
  f2:Int
  f3:Bool
def z102:S102:=⟨(0:Int),(0:Int),(0:Int),false⟩
def k102:Kd S102:=Kd.iso (Kd.pair (Kd.int .i64) (Kd.pair (Kd.int .i64) (Kd.pair (Kd.int .i64) Kd.bool))) (fun x:S102=> (x.f0,x.f1,x.f2,x.f3))
theorem k102_heap:Kd.Heap k102:=Kd.heap_iso _ (Kd.heap_pair (Kd.heap_int .i64) (Kd.heap_pair (Kd.heap_int .i64) (Kd.heap_pair (Kd.heap_int .i64) Kd.heap_bool)))
theorem k102_open {w:World} {x:S102} {cs:List Value} (h:k102.K w x cs):cs=[.int .i64 x.f0,.int .i64 x.f1,.int .i64 x.f2,.bool x.f3]:=by
  obtain ⟨_,_,rfl,rfl,⟨_,_,rfl,rfl,⟨_,_,rfl,rfl,rfl⟩⟩⟩:=h
  exact rfl
theorem k102_openM {w:World} {base:Nat} {ok:Nat→Prop} {x:S102} {cs:List Value} (h:k102.M w base ok x cs):cs=[.int .i64 x.f0,.int .i64 x.f1,.int .i64 x.f2,.bool x.f3]:=by
  obtain ⟨_,_,rfl,rfl,⟨_,_,rfl,rfl,⟨_,_,rfl,rfl,rfl⟩⟩⟩:=h
  exact rfl
theorem k102_mk (w:World) (x:S102)  :k102.K w x [.int .i64 x.f0,.int .i64 x.f1,.int .i64 x.f2,.bool x.f3]:=⟨[.int .i64 x.f0],[.int .i64 x.f1,.int .i64 x.f2,.bool x.f3],rfl,rfl,⟨[.int .i64 x.f1],[.int .i64 x.f2,.bool x.f3],rfl,rfl,⟨[.int .i64 x.f2],[.bool x.f3],rfl,rfl,rfl⟩⟩⟩
theorem k102_mkM (w:World) (base:Nat) (ok:Nat→Prop) (x:S102)  :k102.M w base ok x [.int .i64 x.f0,.int .i64 x.f1,.int .i64 x.f2,.bool x.f3]:=⟨[.int .i64 x.f0],[.int .i64 x.f1,.int .i64 x.f2,.bool x.f3],rfl,rfl,⟨[.int .i64 x.f1],[.int .i64 x.f2,.bool x.f3],rfl,rfl,⟨[.int .i64 x.f2],[.bool x.f3],rfl,rfl,rfl⟩⟩⟩
theorem k102_mkF (W:World) (ok:Nat→Prop) (x:S102):Kd.FK k102 W ok x [.int .i64 x.f0,.int .i64 x.f1,.int .i64 x.f2,.bool x.f3]:=fun W2 _=> k102_mk W2 x
def rd_T102 (xs:List S102) (i:Int):S102:=xs.getD i.toNat z102
theorem at_T102 {w:World} {A:Option Addr} {n:Nat} {xs:List S102} (h:Kd.C k102 w A n xs) (i:Int) (h0:0≤i) (h1:i<n):∃ad,A=some ad∧w.cell? (ad.add (i.toNat*4))=some (.int .i64 (rd_T102 xs i).f0)∧w.cell? ⟨(ad.add (i.toNat*4)).block,(ad.add (i.toNat*4)).off+1,none⟩=some (.int .i64 (rd_T102 xs i).f1)∧w.cell? ⟨(ad.add (i.toNat*4)).block,(ad.add (i.toNat*4)).off+2,none⟩=some (.int .i64 (rd_T102 xs i).f2)∧w.cell? ⟨(ad.add (i.toNat*4)).block,(ad.add (i.toNat*4)).off+3,none⟩=some (.bool (rd_T102 xs i).f3):=by
  obtain ⟨ad,c,e,_,hK,hc0⟩:=Kd.C_get h z102 i h0 h1
  have hc:∀j u,c[j]? =some u→w.cell? (ad.add (i.toNat*4+j))=some u:=hc0
  obtain rfl:=k102_open hK
  exact ⟨ad,e,hc 0 _ rfl,by rw [←add_field _ _ 1 (by omega)];exact hc 1 _ rfl,by rw [←add_field _ _ 2 (by omega)];exact hc 2 _ rfl,by rw [←add_field _ _ 3 (by omega)];exact hc 3 _ rfl⟩

/-! #### struct type 141 -/
structure S141 where
  f0:Int
  f1:Int
def z141:S141:=⟨(0:Int),(0:Int)⟩
def k141:Kd S141:=Kd.iso (Kd.pair (Kd.int .i64) (Kd.int .i64)) (fun x:S141=> (x.f0,x.f1))
theorem k141_heap:Kd.Heap k141:=Kd.heap_iso _ (Kd.heap_pair (Kd.heap_int .i64) (Kd.heap_int .i64))
theorem k141_open {w:World} {x:S141} {cs:List Value} (h:k141.K w x cs):cs=[.int .i64 x.f0,.int .i64 x.f1]:=by
  obtain ⟨_,_,rfl,rfl,rfl⟩:=h
  exact rfl
theorem k141_openM {w:World} {base:Nat} {ok:Nat→Prop} {x:S141} {cs:List Value} (h:k141.M w base ok x cs):cs=[.int .i64 x.f0,.int .i64 x.f1]:=by
  obtain ⟨_,_,rfl,rfl,rfl⟩:=h
  exact rfl
theorem k141_mk (w:World) (x:S141)  :k141.K w x [.int .i64 x.f0,.int .i64 x.f1]:=⟨[.int .i64 x.f0],[.int .i64 x.f1],rfl,rfl,rfl⟩
theorem k141_mkM (w:World) (base:Nat) (ok:Nat→Prop) (x:S141)  :k141.M w base ok x [.int .i64 x.f0,.int .i64 x.f1]:=⟨[.int .i64 x.f0],[.int .i64 x.f1],rfl,rfl,rfl⟩
theorem k141_mkF (W:World) (ok:Nat→Prop) (x:S141):Kd.FK k141 W ok x [.int .i64 x.f0,.int .i64 x.f1]:=fun W2 _=> k141_mk W2 x
def rd_T141 (xs:List S141) (i:Int):S141:=xs.getD i.toNat z141
theorem at_T141 {w:World} {A:Option Addr} {n:Nat} {xs:List S141} (h:Kd.C k141 w A n xs) (i:Int) (h0:0≤i) (h1:i<n):∃ad,A=some ad∧w.cell? (ad.add (i.toNat*2))=some (.int .i64 (rd_T141 xs i).f0)∧w.cell? ⟨(ad.add (i.toNat*2)).block,(ad.add (i.toNat*2)).off+1,none⟩=some (.int .i64 (rd_T141 xs i).f1):=by
  obtain ⟨ad,c,e,_,hK,hc0⟩:=Kd.C_get h z141 i h0 h1
  have hc:∀j u,c[j]? =some u→w.cell? (ad.add (i.toNat*2+j))=some u:=hc0
  obtain rfl:=k141_open hK
  exact ⟨ad,e,hc 0 _ rfl,by rw [←add_field _ _ 1 (by omega)];exact hc 1 _ rfl⟩

def rd_L7 (xs:List (List S141)) (i:Int):(List S141):=xs.getD i.toNat ([]:List S141)
theorem at_L7 {w:World} {A:Option Addr} {n:Nat} {xs:List (List S141)} (h:Kd.C (Kd.slice 141 k141) w A n xs) (i:Int) (h0:0≤i) (h1:i<n):∃ad A0 c0,A=some ad∧w.cell? (ad.add i.toNat)=some (.slice A0 (rd_L7 xs i).length c0)∧(rd_L7 xs i).length≤c0∧k141.C w A0 (rd_L7 xs i).length (rd_L7 xs i):=by
  obtain ⟨ad,c,e,_,hK,hc0⟩:=Kd.C_get h ([]:List S141) i h0 h1
  have hc:∀j u,c[j]? =some u→w.cell? (ad.add (i.toNat*1+j))=some u:=hc0
  obtain ⟨A0,c0,rfl,l0,g0⟩:=hK
  exact ⟨ad,A0,c0,e,by have hq:=hc 0 _ rfl;rwa [Nat.mul_one,Nat.add_zero] at hq,l0,g0⟩

/-! #### struct type 57 -/
structure S57 where
  f0:Int
  f1:Int
  f2:Int
  f3:Int
  f4:Int
  f5:(List S141)
  f6:Int
  f7:Bool
def z57:S57:=⟨(0:Int),(0:Int),(0:Int),(0:Int),(0:Int),([]:List S141),(0:Int),false⟩
def k57:Kd S57:=Kd.iso (Kd.pair (Kd.int .i64) (Kd.pair (Kd.int .i64) (Kd.pair (Kd.int .i64) (Kd.pair (Kd.int .i64) (Kd.pair (Kd.int .i64) (Kd.pair (Kd.slice 141 k141) (Kd.pair (Kd.int .i64) Kd.bool))))))) (fun x:S57=> (x.f0,x.f1,x.f2,x.f3,x.f4,x.f5,x.f6,x.f7))
theorem k57_heap:Kd.Heap k57:=Kd.heap_iso _ (Kd.heap_pair (Kd.heap_int .i64) (Kd.heap_pair (Kd.heap_int .i64) (Kd.heap_pair (Kd.heap_int .i64) (Kd.heap_pair (Kd.heap_int .i64) (Kd.heap_pair (Kd.heap_int .i64) (Kd.heap_pair (Kd.heap_slice 141 k141_heap) (Kd.heap_pair (Kd.heap_int .i64) Kd.heap_bool)))))))
theorem k57_open {w:World} {x:S57} {cs:List Value} (h:k57.K w x cs):∃A5 c5,cs=[.int .i64 x.f0,.int .i64 x.f1,.int .i64 x.f2,.int .i64 x.f3,.int .i64 x.f4,.slice A5 x.f5.length c5,.int .i64 x.f6,.bool x.f7]∧x.f5.length≤c5∧k141.C w A5 x.f5.length x.f5:=by
  obtain ⟨_,_,rfl,rfl,⟨_,_,rfl,rfl,⟨_,_,rfl,rfl,⟨_,_,rfl,rfl,⟨_,_,rfl,rfl,⟨_,_,rfl,⟨A5,c5,rfl,l5,g5⟩,⟨_,_,rfl,rfl,rfl⟩⟩⟩⟩⟩⟩⟩:=h
  exact ⟨A5,c5,rfl,l5,g5⟩
theorem k57_openM {w:World} {base:Nat} {ok:Nat→Prop} {x:S57} {cs:List Value} (h:k57.M w base ok x cs):∃v5,cs=[.int .i64 x.f0,.int .i64 x.f1,.int .i64 x.f2,.int .i64 x.f3,.int .i64 x.f4,v5,.int .i64 x.f6,.bool x.f7]∧k141.R 141 w base ok v5 x.f5:=by
  obtain ⟨_,_,rfl,rfl,⟨_,_,rfl,rfl,⟨_,_,rfl,rfl,⟨_,_,rfl,rfl,⟨_,_,rfl,rfl,⟨_,_,rfl,⟨v5,rfl,g5⟩,⟨_,_,rfl,rfl,rfl⟩⟩⟩⟩⟩⟩⟩:=h
  exact ⟨v5,rfl,g5⟩
theorem k57_mk (w:World) (x:S57) {A5:Option Addr} {c5:Nat} (l5:x.f5.length≤c5) (g5:k141.C w A5 x.f5.length x.f5):k57.K w x [.int .i64 x.f0,.int .i64 x.f1,.int .i64 x.f2,.int .i64 x.f3,.int .i64 x.f4,.slice A5 x.f5.length c5,.int .i64 x.f6,.bool x.f7]:=⟨[.int .i64 x.f0],[.int .i64 x.f1,.int .i64 x.f2,.int .i64 x.f3,.int .i64 x.f4,.slice A5 x.f5.length c5,.int .i64 x.f6,.bool x.f7],rfl,rfl,⟨[.int .i64 x.f1],[.int .i64 x.f2,.int .i64 x.f3,.int .i64 x.f4,.slice A5 x.f5.length c5,.int .i64 x.f6,.bool x.f7],rfl,rfl,⟨[.int .i64 x.f2],[.int .i64 x.f3,.int .i64 x.f4,.slice A5 x.f5.length c5,.int .i64 x.f6,.bool x.f7],rfl,rfl,⟨[.int .i64 x.f3],[.int .i64 x.f4,.slice A5 x.f5.length c5,.int .i64 x.f6,.bool x.f7],rfl,rfl,⟨[.int .i64 x.f4],[.slice A5 x.f5.length c5,.int .i64 x.f6,.bool x.f7],rfl,rfl,⟨[.slice A5 x.f5.length c5],[.int .i64 x.f6,.bool x.f7],rfl,⟨A5,c5,rfl,l5,g5⟩,⟨[.int .i64 x.f6],[.bool x.f7],rfl,rfl,rfl⟩⟩⟩⟩⟩⟩⟩
theorem k57_mkM (w:World) (base:Nat) (ok:Nat→Prop) (x:S57) {v5:Value} (g5:k141.R 141 w base ok v5 x.f5):k57.M w base ok x [.int .i64 x.f0,.int .i64 x.f1,.int .i64 x.f2,.int .i64 x.f3,.int .i64 x.f4,v5,.int .i64 x.f6,.bool x.f7]:=⟨[.int .i64 x.f0],[.int .i64 x.f1,.int .i64 x.f2,.int .i64 x.f3,.int .i64 x.f4,v5,.int .i64 x.f6,.bool x.f7],rfl,rfl,⟨[.int .i64 x.f1],[.int .i64 x.f2,.int .i64 x.f3,.int .i64 x.f4,v5,.int .i64 x.f6,.bool x.f7],rfl,rfl,⟨[.int .i64 x.f2],[.int .i64 x.f3,.int .i64 x.f4,v5,.int .i64 x.f6,.bool x.f7],rfl,rfl,⟨[.int .i64 x.f3],[.int .i64 x.f4,v5,.int .i64 x.f6,.bool x.f7],rfl,rfl,⟨[.int .i64 x.f4],[v5,.int .i64 x.f6,.bool x.f7],rfl,rfl,⟨[v5],[.int .i64 x.f6,.bool x.f7],rfl,⟨v5,rfl,g5⟩,⟨[.int .i64 x.f6],[.bool x.f7],rfl,rfl,rfl⟩⟩⟩⟩⟩⟩⟩
theorem k57_openF {W:World} {ok:Nat→Prop} {x:S57} {cs:List Value} (h:Kd.FK k57 W ok x cs):∃A5 c5,cs=[.int .i64 x.f0,.int .i64 x.f1,.int .i64 x.f2,.int .i64 x.f3,.int .i64 x.f4,.slice A5 x.f5.length c5,.int .i64 x.f6,.bool x.f7]∧x.f5.length≤c5∧Kd.F k141 W ok A5 x.f5.length x.f5:=by
  obtain ⟨A5,c5,rfl,l5,_⟩:=k57_open (Kd.FK_now h)
  exact ⟨A5,c5,rfl,l5,(fun W' hW=> by obtain ⟨A5_,c5_,he,l5_,g5_⟩:=k57_open (h W' hW);injection (Option.some.inj (show some (Value.slice A5 x.f5.length c5)=some (Value.slice A5_ x.f5.length c5_) from congrArg (fun l=> l[5]?) he)) with ha_ _ _;rw [ha_];exact g5_)⟩
theorem k57_mkF (W:World) (ok:Nat→Prop) (x:S57) {A5:Option Addr} {c5:Nat} (l5:x.f5.length≤c5) (g5:Kd.F k141 W ok A5 x.f5.length x.f5):Kd.FK k57 W ok x [.int .i64 x.f0,.int .i64 x.f1,.int .i64 x.f2,.int .i64 x.f3,.int .i64 x.f4,.slice A5 x.f5.length c5,.int .i64 x.f6,.bool x.f7]:=fun W2 hW=> k57_mk W2 x l5 (g5 W2 hW)
def rd_T57 (xs:List S57) (i:Int):S57:=xs.getD i.toNat z57
theorem at_T57 {w:World} {A:Option Addr} {n:Nat} {xs:List S57} (h:Kd.C k57 w A n xs) (i:Int) (h0:0≤i) (h1:i<n):∃ad A5 c5,A=some ad∧w.cell? (ad.add (i.toNat*8))=some (.int .i64 (rd_T57 xs i).f0)∧w.cell? ⟨(ad.add (i.toNat*8)).block,(ad.add (i.toNat*8)).off+1,none⟩=some (.int .i64 (rd_T57 xs i).f1)∧w.cell? ⟨(ad.add (i.toNat*8)).block,(ad.add (i.toNat*8)).off+2,none⟩=some (.int .i64 (rd_T57 xs i).f2)∧w.cell? ⟨(ad.add (i.toNat*8)).block,(ad.add (i.toNat*8)).off+3,none⟩=some (.int .i64 (rd_T57 xs i).f3)∧w.cell? ⟨(ad.add (i.toNat*8)).block,(ad.add (i.toNat*8)).off+4,none⟩=some (.int .i64 (rd_T57 xs i).f4)∧w.cell? ⟨(ad.add (i.toNat*8)).block,(ad.add (i.toNat*8)).off+5,none⟩=some (.slice A5 (rd_T57 xs i).f5.length c5)∧w.cell? ⟨(ad.add (i.toNat*8)).block,(ad.add (i.toNat*8)).off+6,none⟩=some (.int .i64 (rd_T57 xs i).f6)∧w.cell? ⟨(ad.add (i.toNat*8)).block,(ad.add (i.toNat*8)).off+7,none⟩=some (.bool (rd_T57 xs i).f7)∧(rd_T57 xs i).f5.length≤c5∧k141.C w A5 (rd_T57 xs i).f5.length (rd_T57 xs i).f5:=by
  obtain ⟨ad,c,e,_,hK,hc0⟩:=Kd.C_get h z57 i h0 h1
  have hc:∀j u,c[j]? =some u→w.cell? (ad.add (i.toNat*8+j))=some u:=hc0
  obtain ⟨A5,c5,rfl,l5,g5⟩:=k57_open hK
  exact ⟨ad,A5,c5,e,hc 0 _ rfl,by rw [←add_field _ _ 1 (by omega)];exact hc 1 _ rfl,by rw [←add_field _ _ 2 (by omega)];exact hc 2 _ rfl,by rw [←add_field _ _ 3 (by omega)];exact hc 3 _ rfl,by rw [←add_field _ _ 4 (by omega)];exact hc 4 _ rfl,by rw [←add_field _ _ 5 (by omega)];exact hc 5 _ rfl,by rw [←add_field _ _ 6 (by omega)];exact hc 6 _ rfl,by rw [←add_field _ _ 7 (by omega)];exact hc 7 _ rfl,l5,g5⟩

/-! #### struct type 127 -/
structure S127 where
  f0:Int
  f1:Int
def z127:S127:=⟨(0:Int),(0:Int)⟩
def k127:Kd S127:=Kd.iso (Kd.pair (Kd.int .i64) (Kd.int .i64)) (fun x:S127=> (x.f0,x.f1))
theorem k127_heap:Kd.Heap k127:=Kd.heap_iso _ (Kd.heap_pair (Kd.heap_int .i64) (Kd.heap_int .i64))
theorem k127_open {w:World} {x:S127} {cs:List Value} (h:k127.K w x cs):cs=[.int .i64 x.f0,.int .i64 x.f1]:=by
  obtain ⟨_,_,rfl,rfl,rfl⟩:=h
  exact rfl
theorem k127_openM {w:World} {base:Nat} {ok:Nat→Prop} {x:S127} {cs:List Value} (h:k127.M w base ok x cs):cs=[.int .i64 x.f0,.int .i64 x.f1]:=by
  obtain ⟨_,_,rfl,rfl,rfl⟩:=h
  exact rfl
theorem k127_mk (w:World) (x:S127)  :k127.K w x [.int .i64 x.f0,.int .i64 x.f1]:=⟨[.int .i64 x.f0],[.int .i64 x.f1],rfl,rfl,rfl⟩
theorem k127_mkM (w:World) (base:Nat) (ok:Nat→Prop) (x:S127)  :k127.M w base ok x [.int .i64 x.f0,.int .i64 x.f1]:=⟨[.int .i64 x.f0],[.int .i64 x.f1],rfl,rfl,rfl⟩
theorem k127_mkF (W:World) (ok:Nat→Prop) (x:S127):Kd.FK k127 W ok x [.int .i64 x.f0,.int .i64 x.f1]:=fun W2 _=> k127_mk W2 x
def rd_T127 (xs:List S127) (i:Int):S127:=xs.getD i.toNat z127
theorem at_T127 {w:World} {A:Option Addr} {n:Nat} {xs:List S127} (h:Kd.C k127 w A n xs) (i:Int) (h0:0≤i) (h1:i<n):∃ad,A=some ad∧w.cell? (ad.add (i.toNat*2))=some (.int .i64 (rd_T127 xs i).f0)∧w.cell? ⟨(ad.add (i.toNat*2)).block,(ad.add (i.toNat*2)).off+1,none⟩=some (.int .i64 (rd_T127 xs i).f1):=by
  obtain ⟨ad,c,e,_,hK,hc0⟩:=Kd.C_get h z127 i h0 h1
  have hc:∀j u,c[j]? =some u→w.cell? (ad.add (i.toNat*2+j))=some u:=hc0
  obtain rfl:=k127_open hK
  exact ⟨ad,e,hc 0 _ rfl,by rw [←add_field _ _ 1 (by omega)];exact hc 1 _ rfl⟩

def rd_L10 (xs:List (List S127)) (i:Int):(List S127):=xs.getD i.toNat ([]:List S127)
theorem at_L10 {w:World} {A:Option Addr} {n:Nat} {xs:List (List S127)} (h:Kd.C (Kd.slice 127 k127) w A n xs) (i:Int) (h0:0≤i) (h1:i<n):∃ad A0 c0,A=some ad∧w.cell? (ad.add i.toNat)=some (.slice A0 (rd_L10 xs i).length c0)∧(rd_L10 xs i).length≤c0∧k127.C w A0 (rd_L10 xs i).length (rd_L10 xs i):=by
  obtain ⟨ad,c,e,_,hK,hc0⟩:=Kd.C_get h ([]:List S127) i h0 h1
  have hc:∀j u,c[j]? =some u→w.cell? (ad.add (i.toNat*1+j))=some u:=hc0
  obtain ⟨A0,c0,rfl,l0,g0⟩:=hK
  exact ⟨ad,A0,c0,e,by have hq:=hc 0 _ rfl;rwa [Nat.mul_one,Nat.add_zero] at hq,l0,g0⟩

/-! #### struct type 61 -/
structure S61 where
  f0:Int
  f1:Int
  f2:Int
  f3:Int
  f4:Int
  f5:(List S127)
  f6:Int
  f7:Bool
def z61:S61:=⟨(0:Int),(0:Int),(0:Int),(0:Int),(0:Int),([]:List S127),(0:Int),false⟩
def k61:Kd S61:=Kd.iso (Kd.pair (Kd.int .i64) (Kd.pair (Kd.int .i64) (Kd.pair (Kd.int .i64) (Kd.pair (Kd.int .i64) (Kd.pair (Kd.int .i64) (Kd.pair (Kd.slice 127 k127) (Kd.pair (Kd.int .i64) Kd.bool))))))) (fun x:S61=> (x.f0,x.f1,x.f2,x.f3,x.f4,x.f5,x.f6,x.f7))
theorem k61_heap:Kd.Heap k61:=Kd.heap_iso _ (Kd.heap_pair (Kd.heap_int .i64) (Kd.heap_pair (Kd.heap_int .i64) (Kd.heap_pair (Kd.heap_int .i64) (Kd.heap_pair (Kd.heap_int .i64) (Kd.heap_pair (Kd.heap_int .i64) (Kd.heap_pair (Kd.heap_slice 127 k127_heap) (Kd.heap_pair (Kd.heap_int .i64) Kd.heap_bool)))))))
theorem k61_open {w:World} {x:S61} {cs:List Value} (h:k61.K w x cs):∃A5 c5,cs=[.int .i64 x.f0,.int .i64 x.f1,.int .i64 x.f2,.int .i64 x.f3,.int .i64 x.f4,.slice A5 x.f5.length c5,.int .i64 x.f6,.bool x.f7]∧x.f5.length≤c5∧k127.C w A5 x.f5.length x.f5:=by
  obtain ⟨_,_,rfl,rfl,⟨_,_,rfl,rfl,⟨_,_,rfl,rfl,⟨_,_,rfl,rfl,⟨_,_,rfl,rfl,⟨_,_,rfl,⟨A5,c5,rfl,l5,g5⟩,⟨_,_,rfl,rfl,rfl⟩⟩⟩⟩⟩⟩⟩:=h
  exact ⟨A5,c5,rfl,l5,g5⟩
theorem k61_openM {w:World} {base:Nat} {ok:Nat→Prop} {x:S61} {cs:List Value} (h:k61.M w base ok x cs):∃v5,cs=[.int .i64 x.f0,.int .i64 x.f1,.int .i64 x.f2,.int .i64 x.f3,.int .i64 x.f4,v5,.int .i64 x.f6,.bool x.f7]∧k127.R 127 w base ok v5 x.f5:=by
  obtain ⟨_,_,rfl,rfl,⟨_,_,rfl,rfl,⟨_,_,rfl,rfl,⟨_,_,rfl,rfl,⟨_,_,rfl,rfl,⟨_,_,rfl,⟨v5,rfl,g5⟩,⟨_,_,rfl,rfl,rfl⟩⟩⟩⟩⟩⟩⟩:=h
  exact ⟨v5,rfl,g5⟩
theorem k61_mk (w:World) (x:S61) {A5:Option Addr} {c5:Nat} (l5:x.f5.length≤c5) (g5:k127.C w A5 x.f5.length x.f5):k61.K w x [.int .i64 x.f0,.int .i64 x.f1,.int .i64 x.f2,.int .i64 x.f3,.int .i64 x.f4,.slice A5 x.f5.length c5,.int .i64 x.f6,.bool x.f7]:=⟨[.int .i64 x.f0],[.int .i64 x.f1,.int .i64 x.f2,.int .i64 x.f3,.int .i64 x.f4,.slice A5 x.f5.length c5,.int .i64 x.f6,.bool x.f7],rfl,rfl,⟨[.int .i64 x.f1],[.int .i64 x.f2,.int .i64 x.f3,.int .i64 x.f4,.slice A5 x.f5.length c5,.int .i64 x.f6,.bool x.f7],rfl,rfl,⟨[.int .i64 x.f2],[.int .i64 x.f3,.int .i64 x.f4,.slice A5 x.f5.length c5,.int .i64 x.f6,.bool x.f7],rfl,rfl,⟨[.int .i64 x.f3],[.int .i64 x.f4,.slice A5 x.f5.length c5,.int .i64 x.f6,.bool x.f7],rfl,rfl,⟨[.int .i64 x.f4],[.slice A5 x.f5.length c5,.int .i64 x.f6,.bool x.f7],rfl,rfl,⟨[.slice A5 x.f5.length c5],[.int .i64 x.f6,.bool x.f7],rfl,⟨A5,c5,rfl,l5,g5⟩,⟨[.int .i64 x.f6],[.bool x.f7],rfl,rfl,rfl⟩⟩⟩⟩⟩⟩⟩
theorem k61_mkM (w:World) (base:Nat) (ok:Nat→Prop) (x:S61) {v5:Value} (g5:k127.R 127 w base ok v5 x.f5):k61.M w base ok x [.int .i64 x.f0,.int .i64 x.f1,.int .i64 x.f2,.int .i64 x.f3,.int .i64 x.f4,v5,.int .i64 x.f6,.bool x.f7]:=⟨[.int .i64 x.f0],[.int .i64 x.f1,.int .i64 x.f2,.int .i64 x.f3,.int .i64 x.f4,v5,.int .i64 x.f6,.bool x.f7],rfl,rfl,⟨[.int .i64 x.f1],[.int .i64 x.f2,.int .i64 x.f3,.int .i64 x.f4,v5,.int .i64 x.f6,.bool x.f7],rfl,rfl,⟨[.int .i64 x.f2],[.int .i64 x.f3,.int .i64 x.f4,v5,.int .i64 x.f6,.bool x.f7],rfl,rfl,⟨[.int .i64 x.f3],[.int .i64 x.f4,v5,.int .i64 x.f6,.bool x.f7],rfl,rfl,⟨[.int .i64 x.f4],[v5,.int .i64 x.f6,.bool x.f7],rfl,rfl,⟨[v5],[.int .i64 x.f6,.bool x.f7],rfl,⟨v5,rfl,g5⟩,⟨[.int .i64 x.f6],[.bool x.f7],rfl,rfl,rfl⟩⟩⟩⟩⟩⟩⟩
theorem k61_openF {W:World} {ok:Nat→Prop} {x:S61} {cs:List Value} (h:Kd.FK k61 W ok x cs):∃A5 c5,cs=[.int .i64 x.f0,.int .i64 x.f1,.int .i64 x.f2,.int .i64 x.f3,.int .i64 x.f4,.slice A5 x.f5.length c5,.int .i64 x.f6,.bool x.f7]∧x.f5.length≤c5∧Kd.F k127 W ok A5 x.f5.length x.f5:=by
  obtain ⟨A5,c5,rfl,l5,_⟩:=k61_open (Kd.FK_now h)
  exact ⟨A5,c5,rfl,l5,(fun W' hW=> by obtain ⟨A5_,c5_,he,l5_,g5_⟩:=k61_open (h W' hW);injection (Option.some.inj (show some (Value.slice A5 x.f5.length c5)=some (Value.slice A5_ x.f5.length c5_) from congrArg (fun l=> l[5]?) he)) with ha_ _ _;rw [ha_];exact g5_)⟩
theorem k61_mkF (W:World) (ok:Nat→Prop) (x:S61) {A5:Option Addr} {c5:Nat} (l5:x.f5.length≤c5) (g5:Kd.F k127 W ok A5 x.f5.length x.f5):Kd.FK k61 W ok x [.int .i64 x.f0,.int .i64 x.f1,.int .i64 x.f2,.int .i64 x.f3,.int .i64 x.f4,.slice A5 x.f5.length c5,.int .i64 x.f6,.bool x.f7]:=fun W2 hW=> k61_mk W2 x l5 (g5 W2 hW)
def rd_T61 (xs:List S61) (i:Int):S61:=xs.getD i.toNat z61
theorem at_T61 {w:World} {A:Option Addr} {n:Nat} {xs:List S61} (h:Kd.C k61 w A n xs) (i:Int) (h0:0≤i) (h1:i<n):∃ad A5 c5,A=some ad∧w.cell? (ad.add (i.toNat*8))=some (.int .i64 (rd_T61 xs i).f0)∧w.cell? ⟨(ad.add (i.toNat*8)).block,(ad.add (i.toNat*8)).off+1,none⟩=some (.int .i64 (rd_T61 xs i).f1)∧w.cell? ⟨(ad.add (i.toNat*8)).block,(ad.add (i.toNat*8)).off+2,none⟩=some (.int .i64 (rd_T61 xs i).f2)∧w.cell? ⟨(ad.add (i.toNat*8)).block,(ad.add (i.toNat*8)).off+3,none⟩=some (.int .i64 (rd_T61 xs i).f3)∧w.cell? ⟨(ad.add (i.toNat*8)).block,(ad.add (i.toNat*8)).off+4,none⟩=some (.int .i64 (rd_T61 xs i).f4)∧w.cell? ⟨(ad.add (i.toNat*8)).block,(ad.add (i.toNat*8)).off+5,none⟩=some (.slice A5 (rd_T61 xs i).f5.length c5)∧w.cell? ⟨(ad.add (i.toNat*8)).block,(ad.add (i.toNat*8)).off+6,none⟩=some (.int .i64 (rd_T61 xs i).f6)∧w.cell? ⟨(ad.add (i.toNat*8)).block,(ad.add (i.toNat*8)).off+7,none⟩=some (.bool (rd_T61 xs i).f7)∧(rd_T61 xs i).f5.length≤c5∧k127.C w A5 (rd_T61 xs i).f5.length (rd_T61 xs i).f5:=by
  obtain ⟨ad,c,e,_,hK,hc0⟩:=Kd.C_get h z61 i h0 h1
  have hc:∀j u,c[j]? =some u→w.cell? (ad.add (i.toNat*8+j))=some u:=hc0
  obtain ⟨A5,c5,rfl,l5,g5⟩:=k61_open hK
  exact ⟨ad,A5,c5,e,hc 0 _ rfl,by rw [←add_field _ _ 1 (by omega)];exact hc 1 _ rfl,by rw [←add_field _ _ 2 (by omega)];exact hc 2 _ rfl,by rw [←add_field _ _ 3 (by omega)];exact hc 3 _ rfl,by rw [←add_field _ _ 4 (by omega)];exact hc 4 _ rfl,by rw [←add_field _ _ 5 (by omega)];exact hc 5 _ rfl,by rw [←add_field _ _ 6 (by omega)];exact hc 6 _ rfl,by rw [←add_field _ _ 7 (by omega)];exact hc 7 _ rfl,l5,g5⟩

end Go.Proofs.Ythjmdiggglkeaaa.Q

/- Words for the walks' tails: default proofs. -/



namespace Go.Proofs.YthjmdiggglkeaaaW.PrintWords
open Go.RowKit
section
open Go.Proofs.YthjmdiggglkeaaaW.PrintLast Go.Proofs.YthjmdiggglkeaaaW.PrintWords Go.Proofs.YthjmdiggglkeaaaW.PrintMore
variable {P:Program} {md:Region.Mode} {ops:Array Oper} {Q:Exit→Act→World→Prop} {S:World→Prop} {ds:List Nat}
/- The steps' tails, by default proofs. -/
theorem put_q {α:Sort _} {a b:α} (h:a=b:=by simp only [Act.put,List.setIfInBounds_toArray,List.set_cons_zero,List.set_cons_succ,i64_w,i32_w];rfl):a=b:=h
theorem pq_ (i n:Nat) {oi:Oper} {v:Value} {fuel:Nat} {l:Array Bool} {a a':Act} {w:World} {T:Bool×List (List Nat×List Nat)} (l':Array Bool) (hT:rtab md ops=T) (hi:ops[i]? =some oi) (hN:oi.dst=some n)
    (h:wpAnyLast P md ops Q S ds fuel l' a' w) (hc:anyT T l.toList l'.toList i=true:=by kernel_rfl)
    (hQ:∀c a w,Q (.panic c) (a.put oi.dst v) w→Q (.panic c) a w:=by exact fun _ _ _ h=> h)
    (hw:Region.wanted oi (yielded ops a.tmps)=true:=by rfl)
    (hy:∀w,(execOp a.eval oi).run P w=.ok (.value v) w:=by intro _;go_simp;with_reducible rfl)
    (ha:a.put (some n) v=a':=by simp only [Act.put,List.setIfInBounds_toArray,List.set_cons_zero,List.set_cons_succ,i64_w,i32_w];rfl):wpAnyLast P md ops Q S ds (fuel+1) l a w:=
  pure_ l' hi hN (any_of hT hc) hQ (Or.inl ⟨hw,hy⟩) ha h
theorem mp_q {p:Prop} (h:p:=by (try simp only [List.map_toArray,List.map_cons,List.map_nil]);first | done | rfl | (simp only [List.length_drop,List.length_take];rfl)):p:=h
theorem bw_q {p q:Prop} (h:Aside0 p) (hq:p→q:=by intro h;repeat (first | (with_reducible first | exact h | apply below_alloc | apply pw_below_drewN | apply below_drew1 | refine below_set ?_ (Aside0.out (by with_reducible assumption))) | exact h)):q:=hq h.out
theorem bk_q {p q:Prop} (h:Aside0 p) (hq:p→q:=by intro h;(with_reducible repeat (first | refine blk_drewN ?_ _ | refine blk_drew ?_ | refine blk_alloc ?_ _));exact h):q:=hq h.out
theorem kV_q {p q:Prop} (h:Aside0 p) (hq:p→q:=by intro h;(with_reducible repeat (first | apply Kd.V_alloc | apply Kd.V_drewN | apply Kd.V_drew));exact h):q:=hq h.out
theorem kS_q {p q:Prop} (h:Aside0 p) (hq:p→q:=by intro h;(with_reducible repeat (first | apply Kd.S_alloc | apply Kd.S_drewN | apply Kd.S_drew));exact h):q:=hq h.out
theorem kN_q {p q:Prop} (h:Aside0 p) (hq:p→q:=by intro h;(with_reducible repeat (first | apply Kd.N_alloc | apply Kd.N_drewN | apply Kd.N_drew));exact h):q:=hq h.out
theorem kR_q {p q:Prop} (h:Aside0 p) (hq:p→q:=by intro h;(with_reducible repeat (first | apply Kd.R_alloc | apply Kd.R_drewN | apply Kd.R_drew));exact h):q:=hq h.out
theorem kQ_q {p q:Prop} (h:Aside0 p) (hq:p→q:=by intro h;(with_reducible repeat (first | apply Kd.Q_alloc | apply Kd.Q_drewN | apply Kd.Q_drew));exact h):q:=hq h.out
theorem cs_q {p q:Prop} (h:p) (hq:p→q:=by intro h;repeat (first | exact h | (with_reducible refine Kd.C_alloc ?_ _) | (with_reducible refine Kd.C_drewN ?_ _) | (with_reducible refine Kd.C_drew ?_))):q:=hq h
theorem er_q {p:Prop} (h:p:=by first | rfl | (simp [errW_none,errW_some] <;> rfl) | (simp [*,errW_none,errW_some] <;> rfl)):p:=h
end
end Go.Proofs.YthjmdiggglkeaaaW.PrintWords

/- Words for the walks' tails, more of them. -/

namespace Go.Proofs.YthjmdiggglkeaaaW.PrintWords
open Go.RowKit
section
open Go.Proofs.YthjmdiggglkeaaaW.PrintLast Go.Proofs.YthjmdiggglkeaaaW.PrintWords Go.Proofs.YthjmdiggglkeaaaW.PrintMore
variable {P:Program} {md:Region.Mode} {ops:Array Oper} {Q:Exit→Act→World→Prop} {S:World→Prop} {ds:List Nat}
theorem pu_ (i n:Nat) {oi:Oper} {fuel:Nat} {l:Array Bool} {a a':Act} {w:World} {T:Bool×List (List Nat×List Nat)} (l':Array Bool) (hT:rtab md ops=T) (hi:ops[i]? =some oi) (hN:oi.dst=some n)
    (h:wpAnyLast P md ops Q S ds fuel l' a' w) (hc:anyT T l.toList l'.toList i=true:=by kernel_rfl)
    (hQ:∀c a w,Q (.panic c) (a.put oi.dst undef) w→Q (.panic c) a w:=by exact fun _ _ _ h=> h)
    (hw:Region.wanted oi (yielded ops a.tmps)=false:=by rfl)
    (ha:a.put (some n) undef=a':=by simp only [Act.put,List.setIfInBounds_toArray,List.set_cons_zero,List.set_cons_succ,i64_w,i32_w];rfl):wpAnyLast P md ops Q S ds (fuel+1) l a w:=
  pure_ l' hi hN (any_of hT hc) hQ (Or.inr ⟨hw,rfl⟩) ha h
theorem pr_ (i n:Nat) {oi:Oper} {v:Value} {fuel:Nat} {l:Array Bool} {a a':Act} {w:World} (l':Array Bool) (hi:ops[i]? =some oi) (hN:oi.dst=some n)
    (h:wpAnyLast P md ops Q S ds fuel l' a' w) (hc:anyB md ops l l' i=true:=by kernel_rfl)
    (hQ:∀c a w,Q (.panic c) (a.put oi.dst v) w→Q (.panic c) a w:=by exact fun _ _ _ h=> h)
    (hw:Region.wanted oi (yielded ops a.tmps)=true:=by rfl)
    (hy:∀w,(execOp a.eval oi).run P w=.ok (.value v) w:=by intro _;go_simp;with_reducible rfl)
    (ha:a.put (some n) v=a':=by simp only [Act.put,List.setIfInBounds_toArray,List.set_cons_zero,List.set_cons_succ,i64_w,i32_w];rfl):wpAnyLast P md ops Q S ds (fuel+1) l a w:=
  pure_ l' hi hN hc hQ (Or.inl ⟨hw,hy⟩) ha h
theorem bz_ {p q:Prop} (h:p) (hq:p→q:=by intro h;(with_reducible repeat (first | refine blk_drewN ?_ _ | refine blk_drew ?_ | refine blk_alloc ?_ _));exact h):q:=hq h
theorem as_q {p:Prop} (h:p:=by first | (with_reducible assumption) | assumption):p:=h
theorem box_q {rest:List Oper} {o:Oper} {a:Act} {W:World} (N:Tmp) (cs:Array Value) (t:TypeId)
    (h:∀g,g=W.heap.size→∀w1,w1.heap[g]? =some (.cells cs t (0,0))→Below W.heap.size W w1→wpList P ops Q rest (a.put o.dst (.pointer (some ⟨g,0,none⟩))) w1)
    (hd:o.dst=some N:=by rfl) (hgd:o.guard=none:=by rfl)
    (hrun:(execOp a.eval o).run P W=.ok (.value (.pointer (some ⟨W.heap.size,0,none⟩))) (W.alloc (.cells cs t (0,0))):=by first | (go_simp;done) | (go_simp;rfl)):wpList P ops Q (o::rest) a W:=box_event hgd hd hrun h
variable {w:World} {g:Nat} {t:TypeId} {c0 c1 c2 c3 c4 c5 c6 c7:Value}
theorem cz2_ (h:Aside0 (w.heap[g]? =some (.cells #[c0,c1] t (0,0)))):w.cell? ⟨g,0,none⟩=some c0∧w.cell? ⟨g,1,none⟩=some c1:=⟨(blk_cell h.out 0).trans rfl,(blk_cell h.out 1).trans rfl⟩
theorem cz3_ (h:Aside0 (w.heap[g]? =some (.cells #[c0,c1,c2] t (0,0)))):w.cell? ⟨g,0,none⟩=some c0∧w.cell? ⟨g,1,none⟩=some c1∧w.cell? ⟨g,2,none⟩=some c2:=⟨(blk_cell h.out 0).trans rfl,(blk_cell h.out 1).trans rfl,(blk_cell h.out 2).trans rfl⟩
theorem cz4_ (h:Aside0 (w.heap[g]? =some (.cells #[c0,c1,c2,c3] t (0,0)))):w.cell? ⟨g,0,none⟩=some c0∧w.cell? ⟨g,1,none⟩=some c1∧w.cell? ⟨g,2,none⟩=some c2∧w.cell? ⟨g,3,none⟩=some c3:=⟨(blk_cell h.out 0).trans rfl,(blk_cell h.out 1).trans rfl,(blk_cell h.out 2).trans rfl,(blk_cell h.out 3).trans rfl⟩
theorem cz7_ (h:Aside0 (w.heap[g]? =some (.cells #[c0,c1,c2,c3,c4,c5,c6] t (0,0)))):w.cell? ⟨g,0,none⟩=some c0∧w.cell? ⟨g,1,none⟩=some c1∧w.cell? ⟨g,2,none⟩=some c2∧w.cell? ⟨g,3,none⟩=some c3∧w.cell? ⟨g,4,none⟩=some c4∧w.cell? ⟨g,5,none⟩=some c5∧w.cell? ⟨g,6,none⟩=some c6:=⟨(blk_cell h.out 0).trans rfl,(blk_cell h.out 1).trans rfl,(blk_cell h.out 2).trans rfl,(blk_cell h.out 3).trans rfl,(blk_cell h.out 4).trans rfl,(blk_cell h.out 5).trans rfl,(blk_cell h.out 6).trans rfl⟩
theorem cz8_ (h:Aside0 (w.heap[g]? =some (.cells #[c0,c1,c2,c3,c4,c5,c6,c7] t (0,0)))):w.cell? ⟨g,0,none⟩=some c0∧w.cell? ⟨g,1,none⟩=some c1∧w.cell? ⟨g,2,none⟩=some c2∧w.cell? ⟨g,3,none⟩=some c3∧w.cell? ⟨g,4,none⟩=some c4∧w.cell? ⟨g,5,none⟩=some c5∧w.cell? ⟨g,6,none⟩=some c6∧w.cell? ⟨g,7,none⟩=some c7:=⟨(blk_cell h.out 0).trans rfl,(blk_cell h.out 1).trans rfl,(blk_cell h.out 2).trans rfl,(blk_cell h.out 3).trans rfl,(blk_cell h.out 4).trans rfl,(blk_cell h.out 5).trans rfl,(blk_cell h.out 6).trans rfl,(blk_cell h.out 7).trans rfl⟩
theorem fz2_ {cs:Array Value} (h:Aside0 (w.heap[g]? =some (.cells cs t (0,0)))):w.frozen? ⟨g,0,none⟩=false∧w.frozen? ⟨g,1,none⟩=false:=⟨blk_frozen h.out 0,blk_frozen h.out 1⟩
theorem fz3_ {cs:Array Value} (h:Aside0 (w.heap[g]? =some (.cells cs t (0,0)))):w.frozen? ⟨g,0,none⟩=false∧w.frozen? ⟨g,1,none⟩=false∧w.frozen? ⟨g,2,none⟩=false:=⟨blk_frozen h.out 0,blk_frozen h.out 1,blk_frozen h.out 2⟩
theorem fz4_ {cs:Array Value} (h:Aside0 (w.heap[g]? =some (.cells cs t (0,0)))):w.frozen? ⟨g,0,none⟩=false∧w.frozen? ⟨g,1,none⟩=false∧w.frozen? ⟨g,2,none⟩=false∧w.frozen? ⟨g,3,none⟩=false:=⟨blk_frozen h.out 0,blk_frozen h.out 1,blk_frozen h.out 2,blk_frozen h.out 3⟩
theorem fz7_ {cs:Array Value} (h:Aside0 (w.heap[g]? =some (.cells cs t (0,0)))):w.frozen? ⟨g,0,none⟩=false∧w.frozen? ⟨g,1,none⟩=false∧w.frozen? ⟨g,2,none⟩=false∧w.frozen? ⟨g,3,none⟩=false∧w.frozen? ⟨g,4,none⟩=false∧w.frozen? ⟨g,5,none⟩=false∧w.frozen? ⟨g,6,none⟩=false:=⟨blk_frozen h.out 0,blk_frozen h.out 1,blk_frozen h.out 2,blk_frozen h.out 3,blk_frozen h.out 4,blk_frozen h.out 5,blk_frozen h.out 6⟩
theorem fz8_ {cs:Array Value} (h:Aside0 (w.heap[g]? =some (.cells cs t (0,0)))):w.frozen? ⟨g,0,none⟩=false∧w.frozen? ⟨g,1,none⟩=false∧w.frozen? ⟨g,2,none⟩=false∧w.frozen? ⟨g,3,none⟩=false∧w.frozen? ⟨g,4,none⟩=false∧w.frozen? ⟨g,5,none⟩=false∧w.frozen? ⟨g,6,none⟩=false∧w.frozen? ⟨g,7,none⟩=false:=⟨blk_frozen h.out 0,blk_frozen h.out 1,blk_frozen h.out 2,blk_frozen h.out 3,blk_frozen h.out 4,blk_frozen h.out 5,blk_frozen h.out 6,blk_frozen h.out 7⟩
theorem cz5_ (h:Aside0 (w.heap[g]? =some (.cells #[c0,c1,c2,c3,c4] t (0,0)))):w.cell? ⟨g,0,none⟩=some c0∧w.cell? ⟨g,1,none⟩=some c1∧w.cell? ⟨g,2,none⟩=some c2∧w.cell? ⟨g,3,none⟩=some c3∧w.cell? ⟨g,4,none⟩=some c4:=⟨(blk_cell h.out 0).trans rfl,(blk_cell h.out 1).trans rfl,(blk_cell h.out 2).trans rfl,(blk_cell h.out 3).trans rfl,(blk_cell h.out 4).trans rfl⟩
theorem cz6_ (h:Aside0 (w.heap[g]? =some (.cells #[c0,c1,c2,c3,c4,c5] t (0,0)))):w.cell? ⟨g,0,none⟩=some c0∧w.cell? ⟨g,1,none⟩=some c1∧w.cell? ⟨g,2,none⟩=some c2∧w.cell? ⟨g,3,none⟩=some c3∧w.cell? ⟨g,4,none⟩=some c4∧w.cell? ⟨g,5,none⟩=some c5:=⟨(blk_cell h.out 0).trans rfl,(blk_cell h.out 1).trans rfl,(blk_cell h.out 2).trans rfl,(blk_cell h.out 3).trans rfl,(blk_cell h.out 4).trans rfl,(blk_cell h.out 5).trans rfl⟩
theorem fz5_ {cs:Array Value} (h:Aside0 (w.heap[g]? =some (.cells cs t (0,0)))):w.frozen? ⟨g,0,none⟩=false∧w.frozen? ⟨g,1,none⟩=false∧w.frozen? ⟨g,2,none⟩=false∧w.frozen? ⟨g,3,none⟩=false∧w.frozen? ⟨g,4,none⟩=false:=⟨blk_frozen h.out 0,blk_frozen h.out 1,blk_frozen h.out 2,blk_frozen h.out 3,blk_frozen h.out 4⟩
theorem fz6_ {cs:Array Value} (h:Aside0 (w.heap[g]? =some (.cells cs t (0,0)))):w.frozen? ⟨g,0,none⟩=false∧w.frozen? ⟨g,1,none⟩=false∧w.frozen? ⟨g,2,none⟩=false∧w.frozen? ⟨g,3,none⟩=false∧w.frozen? ⟨g,4,none⟩=false∧w.frozen? ⟨g,5,none⟩=false:=⟨blk_frozen h.out 0,blk_frozen h.out 1,blk_frozen h.out 2,blk_frozen h.out 3,blk_frozen h.out 4,blk_frozen h.out 5⟩
theorem ak {p:Prop} (h:p):Aside0 p:=⟨h⟩
theorem gsz (w:World) {b g:Nat} (h:w.heap.size≤b) (hg:g=b):Aside0 (w.heap.size≤g):=⟨hg▸h⟩
theorem cf2_ (h:Aside0 (w.heap[g]? =some (.cells #[c0,c1] t (0,0)))):w.cell? ⟨g,0,none⟩=some c0∧w.cell? ⟨g,1,none⟩=some c1∧w.frozen? ⟨g,0,none⟩=false∧w.frozen? ⟨g,1,none⟩=false:=⟨(blk_cell h.out 0).trans rfl,(blk_cell h.out 1).trans rfl,blk_frozen h.out 0,blk_frozen h.out 1⟩
theorem cf3_ (h:Aside0 (w.heap[g]? =some (.cells #[c0,c1,c2] t (0,0)))):w.cell? ⟨g,0,none⟩=some c0∧w.cell? ⟨g,1,none⟩=some c1∧w.cell? ⟨g,2,none⟩=some c2∧w.frozen? ⟨g,0,none⟩=false∧w.frozen? ⟨g,1,none⟩=false∧w.frozen? ⟨g,2,none⟩=false:=⟨(blk_cell h.out 0).trans rfl,(blk_cell h.out 1).trans rfl,(blk_cell h.out 2).trans rfl,blk_frozen h.out 0,blk_frozen h.out 1,blk_frozen h.out 2⟩
theorem cf4_ (h:Aside0 (w.heap[g]? =some (.cells #[c0,c1,c2,c3] t (0,0)))):w.cell? ⟨g,0,none⟩=some c0∧w.cell? ⟨g,1,none⟩=some c1∧w.cell? ⟨g,2,none⟩=some c2∧w.cell? ⟨g,3,none⟩=some c3∧w.frozen? ⟨g,0,none⟩=false∧w.frozen? ⟨g,1,none⟩=false∧w.frozen? ⟨g,2,none⟩=false∧w.frozen? ⟨g,3,none⟩=false:=⟨(blk_cell h.out 0).trans rfl,(blk_cell h.out 1).trans rfl,(blk_cell h.out 2).trans rfl,(blk_cell h.out 3).trans rfl,blk_frozen h.out 0,blk_frozen h.out 1,blk_frozen h.out 2,blk_frozen h.out 3⟩
theorem cf5_ (h:Aside0 (w.heap[g]? =some (.cells #[c0,c1,c2,c3,c4] t (0,0)))):w.cell? ⟨g,0,none⟩=some c0∧w.cell? ⟨g,1,none⟩=some c1∧w.cell? ⟨g,2,none⟩=some c2∧w.cell? ⟨g,3,none⟩=some c3∧w.cell? ⟨g,4,none⟩=some c4∧w.frozen? ⟨g,0,none⟩=false∧w.frozen? ⟨g,1,none⟩=false∧w.frozen? ⟨g,2,none⟩=false∧w.frozen? ⟨g,3,none⟩=false∧w.frozen? ⟨g,4,none⟩=false:=⟨(blk_cell h.out 0).trans rfl,(blk_cell h.out 1).trans rfl,(blk_cell h.out 2).trans rfl,(blk_cell h.out 3).trans rfl,(blk_cell h.out 4).trans rfl,blk_frozen h.out 0,blk_frozen h.out 1,blk_frozen h.out 2,blk_frozen h.out 3,blk_frozen h.out 4⟩
theorem cf6_ (h:Aside0 (w.heap[g]? =some (.cells #[c0,c1,c2,c3,c4,c5] t (0,0)))):w.cell? ⟨g,0,none⟩=some c0∧w.cell? ⟨g,1,none⟩=some c1∧w.cell? ⟨g,2,none⟩=some c2∧w.cell? ⟨g,3,none⟩=some c3∧w.cell? ⟨g,4,none⟩=some c4∧w.cell? ⟨g,5,none⟩=some c5∧w.frozen? ⟨g,0,none⟩=false∧w.frozen? ⟨g,1,none⟩=false∧w.frozen? ⟨g,2,none⟩=false∧w.frozen? ⟨g,3,none⟩=false∧w.frozen? ⟨g,4,none⟩=false∧w.frozen? ⟨g,5,none⟩=false:=⟨(blk_cell h.out 0).trans rfl,(blk_cell h.out 1).trans rfl,(blk_cell h.out 2).trans rfl,(blk_cell h.out 3).trans rfl,(blk_cell h.out 4).trans rfl,(blk_cell h.out 5).trans rfl,blk_frozen h.out 0,blk_frozen h.out 1,blk_frozen h.out 2,blk_frozen h.out 3,blk_frozen h.out 4,blk_frozen h.out 5⟩
theorem cf7_ (h:Aside0 (w.heap[g]? =some (.cells #[c0,c1,c2,c3,c4,c5,c6] t (0,0)))):w.cell? ⟨g,0,none⟩=some c0∧w.cell? ⟨g,1,none⟩=some c1∧w.cell? ⟨g,2,none⟩=some c2∧w.cell? ⟨g,3,none⟩=some c3∧w.cell? ⟨g,4,none⟩=some c4∧w.cell? ⟨g,5,none⟩=some c5∧w.cell? ⟨g,6,none⟩=some c6∧w.frozen? ⟨g,0,none⟩=false∧w.frozen? ⟨g,1,none⟩=false∧w.frozen? ⟨g,2,none⟩=false∧w.frozen? ⟨g,3,none⟩=false∧w.frozen? ⟨g,4,none⟩=false∧w.frozen? ⟨g,5,none⟩=false∧w.frozen? ⟨g,6,none⟩=false:=⟨(blk_cell h.out 0).trans rfl,(blk_cell h.out 1).trans rfl,(blk_cell h.out 2).trans rfl,(blk_cell h.out 3).trans rfl,(blk_cell h.out 4).trans rfl,(blk_cell h.out 5).trans rfl,(blk_cell h.out 6).trans rfl,blk_frozen h.out 0,blk_frozen h.out 1,blk_frozen h.out 2,blk_frozen h.out 3,blk_frozen h.out 4,blk_frozen h.out 5,blk_frozen h.out 6⟩
theorem cf8_ (h:Aside0 (w.heap[g]? =some (.cells #[c0,c1,c2,c3,c4,c5,c6,c7] t (0,0)))):w.cell? ⟨g,0,none⟩=some c0∧w.cell? ⟨g,1,none⟩=some c1∧w.cell? ⟨g,2,none⟩=some c2∧w.cell? ⟨g,3,none⟩=some c3∧w.cell? ⟨g,4,none⟩=some c4∧w.cell? ⟨g,5,none⟩=some c5∧w.cell? ⟨g,6,none⟩=some c6∧w.cell? ⟨g,7,none⟩=some c7∧w.frozen? ⟨g,0,none⟩=false∧w.frozen? ⟨g,1,none⟩=false∧w.frozen? ⟨g,2,none⟩=false∧w.frozen? ⟨g,3,none⟩=false∧w.frozen? ⟨g,4,none⟩=false∧w.frozen? ⟨g,5,none⟩=false∧w.frozen? ⟨g,6,none⟩=false∧w.frozen? ⟨g,7,none⟩=false:=⟨(blk_cell h.out 0).trans rfl,(blk_cell h.out 1).trans rfl,(blk_cell h.out 2).trans rfl,(blk_cell h.out 3).trans rfl,(blk_cell h.out 4).trans rfl,(blk_cell h.out 5).trans rfl,(blk_cell h.out 6).trans rfl,(blk_cell h.out 7).trans rfl,blk_frozen h.out 0,blk_frozen h.out 1,blk_frozen h.out 2,blk_frozen h.out 3,blk_frozen h.out 4,blk_frozen h.out 5,blk_frozen h.out 6,blk_frozen h.out 7⟩
theorem rs_q {p:Prop} (h:p:=by first | rfl | (simp;done) | (simp [*];done)):p:=h
theorem dr_q {p:Prop} (h:p:=by repeat (first | exact Drawn0.refl _ | apply Drawn0.step)):p:=h
theorem hk_q {p q:Prop} (h:Aside0 p) (hq:p→q:=by intro h;repeat (first | (with_reducible first | exact h | apply Kept.alloc | apply Kept.drewN | apply Kept.drew) | exact h)):q:=hq h.out
theorem kb_q {p q:Prop} (h:Aside0 p) (hq:p→q:=by intro h;repeat (first | (with_reducible first | exact h | apply KeepBut.set_ | apply keep_drewN | apply keep_drew | apply keep_alloc) | exact h)):q:=hq h.out
theorem hbc {w W:World} {a:Addr} {v:Value} (h:Aside0 (Below w.heap.size w W)) (hc:w.cell? a=some v):W.cell? a=some v:=(h.out.cell (World.block_lt_of_cell? w _ hc)).trans hc
theorem bsi {α β:Type} {x:Option α} {f:α→Option β} {b:β} (h:x.bind f=some b):∃y,x=some y∧f y=some b:=Option.bind_eq_some_iff.mp h
theorem bnf {α:Type} [BEq α] [LawfulBEq α] {a b:α} (h:a=b):(a !=b)=false:=bne_eq_false_iff_eq.mpr h
theorem bqf {α:Type} [BEq α] [LawfulBEq α] {a b:α} (h:¬a=b):(a==b)=false:=beq_eq_false_iff_ne.mpr h
theorem bni {α:Type} [BEq α] [LawfulBEq α] {a b:α} (h:¬a=b):(a !=b)=true:=bne_iff_ne.mpr h
theorem bqi {α:Type} [BEq α] [LawfulBEq α] {a b:α} (h:a=b):(a==b)=true:=beq_iff_eq.mpr h
end
end Go.Proofs.YthjmdiggglkeaaaW.PrintWords

/- Words for the walks' tails, yet more of them. -/

namespace Go.Proofs.YthjmdiggglkeaaaW.PrintWords
open Go.RowKit
section
variable {α:Type} {d:Kd α} {e n c:Nat} {A:Option Addr} {W W2 w:World} {base:Nat} {ok S:Nat→Prop} {v:Value} {xs:List α} {p q:Prop} {g:Nat} {o:Obj}
theorem nl_ (h:Aside0 p) (x:q):Aside0 (q∧p):=⟨x,h.out⟩
theorem rb_ (h:Aside0 p) (hb:Below W.heap.size W W2) (hq:p→d.R e W base ok v xs:=by intro h;(with_reducible repeat (first | apply Kd.R_alloc | apply Kd.R_drewN | apply Kd.R_drew));exact h):Aside0 (d.R e W2 base ok v xs):=⟨Kd.R_below (hq h.out) hb⟩
theorem sb_ (h:Aside0 p) (hb:Below W.heap.size W W2) (hq:p→Kd.S d e W base ok v xs:=by intro h;(with_reducible repeat (first | apply Kd.S_alloc | apply Kd.S_drewN | apply Kd.S_drew));exact h):Aside0 (Kd.S d e W2 base ok v xs):=⟨Kd.S_below (hq h.out) hb⟩
theorem bb_ (h:Aside0 p) (hb:Below W.heap.size W W2) (hq:p→W.heap[g]? =some o:=by intro h;(with_reducible repeat (first | refine blk_drewN ?_ _ | refine blk_drew ?_ | refine blk_alloc ?_ _));exact h):Aside0 (W2.heap[g]? =some o):=⟨blk_below (hq h.out) hb⟩
theorem rk_ (N:Aside0 q) (h:Aside0 p) (hk:Kept W W2 S) (hq:p→d.R e W base ok v xs:=by intro h;(with_reducible repeat (first | apply Kd.R_alloc | apply Kd.R_drewN | apply Kd.R_drew));exact h) (hd:q→∀k,ok k→¬S k:=by intro h k a b;omega):Aside0 (d.R e W2 base ok v xs):=⟨Kd.R_kept (hq h.out) hk (hd N.out)⟩
theorem sk_ (N:Aside0 q) (h:Aside0 p) (hk:Kept W W2 S) (hq:p→Kd.S d e W base ok v xs:=by intro h;(with_reducible repeat (first | apply Kd.S_alloc | apply Kd.S_drewN | apply Kd.S_drew));exact h) (hd:q→∀k,ok k→¬S k:=by intro h k a b;omega):Aside0 (Kd.S d e W2 base ok v xs):=⟨Kd.S_kept (hq h.out) hk (hd N.out)⟩
theorem bK_ (N:Aside0 q) (h:Aside0 p) (hk:Kept W W2 S) (hq:p→W.heap[g]? =some o:=by intro h;(with_reducible repeat (first | refine blk_drewN ?_ _ | refine blk_drew ?_ | refine blk_alloc ?_ _));exact h) (hd:q→¬S g:=by intro h b;omega):Aside0 (W2.heap[g]? =some o):=⟨blk_kept (hq h.out) hk (hd N.out)⟩
theorem cr_ (h:Aside0 (d.R e w base ok (.slice A n c) xs)) (hq:d.C w A xs.length xs→q:=by intro h;repeat (first | exact h | (with_reducible refine Kd.C_alloc ?_ _) | (with_reducible refine Kd.C_drewN ?_ _) | (with_reducible refine Kd.C_drew ?_))):q:=hq (Kd.R_reads' h.out).2.2
theorem cS_ (h:Aside0 (Kd.S d e w base ok (.slice A n c) xs)) (hq:d.C w A xs.length xs→q:=by intro h;repeat (first | exact h | (with_reducible refine Kd.C_alloc ?_ _) | (with_reducible refine Kd.C_drewN ?_ _) | (with_reducible refine Kd.C_drew ?_))):q:=hq (Kd.S_reads' h.out).2.2
theorem lr_ (h:Aside0 (d.R e w base ok (.slice A n c) xs)):xs.length≤c:=(Kd.R_reads' h.out).1▸(Kd.R_reads' h.out).2.1
theorem lS_ (h:Aside0 (Kd.S d e w base ok (.slice A n c) xs)):xs.length≤c:=(Kd.S_reads' h.out).1▸(Kd.S_reads' h.out).2.1
theorem ch_ (h:Aside0 (d.C w A n xs)) (hb:Aside0 (Below w.heap.size w W)) (hq:d.C W A n xs→q:=by intro h;repeat (first | exact h | (with_reducible refine Kd.C_alloc ?_ _) | (with_reducible refine Kd.C_drewN ?_ _) | (with_reducible refine Kd.C_drew ?_))):q:=hq (Kd.C_below h.out hb.out)
theorem hB_ (h:Aside0 p) (hb:Below W.heap.size W W2) (hq:p→Below w.heap.size w W:=by intro h;repeat (first | (with_reducible first | exact h | apply below_alloc | apply pw_below_drewN | apply below_drew1 | refine below_set ?_ (Aside0.out (by with_reducible assumption))) | exact h)):Aside0 (Below w.heap.size w W2):=⟨below_step (hq h.out) hb⟩
end
section
variable {α:Type} {d:Kd α} {e n c i m:Nat} {A:Option Addr} {W W2 w w0:World} {base:Nat} {ok ok' S:Nat→Prop} {v:Value} {xs:List α} {p q:Prop} {g g' t:Nat} {o:Obj} {cs cs':Array Value}
theorem gs_ (HB:Aside0 (Below w.heap.size w w0)) (hg:g=W.heap.size) (hq:Below w.heap.size w w0→Below w.heap.size w W:=by intro h;repeat (first | (with_reducible first | exact h | apply below_alloc | apply pw_below_drewN | apply below_drew1 | refine below_set ?_ (Aside0.out (by with_reducible assumption))) | exact h)):Aside0 (w.heap.size≤g):=⟨hg▸(hq HB.out).size⟩
theorem nb_ (B:Aside0 (w0.heap[g]? =some o)) (hg:g'=W.heap.size) (hq:w0.heap[g]? =some o→W.heap[g]? =some o:=by intro h;(with_reducible repeat (first | refine blk_drewN ?_ _ | refine blk_drew ?_ | refine blk_alloc ?_ _));exact h):Aside0 (g≠g'):=⟨hg▸Nat.ne_of_lt (blk_lt (hq B.out))⟩
theorem nB_ (B:Aside0 (w0.heap[g]? =some o)) (hg:g'=W.heap.size) (hq:w0.heap[g]? =some o→W.heap[g]? =some o:=by intro h;(with_reducible repeat (first | refine blk_drewN ?_ _ | refine blk_drew ?_ | refine blk_alloc ?_ _));exact h):Aside0 (g'≠g):=⟨hg▸Nat.ne_of_gt (blk_lt (hq B.out))⟩
theorem bp_ (B:Aside0 (w0.heap[g]? =some (.cells cs' t (0,0)))) {cs1:Array Value} (hq:w0.heap[g]? =some (.cells cs' t (0,0))→W.heap[g]? =some (.cells cs1 t (0,0)):=by intro h;repeat (first | (with_reducible exact h) | (with_reducible first | refine blk_drewN ?_ _ | refine blk_drew ?_ | refine blk_alloc ?_ _ | apply blk_set | (apply blk_far;(case hp=> exact Aside0.out (by with_reducible assumption)))) | exact h)) (e:cs1=cs:=by first | (with_reducible rfl) | (simp only [List.setIfInBounds_toArray,List.set_cons_zero,List.set_cons_succ];done) | (simp only [List.setIfInBounds_toArray,List.set_cons_zero,List.set_cons_succ];rfl)):W.heap[g]? =some (.cells cs t (0,0)):=e▸hq B.out
theorem bB_ (cs:Array Value) (B:Aside0 (w0.heap[g]? =some (.cells cs' t (0,0)))) (hb:Below W.heap.size W W2) {cs1:Array Value} (hq:w0.heap[g]? =some (.cells cs' t (0,0))→W.heap[g]? =some (.cells cs1 t (0,0)):=by intro h;repeat (first | (with_reducible exact h) | (with_reducible first | refine blk_drewN ?_ _ | refine blk_drew ?_ | refine blk_alloc ?_ _ | apply blk_set | (apply blk_far;(case hp=> exact Aside0.out (by with_reducible assumption)))) | exact h)) (e:cs1=cs:=by first | (with_reducible rfl) | (simp only [List.setIfInBounds_toArray,List.set_cons_zero,List.set_cons_succ];done) | (simp only [List.setIfInBounds_toArray,List.set_cons_zero,List.set_cons_succ];rfl)):Aside0 (W2.heap[g]? =some (.cells cs t (0,0))):=⟨blk_below (e▸hq B.out) hb⟩
theorem bF_ (B:Aside0 (w0.heap[g]? =some o)) (hb:Below W.heap.size W W2) (hq:w0.heap[g]? =some o→W.heap[g]? =some o:=by intro h;repeat (first | (with_reducible exact h) | (with_reducible first | refine blk_drewN ?_ _ | refine blk_drew ?_ | refine blk_alloc ?_ _ | (apply blk_far;(case hp=> exact Aside0.out (by with_reducible assumption)))) | exact h)):Aside0 (W2.heap[g]? =some o):=⟨blk_below (hq B.out) hb⟩
theorem bG_ (B:Aside0 (w0.heap[g]? =some o)) {row:Option Nat} (hg:W.grownBy W2 row) (hn:some g≠row) (hq:w0.heap[g]? =some o→W.heap[g]? =some o:=by intro h;(with_reducible repeat (first | refine blk_drewN ?_ _ | refine blk_drew ?_ | refine blk_alloc ?_ _));exact h):Aside0 (W2.heap[g]? =some o):=⟨blk_grown (hq B.out) hg hn⟩
theorem rF_ (h:d.R e w base (fun k=> ok k∧k≠g) v xs) (hq:d.R e w base (fun k=> ok k∧k≠g) v xs→d.R e W base (fun k=> ok k∧k≠g) v xs:=by intro h;repeat (first | (with_reducible exact h) | (with_reducible first | apply Kd.R_alloc | apply Kd.R_drewN | apply Kd.R_drew | (apply Kd.R_far;(case hok=> exact fun _ hk=> hk.2)) | (apply Kd.R_far;(case hok=> exact fun _ hk=> hk.1.2)) | (apply Kd.R_far;(case hok=> exact fun _ hk=> hk.1.1.2))) | exact h)):d.R e W base (fun k=> ok k∧k≠g) v xs:=hq h
theorem sF_ (h:Kd.S d e w base (fun k=> ok k∧k≠g) v xs) (hq:Kd.S d e w base (fun k=> ok k∧k≠g) v xs→Kd.S d e W base (fun k=> ok k∧k≠g) v xs:=by intro h;repeat (first | (with_reducible exact h) | (with_reducible first | apply Kd.S_alloc | apply Kd.S_drewN | apply Kd.S_drew | (apply Kd.S_far;(case hok=> exact fun _ hk=> hk.2)) | (apply Kd.S_far;(case hok=> exact fun _ hk=> hk.1.2)) | (apply Kd.S_far;(case hok=> exact fun _ hk=> hk.1.1.2))) | exact h)):Kd.S d e W base (fun k=> ok k∧k≠g) v xs:=hq h
end
section
variable {w W:World} {g t:Nat} {a:Addr}
abbrev cl2 (w:World) (g:Nat) (a0 a1:Value):Prop:=w.cell? ⟨g,0,none⟩=some a0∧w.cell? ⟨g,1,none⟩=some a1
abbrev el2 (w:World) (a:Addr) (a0 a1:Value):Prop:=w.cell? a=some a0∧w.cell? ⟨a.block,a.off+1,none⟩=some a1
theorem hb2_ {p1:Addr} {a0 a1:Value} (h:Aside0 (Below w.heap.size w W)) (h0:w.cell? a=some a0) (h1:w.cell? p1=some a1) {q:Prop} (hq:(W.cell? a=some a0∧W.cell? p1=some a1)→q:=by intro h;exact h):q:=hq ⟨hbc h h0,hbc h h1⟩
abbrev cl3 (w:World) (g:Nat) (a0 a1 a2:Value):Prop:=w.cell? ⟨g,0,none⟩=some a0∧w.cell? ⟨g,1,none⟩=some a1∧w.cell? ⟨g,2,none⟩=some a2
abbrev el3 (w:World) (a:Addr) (a0 a1 a2:Value):Prop:=w.cell? a=some a0∧w.cell? ⟨a.block,a.off+1,none⟩=some a1∧w.cell? ⟨a.block,a.off+2,none⟩=some a2
theorem hb3_ {p1 p2:Addr} {a0 a1 a2:Value} (h:Aside0 (Below w.heap.size w W)) (h0:w.cell? a=some a0) (h1:w.cell? p1=some a1) (h2:w.cell? p2=some a2) {q:Prop} (hq:(W.cell? a=some a0∧W.cell? p1=some a1∧W.cell? p2=some a2)→q:=by intro h;exact h):q:=hq ⟨hbc h h0,hbc h h1,hbc h h2⟩
abbrev cl4 (w:World) (g:Nat) (a0 a1 a2 a3:Value):Prop:=w.cell? ⟨g,0,none⟩=some a0∧w.cell? ⟨g,1,none⟩=some a1∧w.cell? ⟨g,2,none⟩=some a2∧w.cell? ⟨g,3,none⟩=some a3
abbrev el4 (w:World) (a:Addr) (a0 a1 a2 a3:Value):Prop:=w.cell? a=some a0∧w.cell? ⟨a.block,a.off+1,none⟩=some a1∧w.cell? ⟨a.block,a.off+2,none⟩=some a2∧w.cell? ⟨a.block,a.off+3,none⟩=some a3
theorem hb4_ {p1 p2 p3:Addr} {a0 a1 a2 a3:Value} (h:Aside0 (Below w.heap.size w W)) (h0:w.cell? a=some a0) (h1:w.cell? p1=some a1) (h2:w.cell? p2=some a2) (h3:w.cell? p3=some a3) {q:Prop} (hq:(W.cell? a=some a0∧W.cell? p1=some a1∧W.cell? p2=some a2∧W.cell? p3=some a3)→q:=by intro h;exact h):q:=hq ⟨hbc h h0,hbc h h1,hbc h h2,hbc h h3⟩
abbrev cl5 (w:World) (g:Nat) (a0 a1 a2 a3 a4:Value):Prop:=w.cell? ⟨g,0,none⟩=some a0∧w.cell? ⟨g,1,none⟩=some a1∧w.cell? ⟨g,2,none⟩=some a2∧w.cell? ⟨g,3,none⟩=some a3∧w.cell? ⟨g,4,none⟩=some a4
abbrev el5 (w:World) (a:Addr) (a0 a1 a2 a3 a4:Value):Prop:=w.cell? a=some a0∧w.cell? ⟨a.block,a.off+1,none⟩=some a1∧w.cell? ⟨a.block,a.off+2,none⟩=some a2∧w.cell? ⟨a.block,a.off+3,none⟩=some a3∧w.cell? ⟨a.block,a.off+4,none⟩=some a4
theorem hb5_ {p1 p2 p3 p4:Addr} {a0 a1 a2 a3 a4:Value} (h:Aside0 (Below w.heap.size w W)) (h0:w.cell? a=some a0) (h1:w.cell? p1=some a1) (h2:w.cell? p2=some a2) (h3:w.cell? p3=some a3) (h4:w.cell? p4=some a4) {q:Prop} (hq:(W.cell? a=some a0∧W.cell? p1=some a1∧W.cell? p2=some a2∧W.cell? p3=some a3∧W.cell? p4=some a4)→q:=by intro h;exact h):q:=hq ⟨hbc h h0,hbc h h1,hbc h h2,hbc h h3,hbc h h4⟩
abbrev cl6 (w:World) (g:Nat) (a0 a1 a2 a3 a4 a5:Value):Prop:=w.cell? ⟨g,0,none⟩=some a0∧w.cell? ⟨g,1,none⟩=some a1∧w.cell? ⟨g,2,none⟩=some a2∧w.cell? ⟨g,3,none⟩=some a3∧w.cell? ⟨g,4,none⟩=some a4∧w.cell? ⟨g,5,none⟩=some a5
abbrev el6 (w:World) (a:Addr) (a0 a1 a2 a3 a4 a5:Value):Prop:=w.cell? a=some a0∧w.cell? ⟨a.block,a.off+1,none⟩=some a1∧w.cell? ⟨a.block,a.off+2,none⟩=some a2∧w.cell? ⟨a.block,a.off+3,none⟩=some a3∧w.cell? ⟨a.block,a.off+4,none⟩=some a4∧w.cell? ⟨a.block,a.off+5,none⟩=some a5
theorem hb6_ {p1 p2 p3 p4 p5:Addr} {a0 a1 a2 a3 a4 a5:Value} (h:Aside0 (Below w.heap.size w W)) (h0:w.cell? a=some a0) (h1:w.cell? p1=some a1) (h2:w.cell? p2=some a2) (h3:w.cell? p3=some a3) (h4:w.cell? p4=some a4) (h5:w.cell? p5=some a5) {q:Prop} (hq:(W.cell? a=some a0∧W.cell? p1=some a1∧W.cell? p2=some a2∧W.cell? p3=some a3∧W.cell? p4=some a4∧W.cell? p5=some a5)→q:=by intro h;exact h):q:=hq ⟨hbc h h0,hbc h h1,hbc h h2,hbc h h3,hbc h h4,hbc h h5⟩
abbrev cl7 (w:World) (g:Nat) (a0 a1 a2 a3 a4 a5 a6:Value):Prop:=w.cell? ⟨g,0,none⟩=some a0∧w.cell? ⟨g,1,none⟩=some a1∧w.cell? ⟨g,2,none⟩=some a2∧w.cell? ⟨g,3,none⟩=some a3∧w.cell? ⟨g,4,none⟩=some a4∧w.cell? ⟨g,5,none⟩=some a5∧w.cell? ⟨g,6,none⟩=some a6
abbrev el7 (w:World) (a:Addr) (a0 a1 a2 a3 a4 a5 a6:Value):Prop:=w.cell? a=some a0∧w.cell? ⟨a.block,a.off+1,none⟩=some a1∧w.cell? ⟨a.block,a.off+2,none⟩=some a2∧w.cell? ⟨a.block,a.off+3,none⟩=some a3∧w.cell? ⟨a.block,a.off+4,none⟩=some a4∧w.cell? ⟨a.block,a.off+5,none⟩=some a5∧w.cell? ⟨a.block,a.off+6,none⟩=some a6
theorem hb7_ {p1 p2 p3 p4 p5 p6:Addr} {a0 a1 a2 a3 a4 a5 a6:Value} (h:Aside0 (Below w.heap.size w W)) (h0:w.cell? a=some a0) (h1:w.cell? p1=some a1) (h2:w.cell? p2=some a2) (h3:w.cell? p3=some a3) (h4:w.cell? p4=some a4) (h5:w.cell? p5=some a5) (h6:w.cell? p6=some a6) {q:Prop} (hq:(W.cell? a=some a0∧W.cell? p1=some a1∧W.cell? p2=some a2∧W.cell? p3=some a3∧W.cell? p4=some a4∧W.cell? p5=some a5∧W.cell? p6=some a6)→q:=by intro h;exact h):q:=hq ⟨hbc h h0,hbc h h1,hbc h h2,hbc h h3,hbc h h4,hbc h h5,hbc h h6⟩
abbrev cl8 (w:World) (g:Nat) (a0 a1 a2 a3 a4 a5 a6 a7:Value):Prop:=w.cell? ⟨g,0,none⟩=some a0∧w.cell? ⟨g,1,none⟩=some a1∧w.cell? ⟨g,2,none⟩=some a2∧w.cell? ⟨g,3,none⟩=some a3∧w.cell? ⟨g,4,none⟩=some a4∧w.cell? ⟨g,5,none⟩=some a5∧w.cell? ⟨g,6,none⟩=some a6∧w.cell? ⟨g,7,none⟩=some a7
abbrev el8 (w:World) (a:Addr) (a0 a1 a2 a3 a4 a5 a6 a7:Value):Prop:=w.cell? a=some a0∧w.cell? ⟨a.block,a.off+1,none⟩=some a1∧w.cell? ⟨a.block,a.off+2,none⟩=some a2∧w.cell? ⟨a.block,a.off+3,none⟩=some a3∧w.cell? ⟨a.block,a.off+4,none⟩=some a4∧w.cell? ⟨a.block,a.off+5,none⟩=some a5∧w.cell? ⟨a.block,a.off+6,none⟩=some a6∧w.cell? ⟨a.block,a.off+7,none⟩=some a7
theorem hb8_ {p1 p2 p3 p4 p5 p6 p7:Addr} {a0 a1 a2 a3 a4 a5 a6 a7:Value} (h:Aside0 (Below w.heap.size w W)) (h0:w.cell? a=some a0) (h1:w.cell? p1=some a1) (h2:w.cell? p2=some a2) (h3:w.cell? p3=some a3) (h4:w.cell? p4=some a4) (h5:w.cell? p5=some a5) (h6:w.cell? p6=some a6) (h7:w.cell? p7=some a7) {q:Prop} (hq:(W.cell? a=some a0∧W.cell? p1=some a1∧W.cell? p2=some a2∧W.cell? p3=some a3∧W.cell? p4=some a4∧W.cell? p5=some a5∧W.cell? p6=some a6∧W.cell? p7=some a7)→q:=by intro h;exact h):q:=hq ⟨hbc h h0,hbc h h1,hbc h h2,hbc h h3,hbc h h4,hbc h h5,hbc h h6,hbc h h7⟩
end
section
open Go.Proofs.YthjmdiggglkeaaaW.PrintLast Go.Proofs.YthjmdiggglkeaaaW.PrintWords Go.Proofs.YthjmdiggglkeaaaW.PrintMore
variable {P:Program} {md:Region.Mode} {ops:Array Oper} {Q:Exit→Act→World→Prop} {S:World→Prop} {ds:List Nat}
theorem lw_ {fuel:Nat} {l:Array Bool} {a:Act} {w:World} (T:World→Prop) (h0:T w) (hS:S w) (h:(T w∧S w)→wpAnyLast P md ops Q (fun w'=> T w'∧S w') [] fuel l a w):wpAnyLast P md ops Q S [] fuel l a w:=last_weaken (fun w'=> T w'∧S w') (fun _ h=> h.2) ⟨h0,hS⟩ h
theorem pU_ (i:Nat) {n k m:Nat} {oi:Oper} {fuel:Nat} {a a':Act} {w:World} {T:Bool×List (List Nat×List Nat)} (hT:Aside0 (rtab md ops=T))
    (h:wpAnyLast P md ops Q S ds fuel (bL k (m+2 ^ i)) a' w) (hi:ops[i]? =some oi:=by exact rfl) (hN:oi.dst=some n:=by exact rfl) (hc:anyT T (bL k m).toList (bL k (m+2 ^ i)).toList i=true:=by kernel_rfl)
    (hQ:∀c a w,Q (.panic c) (a.put oi.dst undef) w→Q (.panic c) a w:=by exact fun _ _ _ h=> h)
    (hw:Region.wanted oi (yielded ops a.tmps)=false:=by rfl)
    (ha:a.put (some n) undef=a':=by simp only [Act.put,List.setIfInBounds_toArray,List.set_cons_zero,List.set_cons_succ,i64_w,i32_w];rfl):wpAnyLast P md ops Q S ds (fuel+1) (bL k m) a w:=
  pure_ _ hi hN (any_of hT.out hc) hQ (Or.inr ⟨hw,rfl⟩) ha h
theorem pQ_ (i:Nat) {n k m:Nat} {oi:Oper} {v:Value} {fuel:Nat} {a a':Act} {w:World} {T:Bool×List (List Nat×List Nat)} (hT:Aside0 (rtab md ops=T))
    (h:wpAnyLast P md ops Q S ds fuel (bL k (m+2 ^ i)) a' w) (hi:ops[i]? =some oi:=by exact rfl) (hN:oi.dst=some n:=by exact rfl) (hc:anyT T (bL k m).toList (bL k (m+2 ^ i)).toList i=true:=by kernel_rfl)
    (hQ:∀c a w,Q (.panic c) (a.put oi.dst v) w→Q (.panic c) a w:=by exact fun _ _ _ h=> h)
    (hw:Region.wanted oi (yielded ops a.tmps)=true:=by rfl)
    (hy:∀w,(execOp a.eval oi).run P w=.ok (.value v) w:=by intro _;go_simp;with_reducible rfl)
    (ha:a.put (some n) v=a':=by simp only [Act.put,List.setIfInBounds_toArray,List.set_cons_zero,List.set_cons_succ,i64_w,i32_w];rfl):wpAnyLast P md ops Q S ds (fuel+1) (bL k m) a w:=
  pure_ _ hi hN (any_of hT.out hc) hQ (Or.inl ⟨hw,hy⟩) ha h
theorem pR_ (i:Nat) {n k m:Nat} {oi:Oper} {v:Value} {fuel:Nat} {a a':Act} {w:World}
    (h:wpAnyLast P md ops Q S ds fuel (bL k (m+2 ^ i)) a' w) (hi:ops[i]? =some oi:=by exact rfl) (hN:oi.dst=some n:=by exact rfl) (hc:anyB md ops (bL k m) (bL k (m+2 ^ i)) i=true:=by kernel_rfl)
    (hQ:∀c a w,Q (.panic c) (a.put oi.dst v) w→Q (.panic c) a w:=by exact fun _ _ _ h=> h)
    (hw:Region.wanted oi (yielded ops a.tmps)=true:=by rfl)
    (hy:∀w,(execOp a.eval oi).run P w=.ok (.value v) w:=by intro _;go_simp;with_reducible rfl)
    (ha:a.put (some n) v=a':=by simp only [Act.put,List.setIfInBounds_toArray,List.set_cons_zero,List.set_cons_succ,i64_w,i32_w];rfl):wpAnyLast P md ops Q S ds (fuel+1) (bL k m) a w:=
  pure_ _ hi hN hc hQ (Or.inl ⟨hw,hy⟩) ha h
theorem gC_ {o:Oper} {rest:List Oper} {a:Act} {W:World} (f:FuncId) {bs:Array Operand} {ts:Array TypeId} (h:wpList P ops Q (o::rest) a W) (_ho:o.op=.call {callee:=.value (.func f),args:=bs,argTypes:=ts}:=by exact rfl):wpList P ops Q (o::rest) a W:=h
theorem gM_ {rest:List Oper} {oi:Oper} {a:Act} {w:World} (N:Tmp) {f:FuncId} {fn:Func} {bs:Array Operand} {ts:Array TypeId} (hf:P.funcs[f]? =some fn) (args:Array Value)
    (hop:oi.op=.call {callee:=.value (.func f),args:=bs,argTypes:=ts}) (hargs:bs.map a.eval=args)
    (h:Calls P f args w fun e w'=> ∃v,e=.returned v∧wpList P ops Q rest (a.put (some N) v) w') (hd:oi.dst=some N:=by exact rfl) (hg:oi.guard=none:=by exact rfl) (hname:(fn.name== "runtime.NumGoroutine")=false:=by kernel_rfl) (hb:fn.body.isSome=true:=by exact rfl):wpList P ops Q (oi::rest) a w:=goesL_ (some N) hd hg hf hname hb args hop hargs h
theorem gL_ {rest:List Oper} {oi:Oper} {a:Act} {w:World} (N:Tmp) {f:FuncId} {fn:Func} {bs:Array Operand} {ts:Array TypeId} (hf:P.funcs[f]? =some fn) (args:Array Value)
    (h:Calls P f args w fun e w'=> ∃v,e=.returned v∧wpList P ops Q rest (a.put (some N) v) w')
    (hop:oi.op=.call {callee:=.value (.func f),args:=bs,argTypes:=ts}:=by exact rfl) (hd:oi.dst=some N:=by exact rfl) (hg:oi.guard=none:=by exact rfl) (hname:(fn.name== "runtime.NumGoroutine")=false:=by kernel_rfl) (hb:fn.body.isSome=true:=by exact rfl) (hargs:bs.map a.eval=args:=by (try simp only [List.map_toArray,List.map_cons,List.map_nil]);first | done | rfl | (simp only [List.length_drop,List.length_take];rfl)):wpList P ops Q (oi::rest) a w:=goesL_ (some N) hd hg hf hname hb args hop hargs h
theorem lo_q {p:Prop} (h:p:=by first | exact LeO.refl _ | exact LeO.none _):p:=h
end
end Go.Proofs.YthjmdiggglkeaaaW.PrintWords

/- The contract of a Go function. -/

namespace Go.Proofs.Ythjmdiggglkeaaa.Q
open Go.RowKit Go.Proofs.YthjmdiggglkeaaaW.PrintWords Go.Proofs.YthjmdiggglkeaaaW.PrintLast Go.Proofs.YthjmdiggglkeaaaW.PrintMore
attribute [local go_sem] max2_int min2_int max_two min_two max_three min_three max_four min_four   -- for this text's walks alone
set_option linter.unusedVariables false
set_option linter.unusedSimpArgs false

/-! ### laws_szLinkS: function 73 -/
def laws_szLinkS.f (l0:List (S134)) (a1:Int):Option (Int):=if (wrap64 (a1-(l0.length:Int)))<0 then (some (-1)) else (some (wrap64 (a1-(l0.length:Int))))
set_option maxHeartbeats 8000000 in
set_option maxRecDepth 100000 in
theorem laws_szLinkS.calls (A0:Option Addr) (c0:Nat) (l0:List (S134)) (a1:Int) (r:Int) (w:World) (hr0:Kd.C k134 w A0 l0.length l0) (hc0:l0.length≤c0) (h:laws_szLinkS.f l0 a1=some r):
  Calls Try.prog 73 #[.slice A0 l0.length c0,.int .i64 a1] w fun e w'=> e=.returned (.int .i64 r)∧Drawn0 w w':=by
 have HR0:=ak hr0;have Ab:=ak hc0;clear hr0 hc0;have H:=h
 clear h;unfold laws_szLinkS.f at H
 by_cases c3:(wrap64 (a1-(l0.length:Int)))<0
 ·rw [if_pos c3] at H;have Aa:=decide_eq_true c3
  clear c3;obtain rfl:=Option.some.inj H
  go_enter Try.func73,Try.ntmps73
  go_wp2
  go_ret
  exact ⟨rs_q,dr_q⟩
 ·rw [if_neg c3] at H;have Aa:=decide_eq_false c3
  clear c3;obtain rfl:=Option.some.inj H
  go_enter Try.func73,Try.ntmps73
  go_wp2
  go_ret
  exact ⟨rs_q,dr_q⟩

/-! ### laws_szThingS: function 74 -/
def laws_szThingS.f (l0:List (S136)) (a1:Int):Option (Int):=if (wrap64 (a1-(l0.length:Int)))<0 then (some (-1)) else (some (wrap64 (a1-(l0.length:Int))))
set_option maxHeartbeats 8000000 in
set_option maxRecDepth 100000 in
theorem laws_szThingS.calls (A0:Option Addr) (c0:Nat) (l0:List (S136)) (a1:Int) (r:Int) (w:World) (hr0:Kd.C k136 w A0 l0.length l0) (hc0:l0.length≤c0) (h:laws_szThingS.f l0 a1=some r):
  Calls Try.prog 74 #[.slice A0 l0.length c0,.int .i64 a1] w fun e w'=> e=.returned (.int .i64 r)∧Drawn0 w w':=by
 have HR0:=ak hr0;have Ab:=ak hc0;clear hr0 hc0;have H:=h
 clear h;unfold laws_szThingS.f at H
 by_cases c3:(wrap64 (a1-(l0.length:Int)))<0
 ·rw [if_pos c3] at H;have Aa:=decide_eq_true c3
  clear c3;obtain rfl:=Option.some.inj H
  go_enter Try.func74,Try.ntmps74
  go_wp2
  go_ret
  exact ⟨rs_q,dr_q⟩
 ·rw [if_neg c3] at H;have Aa:=decide_eq_false c3
  clear c3;obtain rfl:=Option.some.inj H
  go_enter Try.func74,Try.ntmps74
  go_wp2
  go_ret
  exact ⟨rs_q,dr_q⟩

/-! ### laws_szNet: function 15 -/
def laws_szNet.f (e:Int) (c:List (S134)) (d:List (S136)) (a1:Int):Option (Int):=(laws_szLinkS.f c a1).bind fun a=> (if a<0 then (some (-1)) else ((laws_szThingS.f d a).bind fun b=> (if b<0 then (some (-1)) else (some b))))
set_option maxHeartbeats 8000000 in
set_option maxRecDepth 100000 in
theorem laws_szNet.calls (Ak:Int) (Ae:Option Addr) (Af:Nat) (Aa:List (S134)) (Ag:Option Addr) (Ah:Nat) (Ab:List (S136)) (a1:Int) (r:Int) (w:World) (hr0_1:Kd.C k134 w Ae Aa.length Aa) (hc0_1:Aa.length≤Af) (hr0_2:Kd.C k136 w Ag Ab.length Ab) (hc0_2:Ab.length≤Ah) (h:laws_szNet.f Ak Aa Ab a1=some r):
  Calls Try.prog 15 #[.agg #[.int .i64 Ak,.slice Ae Aa.length Af,.slice Ag Ab.length Ah],.int .i64 a1] w fun e w'=> e=.returned (.int .i64 r)∧Below w.heap.size w w':=by
 have hu25:=Try.underlying25;have Ao:=ak hr0_1;have Ap:=ak hc0_1;clear hr0_1 hc0_1;have Aq:=ak hr0_2;have Ar:=ak hc0_2;clear hr0_2 hc0_2;have HB:=ak (Below.refl w.heap.size w);have H:=h
 clear h;unfold laws_szNet.f at H;replace H:=bsi H;obtain ⟨Ai,A30,H⟩:=H
 (try dsimp only at H)
 have A3:=ak A30;clear A30;have As:=ak H;clear H
 go_enter Try.func15,Try.ntmps15
 go_upto_if 10 with (first | ((with_reducible refine gate_dst (N:=2) rfl ?_);refine box_q 2 #[.int .i64 Ak,.slice Ae Aa.length Af,.slice Ag Ab.length Ah] 25 ?_;intro Bg hg w5 hbox hb;have Am:=ak (hbox);have Bh:=gs_ HB hg;replace HB:=hB_ HB hb;clear hb hbox hg;obtain ⟨Ba,Bb,Bc,Bd,Be,Bf⟩:=cf3_ Am) | ((with_reducible refine gC_ 73 ?_);refine gL_ 8 Try.func73 #[.slice Ae Aa.length Af,.int .i64 a1] ?_;(with_reducible refine (laws_szLinkS.calls _ _ Aa a1 Ai _ ?_ ?_ A3.out).mono ?_);exact ch_ Ao HB;exact Ap.out;rintro e w' ⟨rfl,⟨nd,rfl⟩⟩;refine ⟨_,rfl,?_⟩))
 have H:=As.out;clear As
 by_cases c7:Ai<0
 ·rw [if_pos c7] at H;have Ad:=decide_eq_true c7;clear c7
  (first | rw [Ad] | rw [Al] | (simp only [i64_w,i32_w];first | rw [Ad] | rw [Al]) | skip)
  obtain rfl:=Option.some.inj H
  go_wp2
  go_ret
  exact ⟨er_q,bw_q HB⟩
 ·rw [if_neg c7] at H;have Ad:=decide_eq_false c7;clear c7
  (first | rw [Ad] | rw [Al] | (simp only [i64_w,i32_w];first | rw [Ad] | rw [Al]) | skip)
  replace H:=bsi H;obtain ⟨An,A80,H⟩:=H
  (try dsimp only at H)
  have A8:=ak A80;clear A80;have At:=ak H;clear H;obtain ⟨Au,Av,Aw,Ax,Ay,Az⟩:=cf3_ Am
  go_upto_if 16 with (first | ((with_reducible refine gC_ 74 ?_);refine gL_ 14 Try.func74 #[.slice Ag Ab.length Ah,.int .i64 Ai] ?_;(with_reducible refine (laws_szThingS.calls _ _ Ab Ai An _ ?_ ?_ A8.out).mono ?_);exact ch_ Aq HB;exact Ar.out;rintro e w' ⟨rfl,⟨nd,rfl⟩⟩;refine ⟨_,rfl,?_⟩))
  have H:=At.out;clear At
  by_cases c11:An<0
  ·rw [if_pos c11] at H;have Ac:=decide_eq_true c11;clear c11
   (first | rw [Ac] | rw [Aj] | (simp only [i64_w,i32_w];first | rw [Ac] | rw [Aj]) | skip)
   obtain rfl:=Option.some.inj H
   go_wp2
   go_ret
   exact ⟨er_q,bw_q HB⟩
  ·rw [if_neg c11] at H;have Ac:=decide_eq_false c11;clear c11
   (first | rw [Ac] | rw [Aj] | (simp only [i64_w,i32_w];first | rw [Ac] | rw [Aj]) | skip)
   obtain rfl:=Option.some.inj H
   go_wp2
   go_ret
   exact ⟨er_q,bw_q HB⟩

/-! ### laws_szNearS: function 104 -/
def laws_szNearS.f (l0:List (S141)) (a1:Int):Option (Int):=if (wrap64 (a1-(l0.length:Int)))<0 then (some (-1)) else (some (wrap64 (a1-(l0.length:Int))))
set_option maxHeartbeats 8000000 in
set_option maxRecDepth 100000 in
theorem laws_szNearS.calls (A0:Option Addr) (c0:Nat) (l0:List (S141)) (a1:Int) (r:Int) (w:World) (hr0:Kd.C k141 w A0 l0.length l0) (hc0:l0.length≤c0) (h:laws_szNearS.f l0 a1=some r):
  Calls Try.prog 104 #[.slice A0 l0.length c0,.int .i64 a1] w fun e w'=> e=.returned (.int .i64 r)∧Drawn0 w w':=by
 have HR0:=ak hr0;have Ab:=ak hc0;clear hr0 hc0;have H:=h
 clear h;unfold laws_szNearS.f at H
 by_cases c3:(wrap64 (a1-(l0.length:Int)))<0
 ·rw [if_pos c3] at H;have Aa:=decide_eq_true c3
  clear c3;obtain rfl:=Option.some.inj H
  go_enter Try.func104,Try.ntmps104
  go_wp2
  go_ret
  exact ⟨rs_q,dr_q⟩
 ·rw [if_neg c3] at H;have Aa:=decide_eq_false c3
  clear c3;obtain rfl:=Option.some.inj H
  go_enter Try.func104,Try.ntmps104
  go_wp2
  go_ret
  exact ⟨rs_q,dr_q⟩

/-! ### laws_szRecord: function 34 -/
def laws_szRecord.f (c:Int) (d:Int) (e:Int) (g:Int) (h:Int) (b:List (S141)) (i:Int) (j:Bool) (a1:Int):Option (Int):=(laws_szNearS.f b a1).bind fun a=> (if a<0 then (some (-1)) else (some a))
set_option maxHeartbeats 8000000 in
set_option maxRecDepth 100000 in
theorem laws_szRecord.calls (Ae:Int) (Af:Int) (Ag:Int) (Ah:Int) (Ai:Int) (Ac:Option Addr) (Ad:Nat) (Aa:List (S141)) (Aj:Int) (Ak:Bool) (a1:Int) (r:Int) (w:World) (hr0_5:Kd.C k141 w Ac Aa.length Aa) (hc0_5:Aa.length≤Ad) (h:laws_szRecord.f Ae Af Ag Ah Ai Aa Aj Ak a1=some r):
  Calls Try.prog 34 #[.agg #[.int .i64 Ae,.int .i64 Af,.int .i64 Ag,.int .i64 Ah,.int .i64 Ai,.slice Ac Aa.length Ad,.int .i64 Aj,.bool Ak],.int .i64 a1] w fun e w'=> e=.returned (.int .i64 r)∧Below w.heap.size w w':=by
 have hu57:=Try.underlying57;have An:=ak hr0_5;have Ao:=ak hc0_5;clear hr0_5 hc0_5;have HB:=ak (Below.refl w.heap.size w);have H:=h
 clear h;unfold laws_szRecord.f at H;replace H:=bsi H;obtain ⟨Am,A30,H⟩:=H
 (try dsimp only at H)
 have A3:=ak A30;clear A30;have Aq:=ak H;clear H
 go_enter Try.func34,Try.ntmps34
 go_upto_if 10 with (first | ((with_reducible refine gate_dst (N:=2) rfl ?_);refine box_q 2 #[.int .i64 Ae,.int .i64 Af,.int .i64 Ag,.int .i64 Ah,.int .i64 Ai,.slice Ac Aa.length Ad,.int .i64 Aj,.bool Ak] 57 ?_;intro Bh hg w5 hbox hb;have Ap:=ak (hbox);have Bi:=gs_ HB hg;replace HB:=hB_ HB hb;clear hb hbox hg;obtain ⟨Ar,As,At,Au,Av,Aw,Ax,Ay,Az,Ba,Bb,Bc,Bd,Be,Bf,Bg⟩:=cf8_ Ap) | ((with_reducible refine gC_ 104 ?_);refine gL_ 8 Try.func104 #[.slice Ac Aa.length Ad,.int .i64 a1] ?_;(with_reducible refine (laws_szNearS.calls _ _ Aa a1 Am _ ?_ ?_ A3.out).mono ?_);exact ch_ An HB;exact Ao.out;rintro e w' ⟨rfl,⟨nd,rfl⟩⟩;refine ⟨_,rfl,?_⟩))
 have H:=Aq.out;clear Aq
 by_cases c7:Am<0
 ·rw [if_pos c7] at H;have Ab:=decide_eq_true c7;clear c7
  (first | rw [Ab] | rw [Al] | (simp only [i64_w,i32_w];first | rw [Ab] | rw [Al]) | skip)
  obtain rfl:=Option.some.inj H
  go_wp2
  go_ret
  exact ⟨er_q,bw_q HB⟩
 ·rw [if_neg c7] at H;have Ab:=decide_eq_false c7;clear c7
  (first | rw [Ab] | rw [Al] | (simp only [i64_w,i32_w];first | rw [Ab] | rw [Al]) | skip)
  obtain rfl:=Option.some.inj H
  go_wp2
  go_ret
  exact ⟨er_q,bw_q HB⟩

/-! ### laws_szRecordS: function 25 -/
def laws_szRecordS.l0:Nat→List (S57)→Int→Int→Option (Int)
 | 0,_,_,_=> none
 | k+1,b,d,a=> if a<(b.length:Int) then (if 0≤a then ((laws_szRecord.f ((rd_T57 b a).f0) ((rd_T57 b a).f1) ((rd_T57 b a).f2) ((rd_T57 b a).f3) ((rd_T57 b a).f4) ((rd_T57 b a).f5) ((rd_T57 b a).f6) ((rd_T57 b a).f7) d).bind fun c=> (if c<0 then (some (-1)) else (laws_szRecordS.l0 k b c (wrap64 (a+1))))) else (none)) else (some d)
def laws_szRecordS.f (k:Nat) (l0:List (S57)) (a1:Int):Option (Int):=if (wrap64 (a1-(l0.length:Int)))<0 then (some (-1)) else (laws_szRecordS.l0 k l0 (wrap64 (a1-(l0.length:Int))) 0)
theorem laws_szRecordS.mono_l:∀k,(∀y0 y1 y2,LeO (laws_szRecordS.l0 k y0 y1 y2) (laws_szRecordS.l0 (k+1) y0 y1 y2))
 | 0=> fun _ _ _ r h=> by simp [laws_szRecordS.l0] at h
 | k+1=> by
  have ih0:=laws_szRecordS.mono_l k
  ·intro y0 y1 y2
   unfold laws_szRecordS.l0
   with_reducible repeat' (first | apply ih0 | exact LeO.refl _ | exact LeO.none _ | refine LeO.ite ?_ ?_ | refine LeO.bind ?_ (fun _=> ?_))
theorem laws_szRecordS.mono:∀a0 a1 k,LeO (laws_szRecordS.f k a0 a1) (laws_szRecordS.f (k+1) a0 a1):=by
 intro a0 a1 k
 have ih0:=laws_szRecordS.mono_l k
 unfold laws_szRecordS.f
 with_reducible repeat' (first | apply ih0 | exact LeO.refl _ | exact LeO.none _ | refine LeO.ite ?_ ?_ | refine LeO.bind ?_ (fun _=> ?_))
set_option maxHeartbeats 8000000 in
set_option maxRecDepth 100000 in
theorem laws_szRecordS.calls (k:Nat) (A0:Option Addr) (c0:Nat) (l0:List (S57)) (a1:Int) (r:Int) (w:World) (hr0:Kd.C k57 w A0 l0.length l0) (hc0:l0.length≤c0) (h:laws_szRecordS.f k l0 a1=some r):
  Calls Try.prog 25 #[.slice A0 l0.length c0,.int .i64 a1] w fun e w'=> e=.returned (.int .i64 r)∧Below w.heap.size w w':=by
 have hu57:=Try.underlying57;have HR0:=ak hr0;have Av:=ak hc0;clear hr0 hc0;have HB:=ak (Below.refl w.heap.size w);have H:=h
 clear h;unfold laws_szRecordS.f at H
 by_cases c3:(wrap64 (a1-(l0.length:Int)))<0
 ·rw [if_pos c3] at H;have Ap:=decide_eq_true c3
  clear c3;obtain rfl:=Option.some.inj H
  go_enter Try.func25,Try.ntmps25
  go_wp2
  go_ret
  exact ⟨er_q,bw_q HB⟩
 ·rw [if_neg c3] at H;have Ap:=decide_eq_false c3
  clear c3;have H':=ak H;clear H
  go_enter Try.func25,Try.ntmps25
  go_wp2
  go_loopg [1,5] k (fun kq v1 v5 w'=> ∃(Aj:Int) (Aa:Int),v1=.int .i64 Aj∧v5=.int .i64 Aa∧Aside0 (laws_szRecordS.l0 kq l0 Aj Aa=some r)∧Aside0 (kq≤k)∧Aside0 (Below w.heap.size w w'))
  case atStart=> exact ⟨(wrap64 (a1-(l0.length:Int))),(0),rs_q,rs_q,H',⟨Nat.le_refl _⟩,⟨bw_q HB⟩⟩
  case round=>
   clear H';(try clear c2);(try clear p2);(try clear c3);(try clear Ap);obtain ⟨Aj,Aa,rfl,rfl,HA,Aq,HB⟩:=hrel
   cases gk with
   | zero=> exact absurd HA.out (by simp [laws_szRecordS.l0])
   | succ k1=>
    have H:=HA.out;clear HA
    simp only [laws_szRecordS.l0] at H
    by_cases c4:Aa<(l0.length:Int)
    ·rw [if_pos c4] at H;have As:=decide_eq_true c4;clear c4
     by_cases c5:0≤Aa
     ·rw [if_pos c5] at H;have Au:=decide_eq_true c5
      clear c5;replace H:=bsi H;obtain ⟨Al,A60,H⟩:=H
      (try dsimp only at H)
      have A6:=ak A60;clear A60;have Ar:=ak H;clear H
      have p227:0≤(Aa:Int):=of_decide_eq_true as_q
      have q227:Aa<(l0.length:Int):=of_decide_eq_true as_q
      obtain ⟨At,A227_5,c227_5,e227,Ab,Ac,Ad,Ae,Af,Ag,Ah,Ai,hl227_5,hi227_5⟩:=at_T57 HR0.out Aa p227 q227
      cases e227
      obtain ⟨Ab,Ac,Ad,Ae,Af,Ag,Ah,Ai⟩:=hb8_ HB Ab Ac Ad Ae Af Ag Ah Ai;have An:=ak hi227_5;have Ao:=ak hl227_5;clear hi227_5 hl227_5;replace p227:=eq_true p227;replace q227:=eq_true q227
      go_upto_if 25 with (first | ((with_reducible refine gC_ 34 ?_);refine gL_ 23 Try.func34 #[.agg #[.int .i64 ((rd_T57 l0 Aa).f0),.int .i64 ((rd_T57 l0 Aa).f1),.int .i64 ((rd_T57 l0 Aa).f2),.int .i64 ((rd_T57 l0 Aa).f3),.int .i64 ((rd_T57 l0 Aa).f4),.slice A227_5 ((rd_T57 l0 Aa).f5).length c227_5,.int .i64 ((rd_T57 l0 Aa).f6),.bool ((rd_T57 l0 Aa).f7)],.int .i64 Aj] ?_;(with_reducible refine (laws_szRecord.calls ((rd_T57 l0 Aa).f0) ((rd_T57 l0 Aa).f1) ((rd_T57 l0 Aa).f2) ((rd_T57 l0 Aa).f3) ((rd_T57 l0 Aa).f4) _ _ ((rd_T57 l0 Aa).f5) ((rd_T57 l0 Aa).f6) ((rd_T57 l0 Aa).f7) Aj Al _ ?_ ?_ A6.out).mono ?_);exact ch_ An HB;exact Ao.out;rintro e w8 ⟨rfl,hb⟩;refine ⟨_,rfl,?_⟩;replace HB:=hB_ HB hb))
      (try clear Ab);(try clear Ac);(try clear Ad);(try clear Ae);(try clear Af);(try clear Ag);(try clear Ah);(try clear Ai);have H:=Ar.out;clear Ar
      by_cases c9:Al<0
      ·rw [if_pos c9] at H;have Ak:=decide_eq_true c9;clear c9
       (first | rw [Ak] | rw [Am] | (simp only [i64_w,i32_w];first | rw [Ak] | rw [Am]) | skip)
       obtain rfl:=Option.some.inj H
       go_wp2
       go_ret
       exact ⟨er_q,bw_q HB⟩
      ·rw [if_neg c9] at H;have Ak:=decide_eq_false c9;clear c9
       (first | rw [Ak] | rw [Am] | (simp only [i64_w,i32_w];first | rw [Ak] | rw [Am]) | skip)
       have H':=ak H;clear H
       go_wp2
       go_roundg k1
       case measure=> have:=Aq.out;omega
       case rel=> exact ⟨(Al),(wrap64 (Aa+1)),rs_q,rs_q,H',⟨by have:=Aq.out;omega⟩,⟨bw_q HB⟩⟩
     ·rw [if_neg c5] at H
      exact absurd H (by simp)
    ·rw [if_neg c4] at H;have As:=decide_eq_false c4
     clear c4;obtain rfl:=Option.some.inj H
     go_wp2
     go_ret
     exact ⟨er_q,bw_q HB⟩

end Go.Proofs.Ythjmdiggglkeaaa.Q
