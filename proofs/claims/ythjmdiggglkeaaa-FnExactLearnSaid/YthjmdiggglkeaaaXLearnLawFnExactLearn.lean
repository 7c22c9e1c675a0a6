import Derived.Test.YthjmdiggglkeaaaRows
import Derived.Test.YthjmdiggglkeaaaXLearnQlawsFnExactLearn
import Derived.Test.YthjmdiggglkeaaaXLearnPureFnExactLearn
import Derived.WalkKit
import Derived.ProofKit
import Derived.OpenShut
import Derived.ShutString
import Derived.ChangeOld
import Derived.Below
import Derived.SizedLaws
import Derived.Deep.Slices
import Derived.Carry
/- The row of the law FnExactLearn, out of its pure statement and its walk: every argument that the row lets in; there are no other conditions. -/












set_option linter.unusedVariables false
set_option linter.unusedSimpArgs false
namespace Go.Proofs.Ythjmdiggglkeaaa.fnExactLearn
open Go.ChangeShapes Go.WideShapes Go.ChangeAt Go.RowKit Go.Proofs.Ythjmdiggglkeaaa.Q Go.Proofs.YthjmdiggglkeaaaW.PrintWords Go.Proofs.YthjmdiggglkeaaaW.PrintLast
open Go.ChangeMaps (open_string shut_string)
/-- What reads at type t is a value of the kind, and it fits. -/
def Opens (P:Program) {α:Type} (k:Kd α) (t:TypeId) (fits:α→Prop):Prop:=
  ∀{H:Type} {enc:TypeId×Value→H} {w:World} {spare:Nat→Bool} {held:Bool} {fuel:Nat} {cs:List Value} {x:DataW H×List MemPlace},
    DataW.trod enc P w 0 spare held fuel t cs=some x→∃v:α,k.K w v cs∧fits v
theorem opens_int {P:Program} {t:TypeId} {ik:IntKind} (ht:P.underlying t=some (.int ik)):Opens P (Kd.int ik) t (fun n=> (Lit.int ik n).wf=true):=by
  intro H enc w spare held fuel cs x h
  obtain ⟨n,rfl,_,hw⟩:=DataW.trod_int ht h
  exact ⟨n,rfl,hw⟩
theorem opens_num {P:Program} {t:TypeId} {ik:IntKind} (ht:P.underlying t=some (.int ik)):Opens P (Kd.int ik) t (fun _=> True):=by
  intro H enc w spare held fuel cs x h
  obtain ⟨n,rfl,_,hw⟩:=DataW.trod_int ht h
  exact ⟨n,rfl,trivial⟩
theorem opens_bool {P:Program} {t:TypeId} (ht:P.underlying t=some .bool):Opens P Kd.bool t (fun _=> True):=by
  intro H enc w spare held fuel cs x h
  obtain ⟨b,rfl,_⟩:=DataW.trod_bool ht h
  exact ⟨b,rfl,trivial⟩
/-- The fields of a struct from cell o on. -/
def OpensF (P:Program) {α:Type} (k:Kd α) (fs:List Field) (o:Nat) (fits:α→Prop):Prop:=
  ∀{H:Type} {enc:TypeId×Value→H} {w:World} {spare:Nat→Bool} {held:Bool} {n:Nat} {cs:List Value} {xs:List (DataW H×List MemPlace)},
    (∀(i:Nat) (f:Field),fs[i]? =some f→DataW.trod enc P w 0 spare held n f.type ((cs.drop f.offset).take (P.cellsOf f.type))=xs[i]?)→xs.length=fs.length→cs.length=o+k.sz→∃v:α,k.K w v (cs.drop o)∧fits v
theorem opensF_one {P:Program} {α:Type} {k:Kd α} {f:Field} {o:Nat} {fits:α→Prop} (h:Opens P k f.type fits) (ho:f.offset=o) (hs:P.cellsOf f.type=k.sz):OpensF P k [f] o fits:=by
  intro H enc w spare held n cs xs hx hl hc
  have h0:=hx 0 f rfl
  match xs,hl with
  | [y],_=>
    rw [ho,hs,List.take_of_length_le (by rw [List.length_drop];omega)] at h0
    exact h h0
theorem opensF_cons {P:Program} {α β:Type} {a:Kd α} {b:Kd β} {f:Field} {fs:List Field} {o:Nat} {fa:α→Prop} {fb:β→Prop} (h:Opens P a f.type fa) (ho:f.offset=o) (hs:P.cellsOf f.type=a.sz)
    (hr:OpensF P b fs (o+a.sz) fb):OpensF P (Kd.pair a b) (f::fs) o (fun x=> fa x.1∧fb x.2):=by
  intro H enc w spare held n cs xs hx hl hc
  have hz:(Kd.pair a b).sz=a.sz+b.sz:=rfl
  have h0:=hx 0 f rfl
  match xs,hl with
  | y::ys,hl=>
    rw [ho,hs] at h0;obtain ⟨v,hv,hfv⟩:=h h0
    obtain ⟨u,hu,hfu⟩:=hr (xs:=ys) (fun i g hg=> hx (i+1) g hg) (by simpa using hl) (by omega)
    exact ⟨(v,u),⟨_,_,by rw [←List.drop_drop,List.take_append_drop],hv,hu⟩,hfv,hfu⟩
theorem opens_struct {P:Program} {α β:Type} {k:Kd α} {f:β→α} {g:α→β} {t:TypeId} {fs:Array Field} {fits:α→Prop} (ht:P.underlying t=some (.struct fs)) (hc:P.cellsOf t=k.sz)
    (h:OpensF P k fs.toList 0 fits) (hg:∀y,f (g y)=y):Opens P (Kd.iso k f) t (fun x=> fits (f x)):=by
  intro H enc w spare held fuel cs x hx
  obtain ⟨xs,n,rfl,_,hl,hn,hi⟩:=DataW.trod_struct ht hx
  obtain ⟨v,hv,hf⟩:=h (cs:=cs) (xs:=xs) (fun i f hf=> hi i f (by simpa using hf)) (by simpa using hn) (by omega)
  refine ⟨g v,?_,?_⟩
  · show k.K w (f (g v)) cs
    rw [hg]
    exact hv
  · show fits (f (g v))
    rw [hg]
    exact hf
/-- What holds of every element of a slice. -/
def FitsAll {α:Type} (fits:α→Prop) (xs:List α):Prop:=xs.length≤9223372036854775807∧∀x∈xs,fits x
theorem opens_slice {P:Program} {α:Type} {d:Kd α} {t e:TypeId} {fits:α→Prop} (z:α) (ht:P.underlying t=some (.slice e)) (hs:P.cellsOf e=d.sz) (h:Opens P d e fits):
    Opens P (Kd.slice e d) t (FitsAll fits):=by
  intro H enc w spare held fuel cs x hx
  rcases Go.Deep.open_slice ht hx with ⟨rfl,_⟩ | ⟨a,len,cap,m,n,D,Pl,rfl,_,hl,hm,hmm,_,hi⟩
  · exact ⟨[],⟨none,0,rfl,Nat.le_refl _,rfl,by simp,fun h=> by simp at h⟩,by simp,fun _ h=> by simp at h⟩
  · have hle:len≤m:=by rw [hmm];split <;> omega
    have hex:∀i,i<len→∃v:α,∃c,c.length=d.sz∧d.K w v c∧fits v∧∀j u,c[j]? =some u→w.cell? (a.add (i*d.sz+j))=some u:=by
      intro i hlt
      obtain ⟨cs',h1,h2⟩:=hi i (by omega)
      obtain ⟨v,hv,hf⟩:=h h2
      obtain ⟨_,hlen,hcell⟩:=World.cells?_some h1
      rw [hs] at hlen hcell
      refine ⟨v,cs',hlen,hv,hf,fun j u hj=> ?_⟩
      have hjl:j<cs'.length:=(List.getElem?_eq_some_iff.1 hj).1
      rw [←Go.Proofs.YthjmdiggglkeaaaW.PrintWords.add_add,hcell j (by omega)]
      exact hj
    haveI:Inhabited α:=⟨z⟩
    obtain ⟨V,hV⟩:=Go.Deep.choose_lt (α:=α) hex
    have hml:len≤9223372036854775807:=by unfold maxLen at hm;omega
    refine ⟨(List.range len).map V,⟨some a,cap,by simp,by simpa using hl,by simp,by simpa using hml,fun hp=> ⟨a,rfl,fun j p hj=> ?_⟩⟩,by simpa using hml,fun x hx=> ?_⟩
    · have hjl:j<len:=by
        have:=(List.getElem?_eq_some_iff.1 hj).1
        simpa using this
      obtain ⟨c,hc1,hc2,_,hc3⟩:=hV j hjl
      have hp:V j=p:=by simpa [hjl] using hj
      rw [←hp]
      exact ⟨c,hc1,hc2,hc3⟩
    · obtain ⟨j,hj,rfl⟩:=List.mem_map.1 hx
      exact (hV j (by simpa using hj)).choose_spec.2.2.1
theorem opens_imp {P:Program} {α:Type} {k:Kd α} {t:TypeId} {fits fits':α→Prop} (h:Opens P k t fits) (hf:∀v,fits v→fits' v):Opens P k t fits':=by
  intro H enc w spare held fuel cs x hx
  obtain ⟨v,hv,hw⟩:=h hx
  exact ⟨v,hv,hf v hw⟩
/-- An argument of a struct type: its value, cell by cell. -/
theorem open_arg {P:Program} {α:Type} {k:Kd α} {t:TypeId} {fits:α→Prop} {fs:Array Field} (ht:P.underlying t=some (.struct fs)) (h:Opens P k t fits)
    {H:Type} {enc:TypeId×Value→H} {W:World} {r:Reach} {b0:Nat} {spare:Nat→Bool} {held:Bool} {v:Value} {d:DataW H} {p:List MemPlace}
    (hv:Value.okWide P W r b0 t v) (hd:DataW.Trod enc P W 0 spare held t v d p):∃x:α,∃cs:List Value,v=.agg cs.toArray∧k.K W x cs∧fits x:=by
  obtain ⟨cs,rfl,_⟩:=Go.WideShapes.okWide_struct ht hv;obtain ⟨fuel,hf⟩:=hd;obtain ⟨x,hx,hfx⟩:=h hf
  exact ⟨x,cs.toList,by simp,by simpa [Value.cells] using hx,hfx⟩
/-- An argument of a slice type. -/
theorem open_arg_slice {P:Program} {α:Type} {k:Kd α} {t e:TypeId} {fits:α→Prop} (ht:P.underlying t=some (.slice e)) (h:Opens P (Kd.slice e k) t (FitsAll fits))
    {H:Type} {enc:TypeId×Value→H} {W:World} {r:Reach} {b0:Nat} {spare:Nat→Bool} {held:Bool} {v:Value} {d:DataW H} {p:List MemPlace}
    (hv:Value.okWide P W r b0 t v) (hd:DataW.Trod enc P W 0 spare held t v d p):∃xs:List α,∃A c,v=.slice A xs.length c∧xs.length≤c∧k.C W A xs.length xs∧FitsAll fits xs:=by
  obtain ⟨A,len,cap,rfl⟩:=Go.WideShapes.okWide_slice ht hv;obtain ⟨fuel,hf⟩:=hd
  obtain ⟨xs,⟨A',c,hc,hl,hC⟩,hfx⟩:=h (by simpa [Value.cells] using hf)
  simp only [List.cons.injEq,Value.slice.injEq,and_true] at hc
  obtain ⟨rfl,rfl,rfl⟩:=hc
  exact ⟨xs,_,_,rfl,hl,hC,hfx⟩
theorem opens_plain {P:Program} {α:Type} {k:Kd α} {t:TypeId} {fs:Array Field} {fits:α→Prop} (ht:P.underlying t=some (.struct fs)) (hc:P.cellsOf t=k.sz)
    (h:OpensF P k fs.toList 0 fits):Opens P k t fits:=by
  intro H enc w spare held fuel cs x hx
  obtain ⟨xs,n,rfl,_,hl,hn,hi⟩:=DataW.trod_struct ht hx
  exact h (cs:=cs) (xs:=xs) (fun i f hf=> hi i f (by simpa using hf)) (by simpa using hn) (by omega)

theorem opens0:Opens Try.prog (Kd.pair (Kd.int .i64) (Kd.pair (Kd.int .i64) (Kd.pair (Kd.pair (Kd.int .i64) (Kd.pair (Kd.slice 134 k134) (Kd.slice 136 k136))) (Kd.pair (Kd.slice 3 (Kd.int .i64)) (Kd.slice 57 k57))))) 38 (fun x:(Int×Int×(Int×(List S134)×(List S136))×(List Int)×(List S57))=> (fun _:Int=> True) x.1∧(fun _:Int=> True) x.2.1∧(fun x:(Int×(List S134)×(List S136))=> (fun _:Int=> True) x.1∧(FitsAll (fun y:S134=> (fun x:Int×Int×Int×Int=> (fun _:Int=> True) x.1∧(fun _:Int=> True) x.2.1∧(fun _:Int=> True) x.2.2.1∧(fun _:Int=> True) x.2.2.2) (y.f0,y.f1,y.f2,y.f3))) x.2.1∧(FitsAll (fun y:S136=> (fun x:Int×Int×Int×Bool=> (fun _:Int=> True) x.1∧(fun _:Int=> True) x.2.1∧(fun _:Int=> True) x.2.2.1∧(fun _:Bool=> True) x.2.2.2) (y.f0,y.f1,y.f2,y.f3))) x.2.2) x.2.2.1∧(FitsAll (fun _:Int=> True)) x.2.2.2.1∧(FitsAll (fun y:S57=> (fun x:Int×Int×Int×Int×Int×(List S141)×Int×Bool=> (fun _:Int=> True) x.1∧(fun _:Int=> True) x.2.1∧(fun _:Int=> True) x.2.2.1∧(fun _:Int=> True) x.2.2.2.1∧(fun _:Int=> True) x.2.2.2.2.1∧(FitsAll (fun y:S141=> (fun x:Int×Int=> (fun _:Int=> True) x.1∧(fun _:Int=> True) x.2) (y.f0,y.f1))) x.2.2.2.2.2.1∧(fun _:Int=> True) x.2.2.2.2.2.2.1∧(fun _:Bool=> True) x.2.2.2.2.2.2.2) (y.f0,y.f1,y.f2,y.f3,y.f4,y.f5,y.f6,y.f7))) x.2.2.2.2):=(opens_plain Try.underlying38 (by kernel_rfl) (opensF_cons (opens_num Try.underlying3) (by rfl) (by kernel_rfl) (opensF_cons (opens_num Try.underlying3) (by rfl) (by kernel_rfl) (opensF_cons (opens_plain Try.underlying25 (by kernel_rfl) (opensF_cons (opens_num Try.underlying3) (by rfl) (by kernel_rfl) (opensF_cons (opens_slice z134 Try.underlying22 (by kernel_rfl) (opens_struct (g:=(fun y=> ⟨y.1,y.2.1,y.2.2.1,y.2.2.2⟩)) Try.underlying134 (by kernel_rfl) (opensF_cons (opens_num Try.underlying3) (by rfl) (by kernel_rfl) (opensF_cons (opens_num Try.underlying3) (by rfl) (by kernel_rfl) (opensF_cons (opens_num Try.underlying3) (by rfl) (by kernel_rfl) (opensF_one (opens_num Try.underlying3) (by rfl) (by kernel_rfl))))) (fun _=> rfl))) (by rfl) (by kernel_rfl) (opensF_one (opens_slice z136 Try.underlying23 (by kernel_rfl) (opens_struct (g:=(fun y=> ⟨y.1,y.2.1,y.2.2.1,y.2.2.2⟩)) Try.underlying136 (by kernel_rfl) (opensF_cons (opens_num Try.underlying3) (by rfl) (by kernel_rfl) (opensF_cons (opens_num Try.underlying3) (by rfl) (by kernel_rfl) (opensF_cons (opens_num Try.underlying3) (by rfl) (by kernel_rfl) (opensF_one (opens_bool Try.underlying4) (by rfl) (by kernel_rfl))))) (fun _=> rfl))) (by rfl) (by kernel_rfl))))) (by rfl) (by kernel_rfl) (opensF_cons (opens_slice (0:Int) Try.underlying35 (by kernel_rfl) (opens_num Try.underlying3)) (by rfl) (by kernel_rfl) (opensF_one (opens_slice z57 Try.underlying36 (by kernel_rfl) (opens_struct (g:=(fun y=> ⟨y.1,y.2.1,y.2.2.1,y.2.2.2.1,y.2.2.2.2.1,y.2.2.2.2.2.1,y.2.2.2.2.2.2.1,y.2.2.2.2.2.2.2⟩)) Try.underlying57 (by kernel_rfl) (opensF_cons (opens_num Try.underlying3) (by rfl) (by kernel_rfl) (opensF_cons (opens_num Try.underlying3) (by rfl) (by kernel_rfl) (opensF_cons (opens_num Try.underlying3) (by rfl) (by kernel_rfl) (opensF_cons (opens_num Try.underlying3) (by rfl) (by kernel_rfl) (opensF_cons (opens_num Try.underlying3) (by rfl) (by kernel_rfl) (opensF_cons (opens_slice z141 Try.underlying55 (by kernel_rfl) (opens_struct (g:=(fun y=> ⟨y.1,y.2⟩)) Try.underlying141 (by kernel_rfl) (opensF_cons (opens_num Try.underlying3) (by rfl) (by kernel_rfl) (opensF_one (opens_num Try.underlying3) (by rfl) (by kernel_rfl))) (fun _=> rfl))) (by rfl) (by kernel_rfl) (opensF_cons (opens_num Try.underlying3) (by rfl) (by kernel_rfl) (opensF_one (opens_bool Try.underlying4) (by rfl) (by kernel_rfl))))))))) (fun _=> rfl))) (by rfl) (by kernel_rfl)))))))
theorem form0 {W:World} {x0:(Int×Int×(Int×(List S134)×(List S136))×(List Int)×(List S57))} {cs:List Value} (h:((Kd.pair (Kd.int .i64) (Kd.pair (Kd.int .i64) (Kd.pair (Kd.pair (Kd.int .i64) (Kd.pair (Kd.slice 134 k134) (Kd.slice 136 k136))) (Kd.pair (Kd.slice 3 (Kd.int .i64)) (Kd.slice 57 k57))))):Kd _).K W x0 cs):∃A0_3 c0_3,∃A0_4 c0_4,∃A0_5 c0_5,∃A0_6 c0_6,cs=[.int .i64 x0.1,.int .i64 x0.2.1,.int .i64 x0.2.2.1.1,.slice A0_3 x0.2.2.1.2.1.length c0_3,.slice A0_4 x0.2.2.1.2.2.length c0_4,.slice A0_5 x0.2.2.2.1.length c0_5,.slice A0_6 x0.2.2.2.2.length c0_6]∧x0.2.2.1.2.1.length≤c0_3∧Kd.C k134 W A0_3 x0.2.2.1.2.1.length x0.2.2.1.2.1∧x0.2.2.1.2.2.length≤c0_4∧Kd.C k136 W A0_4 x0.2.2.1.2.2.length x0.2.2.1.2.2∧x0.2.2.2.1.length≤c0_5∧Kd.C (Kd.int .i64) W A0_5 x0.2.2.2.1.length x0.2.2.2.1∧x0.2.2.2.2.length≤c0_6∧Kd.C k57 W A0_6 x0.2.2.2.2.length x0.2.2.2.2:=by
  obtain ⟨_,_,rfl,rfl,⟨_,_,rfl,rfl,⟨_,_,rfl,⟨_,_,rfl,rfl,⟨_,_,rfl,⟨A0_3,c0_3,rfl,l0_3,g0_3⟩,⟨A0_4,c0_4,rfl,l0_4,g0_4⟩⟩⟩,⟨_,_,rfl,⟨A0_5,c0_5,rfl,l0_5,g0_5⟩,⟨A0_6,c0_6,rfl,l0_6,g0_6⟩⟩⟩⟩⟩:=h
  exact ⟨A0_3,c0_3,A0_4,c0_4,A0_5,c0_5,A0_6,c0_6,rfl,l0_3,g0_3,l0_4,g0_4,l0_5,g0_5,l0_6,g0_6⟩
theorem opens1:Opens Try.prog (Kd.slice 57 k57) 36 (FitsAll (fun y:S57=> (fun x:Int×Int×Int×Int×Int×(List S141)×Int×Bool=> (fun _:Int=> True) x.1∧(fun _:Int=> True) x.2.1∧(fun _:Int=> True) x.2.2.1∧(fun _:Int=> True) x.2.2.2.1∧(fun _:Int=> True) x.2.2.2.2.1∧(FitsAll (fun y:S141=> (fun x:Int×Int=> (fun _:Int=> True) x.1∧(fun _:Int=> True) x.2) (y.f0,y.f1))) x.2.2.2.2.2.1∧(fun _:Int=> True) x.2.2.2.2.2.2.1∧(fun _:Bool=> True) x.2.2.2.2.2.2.2) (y.f0,y.f1,y.f2,y.f3,y.f4,y.f5,y.f6,y.f7))):=(opens_slice z57 Try.underlying36 (by kernel_rfl) (opens_struct (g:=(fun y=> ⟨y.1,y.2.1,y.2.2.1,y.2.2.2.1,y.2.2.2.2.1,y.2.2.2.2.2.1,y.2.2.2.2.2.2.1,y.2.2.2.2.2.2.2⟩)) Try.underlying57 (by kernel_rfl) (opensF_cons (opens_num Try.underlying3) (by rfl) (by kernel_rfl) (opensF_cons (opens_num Try.underlying3) (by rfl) (by kernel_rfl) (opensF_cons (opens_num Try.underlying3) (by rfl) (by kernel_rfl) (opensF_cons (opens_num Try.underlying3) (by rfl) (by kernel_rfl) (opensF_cons (opens_num Try.underlying3) (by rfl) (by kernel_rfl) (opensF_cons (opens_slice z141 Try.underlying55 (by kernel_rfl) (opens_struct (g:=(fun y=> ⟨y.1,y.2⟩)) Try.underlying141 (by kernel_rfl) (opensF_cons (opens_num Try.underlying3) (by rfl) (by kernel_rfl) (opensF_one (opens_num Try.underlying3) (by rfl) (by kernel_rfl))) (fun _=> rfl))) (by rfl) (by kernel_rfl) (opensF_cons (opens_num Try.underlying3) (by rfl) (by kernel_rfl) (opensF_one (opens_bool Try.underlying4) (by rfl) (by kernel_rfl))))))))) (fun _=> rfl)))
theorem own:ownKnob Try.prog.godebug=none:=by kernel_rfl
theorem laidOut:laidOutB Try.prog=true:=by kernel_rfl
set_option maxRecDepth 100000 in
theorem lifted (os:Os) (started:os.Started) (H:Type) (enc:TypeId×Value→H):
    ReturnsInHanded {} Try.checked os 5 .any (Rows.fnExactLearnSpec.pre6 enc Try.prog Try.f5 Rows.fnExactLearnRow.domain false) (Rows.fnExactLearnSpec.post enc Try.prog Try.f5 false true false false):=by
  refine returnsInHanded_of_change_sized (C:=Try.checked) own started (by kernel_rfl) Try.func5
    (ChangeSpec.witness6 (enc:=enc) (C:=Try.checked) false ⟨#[],#[.agg #[.int .i64 0,.int .i64 0,.int .i64 0,.slice none 0 0,.slice none 0 0,.slice none 0 0,.slice none 0 0],.slice none 0 0],[]⟩ 8 (by kernel_rfl) (by kernel_rfl) (by kernel_rfl) (by kernel_rfl)) ?_
  intro W base args ds gs before hval0 hW hcnd hsz0 _
  have hsz:(DataW.weightsEach Try.prog (Try.f5.params.toList++Rows.fnExactLearnSpec.plain.varTypes Try.prog) (ds++gs)).all (·≤reachBytes)=true:=hsz0
  have hval:∀(j:Nat) t v,Try.f5.params[j]? =some t→args[j]? =some v→Value.okWide Try.prog W .any base t v:=hval0
  have hW':=hW;obtain ⟨p,q,hA0,hV,rfl,hfz,hnd⟩:=hW
  have hA:DataW.TrodAll enc Try.prog W 0 (fun _=> true) true Try.f5.params.toList args.toList ds p:=hA0
  rw [Try.params5] at hA hval hsz
  obtain ⟨v0,vs0,d0,ds0,p0,q0,hargs,rfl,rfl,h0,r0⟩:=trodAll_cons hA;obtain ⟨v1,vs1,d1,ds1,p1,q1,rfl,rfl,rfl,h1,r1⟩:=trodAll_cons r0;obtain ⟨rfl,rfl,rfl⟩:=trodAll_nil r1
  obtain rfl:args=#[v0,v1]:=by cases args;simp_all
  obtain ⟨rfl,rfl⟩:=trodVars_none hV;have k0:=h0
  have lt0:∀x∈p0,x.block<W.heap.size:=by obtain ⟨m,hm⟩:=k0;exact DataW.trod_lt m _ _ _ hm
  obtain ⟨x0,cs0,rfl,hk0,hf0⟩:=open_arg Try.underlying38 opens0 (hval 0 38 v0 rfl rfl) h0;obtain ⟨A0_3,c0_3,A0_4,c0_4,A0_5,c0_5,A0_6,c0_6,rfl,l0_3,g0_3,l0_4,g0_4,l0_5,g0_5,l0_6,g0_6⟩:=form0 hk0;have k1:=h1
  have lt1:∀x∈p1,x.block<W.heap.size:=by obtain ⟨m,hm⟩:=k1;exact DataW.trod_lt m _ _ _ hm
  obtain ⟨l1,A1,c1,rfl,hc1,hr1,hf1⟩:=open_arg_slice Try.underlying36 opens1 (hval 1 36 v1 rfl rfl) h1;clear hA0 hval0 hsz0 hsz
  obtain ⟨k,h⟩:=Pure.FnExactLearn (x0.1) (x0.2.1) (x0.2.2.1.1) (x0.2.2.1.2.1) (x0.2.2.1.2.2) (x0.2.2.2.1) (x0.2.2.2.2) (l1) hf0.2.2.1.2.1.1 hf0.2.2.1.2.2.1 hf0.2.2.2.1.1 hf0.2.2.2.2.1 (fun x hx=> (hf0.2.2.2.2.2 x hx).2.2.2.2.2.1.1) hf1.1 (fun x hx=> (hf1.2 x hx).2.2.2.2.2.1.1)
  refine (laws_FnExactLearn.calls k _ _ _ A0_3 c0_3 _ A0_4 c0_4 _ A0_5 c0_5 _ A0_6 c0_6 _ A1 c1 _ true W g0_3 l0_3 g0_4 l0_4 g0_5 l0_5 g0_6 l0_6 hr1 hc1 rfl h).mono ?_
  rintro e W' ⟨rfl,bel⟩
  exact ⟨_,rfl,_,_,_,[],_,[],hW',trodAll_mk1 (shut_bool Try.underlying4 _),(trodAll_cons_mk (Below.trod laidOut (by kernel_rfl) (of_decide_eq_true (by kernel_rfl)) k0 bel lt0) (trodAll_cons_mk (Below.trod laidOut (by kernel_rfl) (of_decide_eq_true (by kernel_rfl)) k1 bel lt1) trodAll_mk0)),rfl,bel.frame _,fun h=> by cases h⟩
theorem over:Rows.fnExactLearnRow.holds Try.pinned (OpenSpec.ofChange Rows.fnExactLearnSpec):=
  OpenClaim.holds_of_wide 5 Try.f5 rfl rfl rfl rfl rfl rfl rfl ⟨rfl,rfl,rfl,rfl,rfl⟩ rfl rfl rfl rfl rfl (by kernel_rfl) Try.func5 (by kernel_rfl)
    (of_decide_eq_true (by kernel_rfl)) (by unfold Func.isWrapper;first | (rw [if_pos (by decide+kernel)];kernel_rfl) | (rw [if_neg (by decide+kernel)];exact ⟨rfl,rfl⟩))
    (fun os started H enc _=> lifted os started H enc)
theorem proved:Rows.FnExactLearnSaid:=over
#print axioms proved
end Go.Proofs.Ythjmdiggglkeaaa.fnExactLearn
namespace Go.Proofs.Ythjmdiggglkeaaa
/-- The row, under a short name, for the claim. -/
theorem fnExactLearn_holds:Rows.FnExactLearnSaid:=fnExactLearn.proved
end Go.Proofs.Ythjmdiggglkeaaa
