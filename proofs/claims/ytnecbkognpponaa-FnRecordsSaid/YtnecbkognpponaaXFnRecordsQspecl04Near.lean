import Derived.Test.YtnecbkognpponaaXFnRecordsW
import Derived.Test.YtnecbkognpponaaProg
import Derived.Below
import Derived.Deep.Draws
import Derived.Deep.AppendLies
import Derived.Maps.AppendAt
import Derived.OwnWalk
import Derived.Laws.BytesArg
import Derived.Laws.MakeOwn
import Derived.Laws.OwnMore
import Derived.Deep.OwnRows
import Derived.Tactics
import Derived.Lib.ConvBytes
import Derived.Laws.Slices
import Derived.WalkKit
import Derived.KernelRfl
import Derived.RowKit3
import Derived.Deep.LoopGhost
import Derived.Deep.QuietTactic
import Derived.BigQuiet
import Derived.WideLaws
import Derived.Deep.DeepCutAuto
import Derived.Deep.CutBlock
import Derived.Deep.RegionHeld3
import Derived.Laws.Rows
import Derived.Lib.AppendStr
import Derived.ArgAppend
import Derived.Laws.IdiomCopy
import Derived.OrdersHeld
import Derived.Laws.BitsLemmas
import Derived.RowKit
/- Words for the walks: which operations of a region have run, as bits; a whole row of elements that lead to rows, appended to another such row that is apart from it: what comes of it is apart in itself. -/


namespace Go.Proofs.YtnecbkognpponaaW.PrintWords
def bL (n m : Nat) : Array Bool := ((List.range n).map fun i => m / 2 ^ i % 2 == 1).toArray
open Go.RowKit
section
open Go.Proofs.YtnecbkognpponaaW.PrintLast
variable {P : Program} {md : Region.Mode} {ops : Array Oper} {Q : Exit → Act → World → Prop}
/-- What is held through a region's orders may be more from here on. -/
theorem last_more_ {S S' : World → Prop} (hs : ∀ w, S' w → S w) : ∀ (fuel : Nat) (l : Array Bool) (a : Act) (w : World), S' w → wpAnyLast P md ops Q S' [] fuel l a w → wpAnyLast P md ops Q S [] fuel l a w
  | 0, _, _, _, _, h => h
  | fuel + 1, _, _, _, h0, h => ⟨h.1, fun i hi => wpOp_mono (fun a' w' hh => ⟨fun _ _ => hs _ (hh.1 (by simp) h0), last_more_ hs fuel _ a' w' (hh.1 (by simp) h0) hh.2⟩) (h.2 i hi)⟩
theorem last_weaken {S : World → Prop} {fuel : Nat} {l : Array Bool} {a : Act} {w : World} (S' : World → Prop) (hs : ∀ w, S' w → S w) (h0 : S' w) (h : S' w → wpAnyLast P md ops Q S' [] fuel l a w) : wpAnyLast P md ops Q S [] fuel l a w := last_more_ hs fuel l a w h0 (h h0)
end
namespace Kd
section
variable {P : Program} {ops : Array Oper} {rest : List Oper} {o : Oper} {a : Act} {Q : Exit → Act → World → Prop} {Kc : Act → World → Prop} {α : Type}
open Classical in
/-- The two rows under one owner map: the elder's elements keep their numbers, the other's come behind them. -/
theorem S_two_ {d : Kd α} {e base : Nat} {W : World} {v : Value} {xs ys : List α} {A : Option Addr} {m c : Nat} {okv okp : Nat → Prop} (HO : S d e W base okv v xs) (HX : S d e W base okp (.slice A m c) ys) (hap : ∀ k, okp k → ¬ okv k) :
    ∃ f, (tag f d).R e W base okv v xs.zipIdx ∧ ReadsRow ((tag f d).M W base okp) d.sz W A m (ys.zipIdx xs.length) := by
  obtain ⟨f, h1⟩ := HO
  obtain ⟨g, h2⟩ := HX
  refine ⟨fun k => if okp k then xs.length + g k else f k, R_tag h1 (fun k hk _ => if_neg (fun h => hap k h hk)), ?_⟩
  obtain ⟨h0, inner, ho, hr⟩ := h2
  have hm : m = ys.zipIdx.length := by
    rcases ho.2 with ⟨hv, h3⟩ | ⟨g', cap, cur, hv, _⟩
    · injection hv with _ h4 _; rw [h4, h3]
    · injection hv
  obtain ⟨A', c', hv, hl, hle, hc⟩ := own_reads_row (R := fun p cs => (tag g d).M W base okp p cs) ho (hr.imp_ (fun p cs h => (tag g d).M_mono (fun k hk => hk.1) h)) rfl
  injection hv with hA _ _
  subst hA
  refine ⟨by rw [List.length_zipIdx, hm, List.length_zipIdx], by omega, fun hp => ?_⟩
  obtain ⟨ad, hA, hj⟩ := hc (by omega)
  refine ⟨ad, hA, fun j p hjp => ?_⟩
  rw [List.getElem?_zipIdx] at hjp
  obtain ⟨x, hx, rfl⟩ := Option.map_eq_some_iff.1 hjp
  obtain ⟨cs, h3, h4, h5⟩ := hj j (x, j) (zip_at hx)
  refine ⟨cs, h3, d.M_mono (fun k hk => ⟨hk.1, ?_⟩) h4, h5⟩
  show (if okp k then xs.length + g k else f k) = xs.length + j
  rw [if_pos hk.1]
  have h6 : g k = j := hk.2
  rw [h6]
theorem S_append_rows (d : Kd α) {w0 W : World} (base : Nat) (hgd : o.guard = none) (s x : Operand) (t e : TypeId) (z : Value) (bytes : Nat)
    (ho : o.op = .call { callee := .builtin .append, args := #[s, x], argTypes := #[t, t] })
    (ht : P.underlying t = some (.slice e)) (hinfo : (P.info? e).map (fun i => (i.zero, i.size, i.bytes)) = some (some z, d.sz, bytes)) (hz : z.cells.size = d.sz) (hs0 : 0 < d.sz) (hb0 : 0 < bytes)
    (v : Value) (xs ys : List α) (A : Option Addr) (m c : Nat) (ok okv okp : Nat → Prop) (hs : a.eval s = v) (hx : a.eval x = .slice A m c)
    (HO : S d e W base okv v xs) (HX : S d e W base okp (.slice A m c) ys) (hokv : ∀ k, okv k → ok k) (hap : ∀ k, okp k → ¬ okv k) (hokp : ∀ k, okp k → ok k ∧ some k ≠ v.ownBlock) (hfresh : ∀ k, W.heap.size ≤ k → ok k)
    (HB : Below base w0 W) (hbase : base ≤ W.heap.size) (hl : (xs.length + ys.length) * bytes ≤ 140737488355328)
    (h : ∀ v1 w1, S d e w1 base ok v1 (xs ++ ys) → Below base w0 w1 → W.grownBy w1 v.ownBlock → (v1.ownBlock = v.ownBlock ∨ ∃ b, v1.ownBlock = some b ∧ W.heap.size ≤ b) → wpList P ops Q rest (a.put o.dst v1) w1) :
    wpList P ops Q (o :: rest) a W := by
  have hm := (S_reads' HX).1
  obtain ⟨f, h1, h2⟩ := S_two_ HO HX hap
  refine R_append_rows (tag f d) base hgd s x t e z bytes ho ht hinfo hz hs0 hb0 v xs.zipIdx (ys.zipIdx xs.length) A m c ok okp hs hx (R_mono h1 hokv) h2 (fun _ _ h => h) hokp hfresh HB hbase (by rw [List.length_zipIdx, hm]; exact hl) ?_
  intro v1 w1 hr
  rw [← show (xs ++ ys).zipIdx = xs.zipIdx ++ ys.zipIdx xs.length by rw [List.zipIdx_append, Nat.zero_add]] at hr
  exact h v1 w1 ⟨f, hr⟩
theorem S_append_rows_step (d : Kd α) {w0 W : World} (base : Nat) (hw : Region.wanted o (yielded ops a.tmps) = true) (s x : Operand) (t e : TypeId) (z : Value) (bytes : Nat)
    (ho : o.op = .call { callee := .builtin .append, args := #[s, x], argTypes := #[t, t] })
    (ht : P.underlying t = some (.slice e)) (hinfo : (P.info? e).map (fun i => (i.zero, i.size, i.bytes)) = some (some z, d.sz, bytes)) (hz : z.cells.size = d.sz) (hs0 : 0 < d.sz) (hb0 : 0 < bytes)
    (v : Value) (xs ys : List α) (A : Option Addr) (m c : Nat) (ok okv okp : Nat → Prop) (hs : a.eval s = v) (hx : a.eval x = .slice A m c)
    (HO : S d e W base okv v xs) (HX : S d e W base okp (.slice A m c) ys) (hokv : ∀ k, okv k → ok k) (hap : ∀ k, okp k → ¬ okv k) (hokp : ∀ k, okp k → ok k ∧ some k ≠ v.ownBlock) (hfresh : ∀ k, W.heap.size ≤ k → ok k)
    (HB : Below base w0 W) (hbase : base ≤ W.heap.size) (hl : (xs.length + ys.length) * bytes ≤ 140737488355328)
    (h : ∀ v1 w1, S d e w1 base ok v1 (xs ++ ys) → Below base w0 w1 → W.grownBy w1 v.ownBlock → (v1.ownBlock = v.ownBlock ∨ ∃ b, v1.ownBlock = some b ∧ W.heap.size ≤ b) → Kc (a.put o.dst v1) w1) :
    if Region.wanted o (yielded ops a.tmps) = true then Oper.wp P o a W Kc Q else Kc (a.put o.dst undef) W := by
  have hm := (S_reads' HX).1
  obtain ⟨f, h1, h2⟩ := S_two_ HO HX hap
  refine R_append_rows_step (tag f d) base hw s x t e z bytes ho ht hinfo hz hs0 hb0 v xs.zipIdx (ys.zipIdx xs.length) A m c ok okp hs hx (R_mono h1 hokv) h2 (fun _ _ h => h) hokp hfresh HB hbase (by rw [List.length_zipIdx, hm]; exact hl) ?_
  intro v1 w1 hr
  rw [← show (xs ++ ys).zipIdx = xs.zipIdx ++ ys.zipIdx xs.length by rw [List.zipIdx_append, Nat.zero_add]] at hr
  exact h v1 w1 ⟨f, hr⟩
end
end Kd
end Go.Proofs.YtnecbkognpponaaW.PrintWords

/- A Go function as a Lean function, and its contract: for every input the Go code comes to what the Lean function tells. -/




















































namespace Go.Proofs.Ytnecbkognpponaa.Q
open Go.RowKit Go.Proofs.YtnecbkognpponaaW.PrintWords Go.Proofs.YtnecbkognpponaaW.PrintLast Go.Proofs.YtnecbkognpponaaW.PrintMore
attribute [local go_sem] max2_int min2_int max_two min_two max_three min_three max_four min_four   -- for this text's walks alone
set_option linter.unusedVariables false
set_option linter.unusedSimpArgs false



def errW : Option Int → Value
  | none => .nilIface
  | some c => .iface 0 (.int .i64 c)
theorem errW_none : errW none = .nilIface := rfl
theorem errW_some (c : Int) : errW (some c) = .iface 0 (.int .i64 c) := rfl

theorem info3 : (Try.prog.info? 3).map (fun i => (i.zero, i.size, i.bytes)) = some (some (.int .i64 0), 1, 8) := by kernel_rfl
theorem info5 : (Try.prog.info? 5).map (fun i => (i.zero, i.size, i.bytes)) = some (some (.int .u8 0), 1, 1) := by kernel_rfl
theorem info24 : (Try.prog.info? 24).map (fun i => (i.zero, i.size, i.bytes)) = some (some (.agg #[(.int .i64 0), (.int .i64 0), (.int .i64 0), (.int .i64 0), (.int .i64 0), (.slice none 0 0), (.int .i64 0), (.bool false)]), 8, 80) := by kernel_rfl
theorem info63 : (Try.prog.info? 63).map (fun i => (i.zero, i.size, i.bytes)) = some (some (.agg #[(.int .i64 0), (.int .i64 0)]), 2, 16) := by kernel_rfl
-- the values' own types
/-! #### struct type 63 -/
structure S63 where
  f0 : Int
  f1 : Int
def z63 : S63 := ⟨(0 : Int), (0 : Int)⟩
def k63 : Kd S63 := Kd.iso (Kd.pair (Kd.int .i64) (Kd.int .i64)) (fun x : S63 => (x.f0, x.f1))
theorem k63_open {w : World} {x : S63} {cs : List Value} (h : k63.K w x cs) : cs = [.int .i64 x.f0, .int .i64 x.f1] := by
  obtain ⟨_, _, rfl, rfl, rfl⟩ := h
  exact rfl
theorem k63_openM {w : World} {base : Nat} {ok : Nat → Prop} {x : S63} {cs : List Value} (h : k63.M w base ok x cs) : cs = [.int .i64 x.f0, .int .i64 x.f1] := by
  obtain ⟨_, _, rfl, rfl, rfl⟩ := h
  exact rfl
theorem k63_mk (w : World) (x : S63)  : k63.K w x [.int .i64 x.f0, .int .i64 x.f1] := ⟨[.int .i64 x.f0], [.int .i64 x.f1], rfl, rfl, rfl⟩
theorem k63_mkM (w : World) (base : Nat) (ok : Nat → Prop) (x : S63)  : k63.M w base ok x [.int .i64 x.f0, .int .i64 x.f1] := ⟨[.int .i64 x.f0], [.int .i64 x.f1], rfl, rfl, rfl⟩
def rd_T63 (xs : List S63) (i : Int) : S63 := xs.getD i.toNat z63
theorem at_T63 {w : World} {A : Option Addr} {n : Nat} {xs : List S63} (h : Kd.C k63 w A n xs) (i : Int) (h0 : 0 ≤ i) (h1 : i < n) : ∃ ad , A = some ad ∧ w.cell? (ad.add (i.toNat * 2)) = some (.int .i64 (rd_T63 xs i).f0) ∧ w.cell? ⟨(ad.add (i.toNat * 2)).block, (ad.add (i.toNat * 2)).off + 1, none⟩ = some (.int .i64 (rd_T63 xs i).f1) := by
  obtain ⟨ad, c, e, _, hK, hc0⟩ := Kd.C_get h z63 i h0 h1
  have hc : ∀ j u, c[j]? = some u → w.cell? (ad.add (i.toNat * 2 + j)) = some u := hc0
  obtain rfl := k63_open hK
  exact ⟨ad, e, hc 0 _ rfl, by rw [← add_field _ _ 1 (by omega)]; exact hc 1 _ rfl⟩

/-! #### struct type 112 -/
structure S112 where
  f0 : Int
  f1 : Int
def z112 : S112 := ⟨(0 : Int), (0 : Int)⟩
def k112 : Kd S112 := Kd.iso (Kd.pair (Kd.int .i64) (Kd.int .i64)) (fun x : S112 => (x.f0, x.f1))
theorem k112_open {w : World} {x : S112} {cs : List Value} (h : k112.K w x cs) : cs = [.int .i64 x.f0, .int .i64 x.f1] := by
  obtain ⟨_, _, rfl, rfl, rfl⟩ := h
  exact rfl
theorem k112_openM {w : World} {base : Nat} {ok : Nat → Prop} {x : S112} {cs : List Value} (h : k112.M w base ok x cs) : cs = [.int .i64 x.f0, .int .i64 x.f1] := by
  obtain ⟨_, _, rfl, rfl, rfl⟩ := h
  exact rfl
theorem k112_mk (w : World) (x : S112)  : k112.K w x [.int .i64 x.f0, .int .i64 x.f1] := ⟨[.int .i64 x.f0], [.int .i64 x.f1], rfl, rfl, rfl⟩
theorem k112_mkM (w : World) (base : Nat) (ok : Nat → Prop) (x : S112)  : k112.M w base ok x [.int .i64 x.f0, .int .i64 x.f1] := ⟨[.int .i64 x.f0], [.int .i64 x.f1], rfl, rfl, rfl⟩
def rd_T112 (xs : List S112) (i : Int) : S112 := xs.getD i.toNat z112
theorem at_T112 {w : World} {A : Option Addr} {n : Nat} {xs : List S112} (h : Kd.C k112 w A n xs) (i : Int) (h0 : 0 ≤ i) (h1 : i < n) : ∃ ad , A = some ad ∧ w.cell? (ad.add (i.toNat * 2)) = some (.int .i64 (rd_T112 xs i).f0) ∧ w.cell? ⟨(ad.add (i.toNat * 2)).block, (ad.add (i.toNat * 2)).off + 1, none⟩ = some (.int .i64 (rd_T112 xs i).f1) := by
  obtain ⟨ad, c, e, _, hK, hc0⟩ := Kd.C_get h z112 i h0 h1
  have hc : ∀ j u, c[j]? = some u → w.cell? (ad.add (i.toNat * 2 + j)) = some u := hc0
  obtain rfl := k112_open hK
  exact ⟨ad, e, hc 0 _ rfl, by rw [← add_field _ _ 1 (by omega)]; exact hc 1 _ rfl⟩

def rd_L4 (xs : List (List S112)) (i : Int) : (List S112) := xs.getD i.toNat ([] : List S112)
theorem at_L4 {w : World} {A : Option Addr} {n : Nat} {xs : List (List S112)} (h : Kd.C (Kd.slice 112 k112) w A n xs) (i : Int) (h0 : 0 ≤ i) (h1 : i < n) : ∃ ad A0 c0, A = some ad ∧ w.cell? (ad.add i.toNat) = some (.slice A0 (rd_L4 xs i).length c0) ∧ (rd_L4 xs i).length ≤ c0 ∧ k112.C w A0 (rd_L4 xs i).length (rd_L4 xs i) := by
  obtain ⟨ad, c, e, _, hK, hc0⟩ := Kd.C_get h ([] : List S112) i h0 h1
  have hc : ∀ j u, c[j]? = some u → w.cell? (ad.add (i.toNat * 1 + j)) = some u := hc0
  obtain ⟨A0, c0, rfl, l0, g0⟩ := hK
  exact ⟨ad, A0, c0, e, by have hq := hc 0 _ rfl; rwa [Nat.mul_one, Nat.add_zero] at hq, l0, g0⟩

/-! #### struct type 100 -/
structure S100 where
  f0 : Int
  f1 : Int
  f2 : Int
  f3 : Int
  f4 : Int
  f5 : (List S112)
  f6 : Int
  f7 : Bool
def z100 : S100 := ⟨(0 : Int), (0 : Int), (0 : Int), (0 : Int), (0 : Int), ([] : List S112), (0 : Int), false⟩
def k100 : Kd S100 := Kd.iso (Kd.pair (Kd.int .i64) (Kd.pair (Kd.int .i64) (Kd.pair (Kd.int .i64) (Kd.pair (Kd.int .i64) (Kd.pair (Kd.int .i64) (Kd.pair (Kd.slice 112 k112) (Kd.pair (Kd.int .i64) Kd.bool))))))) (fun x : S100 => (x.f0, x.f1, x.f2, x.f3, x.f4, x.f5, x.f6, x.f7))
theorem k100_open {w : World} {x : S100} {cs : List Value} (h : k100.K w x cs) : ∃ A5 c5, cs = [.int .i64 x.f0, .int .i64 x.f1, .int .i64 x.f2, .int .i64 x.f3, .int .i64 x.f4, .slice A5 x.f5.length c5, .int .i64 x.f6, .bool x.f7] ∧ x.f5.length ≤ c5 ∧ k112.C w A5 x.f5.length x.f5 := by
  obtain ⟨_, _, rfl, rfl, ⟨_, _, rfl, rfl, ⟨_, _, rfl, rfl, ⟨_, _, rfl, rfl, ⟨_, _, rfl, rfl, ⟨_, _, rfl, ⟨A5, c5, rfl, l5, g5⟩, ⟨_, _, rfl, rfl, rfl⟩⟩⟩⟩⟩⟩⟩ := h
  exact ⟨A5, c5, rfl, l5, g5⟩
theorem k100_openM {w : World} {base : Nat} {ok : Nat → Prop} {x : S100} {cs : List Value} (h : k100.M w base ok x cs) : ∃ v5, cs = [.int .i64 x.f0, .int .i64 x.f1, .int .i64 x.f2, .int .i64 x.f3, .int .i64 x.f4, v5, .int .i64 x.f6, .bool x.f7] ∧ k112.R 112 w base ok v5 x.f5 := by
  obtain ⟨_, _, rfl, rfl, ⟨_, _, rfl, rfl, ⟨_, _, rfl, rfl, ⟨_, _, rfl, rfl, ⟨_, _, rfl, rfl, ⟨_, _, rfl, ⟨v5, rfl, g5⟩, ⟨_, _, rfl, rfl, rfl⟩⟩⟩⟩⟩⟩⟩ := h
  exact ⟨v5, rfl, g5⟩
theorem k100_mk (w : World) (x : S100) {A5 : Option Addr} {c5 : Nat} (l5 : x.f5.length ≤ c5) (g5 : k112.C w A5 x.f5.length x.f5) : k100.K w x [.int .i64 x.f0, .int .i64 x.f1, .int .i64 x.f2, .int .i64 x.f3, .int .i64 x.f4, .slice A5 x.f5.length c5, .int .i64 x.f6, .bool x.f7] := ⟨[.int .i64 x.f0], [.int .i64 x.f1, .int .i64 x.f2, .int .i64 x.f3, .int .i64 x.f4, .slice A5 x.f5.length c5, .int .i64 x.f6, .bool x.f7], rfl, rfl, ⟨[.int .i64 x.f1], [.int .i64 x.f2, .int .i64 x.f3, .int .i64 x.f4, .slice A5 x.f5.length c5, .int .i64 x.f6, .bool x.f7], rfl, rfl, ⟨[.int .i64 x.f2], [.int .i64 x.f3, .int .i64 x.f4, .slice A5 x.f5.length c5, .int .i64 x.f6, .bool x.f7], rfl, rfl, ⟨[.int .i64 x.f3], [.int .i64 x.f4, .slice A5 x.f5.length c5, .int .i64 x.f6, .bool x.f7], rfl, rfl, ⟨[.int .i64 x.f4], [.slice A5 x.f5.length c5, .int .i64 x.f6, .bool x.f7], rfl, rfl, ⟨[.slice A5 x.f5.length c5], [.int .i64 x.f6, .bool x.f7], rfl, ⟨A5, c5, rfl, l5, g5⟩, ⟨[.int .i64 x.f6], [.bool x.f7], rfl, rfl, rfl⟩⟩⟩⟩⟩⟩⟩
theorem k100_mkM (w : World) (base : Nat) (ok : Nat → Prop) (x : S100) {v5 : Value} (g5 : k112.R 112 w base ok v5 x.f5) : k100.M w base ok x [.int .i64 x.f0, .int .i64 x.f1, .int .i64 x.f2, .int .i64 x.f3, .int .i64 x.f4, v5, .int .i64 x.f6, .bool x.f7] := ⟨[.int .i64 x.f0], [.int .i64 x.f1, .int .i64 x.f2, .int .i64 x.f3, .int .i64 x.f4, v5, .int .i64 x.f6, .bool x.f7], rfl, rfl, ⟨[.int .i64 x.f1], [.int .i64 x.f2, .int .i64 x.f3, .int .i64 x.f4, v5, .int .i64 x.f6, .bool x.f7], rfl, rfl, ⟨[.int .i64 x.f2], [.int .i64 x.f3, .int .i64 x.f4, v5, .int .i64 x.f6, .bool x.f7], rfl, rfl, ⟨[.int .i64 x.f3], [.int .i64 x.f4, v5, .int .i64 x.f6, .bool x.f7], rfl, rfl, ⟨[.int .i64 x.f4], [v5, .int .i64 x.f6, .bool x.f7], rfl, rfl, ⟨[v5], [.int .i64 x.f6, .bool x.f7], rfl, ⟨v5, rfl, g5⟩, ⟨[.int .i64 x.f6], [.bool x.f7], rfl, rfl, rfl⟩⟩⟩⟩⟩⟩⟩
def rd_T100 (xs : List S100) (i : Int) : S100 := xs.getD i.toNat z100
theorem at_T100 {w : World} {A : Option Addr} {n : Nat} {xs : List S100} (h : Kd.C k100 w A n xs) (i : Int) (h0 : 0 ≤ i) (h1 : i < n) : ∃ ad A5 c5, A = some ad ∧ w.cell? (ad.add (i.toNat * 8)) = some (.int .i64 (rd_T100 xs i).f0) ∧ w.cell? ⟨(ad.add (i.toNat * 8)).block, (ad.add (i.toNat * 8)).off + 1, none⟩ = some (.int .i64 (rd_T100 xs i).f1) ∧ w.cell? ⟨(ad.add (i.toNat * 8)).block, (ad.add (i.toNat * 8)).off + 2, none⟩ = some (.int .i64 (rd_T100 xs i).f2) ∧ w.cell? ⟨(ad.add (i.toNat * 8)).block, (ad.add (i.toNat * 8)).off + 3, none⟩ = some (.int .i64 (rd_T100 xs i).f3) ∧ w.cell? ⟨(ad.add (i.toNat * 8)).block, (ad.add (i.toNat * 8)).off + 4, none⟩ = some (.int .i64 (rd_T100 xs i).f4) ∧ w.cell? ⟨(ad.add (i.toNat * 8)).block, (ad.add (i.toNat * 8)).off + 5, none⟩ = some (.slice A5 (rd_T100 xs i).f5.length c5) ∧ w.cell? ⟨(ad.add (i.toNat * 8)).block, (ad.add (i.toNat * 8)).off + 6, none⟩ = some (.int .i64 (rd_T100 xs i).f6) ∧ w.cell? ⟨(ad.add (i.toNat * 8)).block, (ad.add (i.toNat * 8)).off + 7, none⟩ = some (.bool (rd_T100 xs i).f7) ∧ (rd_T100 xs i).f5.length ≤ c5 ∧ k112.C w A5 (rd_T100 xs i).f5.length (rd_T100 xs i).f5 := by
  obtain ⟨ad, c, e, _, hK, hc0⟩ := Kd.C_get h z100 i h0 h1
  have hc : ∀ j u, c[j]? = some u → w.cell? (ad.add (i.toNat * 8 + j)) = some u := hc0
  obtain ⟨A5, c5, rfl, l5, g5⟩ := k100_open hK
  exact ⟨ad, A5, c5, e, hc 0 _ rfl, by rw [← add_field _ _ 1 (by omega)]; exact hc 1 _ rfl, by rw [← add_field _ _ 2 (by omega)]; exact hc 2 _ rfl, by rw [← add_field _ _ 3 (by omega)]; exact hc 3 _ rfl, by rw [← add_field _ _ 4 (by omega)]; exact hc 4 _ rfl, by rw [← add_field _ _ 5 (by omega)]; exact hc 5 _ rfl, by rw [← add_field _ _ 6 (by omega)]; exact hc 6 _ rfl, by rw [← add_field _ _ 7 (by omega)]; exact hc 7 _ rfl, l5, g5⟩

def rd_L7 (xs : List (List S63)) (i : Int) : (List S63) := xs.getD i.toNat ([] : List S63)
theorem at_L7 {w : World} {A : Option Addr} {n : Nat} {xs : List (List S63)} (h : Kd.C (Kd.slice 63 k63) w A n xs) (i : Int) (h0 : 0 ≤ i) (h1 : i < n) : ∃ ad A0 c0, A = some ad ∧ w.cell? (ad.add i.toNat) = some (.slice A0 (rd_L7 xs i).length c0) ∧ (rd_L7 xs i).length ≤ c0 ∧ k63.C w A0 (rd_L7 xs i).length (rd_L7 xs i) := by
  obtain ⟨ad, c, e, _, hK, hc0⟩ := Kd.C_get h ([] : List S63) i h0 h1
  have hc : ∀ j u, c[j]? = some u → w.cell? (ad.add (i.toNat * 1 + j)) = some u := hc0
  obtain ⟨A0, c0, rfl, l0, g0⟩ := hK
  exact ⟨ad, A0, c0, e, by have hq := hc 0 _ rfl; rwa [Nat.mul_one, Nat.add_zero] at hq, l0, g0⟩

/-! #### struct type 24 -/
structure S24 where
  f0 : Int
  f1 : Int
  f2 : Int
  f3 : Int
  f4 : Int
  f5 : (List S63)
  f6 : Int
  f7 : Bool
def z24 : S24 := ⟨(0 : Int), (0 : Int), (0 : Int), (0 : Int), (0 : Int), ([] : List S63), (0 : Int), false⟩
def k24 : Kd S24 := Kd.iso (Kd.pair (Kd.int .i64) (Kd.pair (Kd.int .i64) (Kd.pair (Kd.int .i64) (Kd.pair (Kd.int .i64) (Kd.pair (Kd.int .i64) (Kd.pair (Kd.slice 63 k63) (Kd.pair (Kd.int .i64) Kd.bool))))))) (fun x : S24 => (x.f0, x.f1, x.f2, x.f3, x.f4, x.f5, x.f6, x.f7))
theorem k24_open {w : World} {x : S24} {cs : List Value} (h : k24.K w x cs) : ∃ A5 c5, cs = [.int .i64 x.f0, .int .i64 x.f1, .int .i64 x.f2, .int .i64 x.f3, .int .i64 x.f4, .slice A5 x.f5.length c5, .int .i64 x.f6, .bool x.f7] ∧ x.f5.length ≤ c5 ∧ k63.C w A5 x.f5.length x.f5 := by
  obtain ⟨_, _, rfl, rfl, ⟨_, _, rfl, rfl, ⟨_, _, rfl, rfl, ⟨_, _, rfl, rfl, ⟨_, _, rfl, rfl, ⟨_, _, rfl, ⟨A5, c5, rfl, l5, g5⟩, ⟨_, _, rfl, rfl, rfl⟩⟩⟩⟩⟩⟩⟩ := h
  exact ⟨A5, c5, rfl, l5, g5⟩
theorem k24_openM {w : World} {base : Nat} {ok : Nat → Prop} {x : S24} {cs : List Value} (h : k24.M w base ok x cs) : ∃ v5, cs = [.int .i64 x.f0, .int .i64 x.f1, .int .i64 x.f2, .int .i64 x.f3, .int .i64 x.f4, v5, .int .i64 x.f6, .bool x.f7] ∧ k63.R 63 w base ok v5 x.f5 := by
  obtain ⟨_, _, rfl, rfl, ⟨_, _, rfl, rfl, ⟨_, _, rfl, rfl, ⟨_, _, rfl, rfl, ⟨_, _, rfl, rfl, ⟨_, _, rfl, ⟨v5, rfl, g5⟩, ⟨_, _, rfl, rfl, rfl⟩⟩⟩⟩⟩⟩⟩ := h
  exact ⟨v5, rfl, g5⟩
theorem k24_mk (w : World) (x : S24) {A5 : Option Addr} {c5 : Nat} (l5 : x.f5.length ≤ c5) (g5 : k63.C w A5 x.f5.length x.f5) : k24.K w x [.int .i64 x.f0, .int .i64 x.f1, .int .i64 x.f2, .int .i64 x.f3, .int .i64 x.f4, .slice A5 x.f5.length c5, .int .i64 x.f6, .bool x.f7] := ⟨[.int .i64 x.f0], [.int .i64 x.f1, .int .i64 x.f2, .int .i64 x.f3, .int .i64 x.f4, .slice A5 x.f5.length c5, .int .i64 x.f6, .bool x.f7], rfl, rfl, ⟨[.int .i64 x.f1], [.int .i64 x.f2, .int .i64 x.f3, .int .i64 x.f4, .slice A5 x.f5.length c5, .int .i64 x.f6, .bool x.f7], rfl, rfl, ⟨[.int .i64 x.f2], [.int .i64 x.f3, .int .i64 x.f4, .slice A5 x.f5.length c5, .int .i64 x.f6, .bool x.f7], rfl, rfl, ⟨[.int .i64 x.f3], [.int .i64 x.f4, .slice A5 x.f5.length c5, .int .i64 x.f6, .bool x.f7], rfl, rfl, ⟨[.int .i64 x.f4], [.slice A5 x.f5.length c5, .int .i64 x.f6, .bool x.f7], rfl, rfl, ⟨[.slice A5 x.f5.length c5], [.int .i64 x.f6, .bool x.f7], rfl, ⟨A5, c5, rfl, l5, g5⟩, ⟨[.int .i64 x.f6], [.bool x.f7], rfl, rfl, rfl⟩⟩⟩⟩⟩⟩⟩
theorem k24_mkM (w : World) (base : Nat) (ok : Nat → Prop) (x : S24) {v5 : Value} (g5 : k63.R 63 w base ok v5 x.f5) : k24.M w base ok x [.int .i64 x.f0, .int .i64 x.f1, .int .i64 x.f2, .int .i64 x.f3, .int .i64 x.f4, v5, .int .i64 x.f6, .bool x.f7] := ⟨[.int .i64 x.f0], [.int .i64 x.f1, .int .i64 x.f2, .int .i64 x.f3, .int .i64 x.f4, v5, .int .i64 x.f6, .bool x.f7], rfl, rfl, ⟨[.int .i64 x.f1], [.int .i64 x.f2, .int .i64 x.f3, .int .i64 x.f4, v5, .int .i64 x.f6, .bool x.f7], rfl, rfl, ⟨[.int .i64 x.f2], [.int .i64 x.f3, .int .i64 x.f4, v5, .int .i64 x.f6, .bool x.f7], rfl, rfl, ⟨[.int .i64 x.f3], [.int .i64 x.f4, v5, .int .i64 x.f6, .bool x.f7], rfl, rfl, ⟨[.int .i64 x.f4], [v5, .int .i64 x.f6, .bool x.f7], rfl, rfl, ⟨[v5], [.int .i64 x.f6, .bool x.f7], rfl, ⟨v5, rfl, g5⟩, ⟨[.int .i64 x.f6], [.bool x.f7], rfl, rfl, rfl⟩⟩⟩⟩⟩⟩⟩
def rd_T24 (xs : List S24) (i : Int) : S24 := xs.getD i.toNat z24
theorem at_T24 {w : World} {A : Option Addr} {n : Nat} {xs : List S24} (h : Kd.C k24 w A n xs) (i : Int) (h0 : 0 ≤ i) (h1 : i < n) : ∃ ad A5 c5, A = some ad ∧ w.cell? (ad.add (i.toNat * 8)) = some (.int .i64 (rd_T24 xs i).f0) ∧ w.cell? ⟨(ad.add (i.toNat * 8)).block, (ad.add (i.toNat * 8)).off + 1, none⟩ = some (.int .i64 (rd_T24 xs i).f1) ∧ w.cell? ⟨(ad.add (i.toNat * 8)).block, (ad.add (i.toNat * 8)).off + 2, none⟩ = some (.int .i64 (rd_T24 xs i).f2) ∧ w.cell? ⟨(ad.add (i.toNat * 8)).block, (ad.add (i.toNat * 8)).off + 3, none⟩ = some (.int .i64 (rd_T24 xs i).f3) ∧ w.cell? ⟨(ad.add (i.toNat * 8)).block, (ad.add (i.toNat * 8)).off + 4, none⟩ = some (.int .i64 (rd_T24 xs i).f4) ∧ w.cell? ⟨(ad.add (i.toNat * 8)).block, (ad.add (i.toNat * 8)).off + 5, none⟩ = some (.slice A5 (rd_T24 xs i).f5.length c5) ∧ w.cell? ⟨(ad.add (i.toNat * 8)).block, (ad.add (i.toNat * 8)).off + 6, none⟩ = some (.int .i64 (rd_T24 xs i).f6) ∧ w.cell? ⟨(ad.add (i.toNat * 8)).block, (ad.add (i.toNat * 8)).off + 7, none⟩ = some (.bool (rd_T24 xs i).f7) ∧ (rd_T24 xs i).f5.length ≤ c5 ∧ k63.C w A5 (rd_T24 xs i).f5.length (rd_T24 xs i).f5 := by
  obtain ⟨ad, c, e, _, hK, hc0⟩ := Kd.C_get h z24 i h0 h1
  have hc : ∀ j u, c[j]? = some u → w.cell? (ad.add (i.toNat * 8 + j)) = some u := hc0
  obtain ⟨A5, c5, rfl, l5, g5⟩ := k24_open hK
  exact ⟨ad, A5, c5, e, hc 0 _ rfl, by rw [← add_field _ _ 1 (by omega)]; exact hc 1 _ rfl, by rw [← add_field _ _ 2 (by omega)]; exact hc 2 _ rfl, by rw [← add_field _ _ 3 (by omega)]; exact hc 3 _ rfl, by rw [← add_field _ _ 4 (by omega)]; exact hc 4 _ rfl, by rw [← add_field _ _ 5 (by omega)]; exact hc 5 _ rfl, by rw [← add_field _ _ 6 (by omega)]; exact hc 6 _ rfl, by rw [← add_field _ _ 7 (by omega)]; exact hc 7 _ rfl, l5, g5⟩

end Go.Proofs.Ytnecbkognpponaa.Q

/- Words for the walks' tails: default proofs. -/



namespace Go.Proofs.YtnecbkognpponaaW.PrintWords
open Go.RowKit
section
open Go.Proofs.YtnecbkognpponaaW.PrintLast Go.Proofs.YtnecbkognpponaaW.PrintWords Go.Proofs.YtnecbkognpponaaW.PrintMore
variable {P : Program} {md : Region.Mode} {ops : Array Oper} {Q : Exit → Act → World → Prop} {S : World → Prop} {ds : List Nat}
/- The steps' tails, by default proofs. -/
theorem put_q {α : Sort _} {a b : α} (h : a = b := by simp only [Act.put, List.setIfInBounds_toArray, List.set_cons_zero, List.set_cons_succ, i64_w, i32_w]; rfl) : a = b := h
theorem pq_ (i n : Nat) {oi : Oper} {v : Value} {fuel : Nat} {l : Array Bool} {a a' : Act} {w : World} {T : Bool × List (List Nat × List Nat)} (l' : Array Bool) (hT : rtab md ops = T) (hi : ops[i]? = some oi) (hN : oi.dst = some n)
    (h : wpAnyLast P md ops Q S ds fuel l' a' w) (hc : anyT T l.toList l'.toList i = true := by kernel_rfl)
    (hQ : ∀ c a w, Q (.panic c) (a.put oi.dst v) w → Q (.panic c) a w := by exact fun _ _ _ h => h)
    (hw : Region.wanted oi (yielded ops a.tmps) = true := by rfl)
    (hy : ∀ w, (execOp a.eval oi).run P w = .ok (.value v) w := by intro _; go_simp; with_reducible rfl)
    (ha : a.put (some n) v = a' := by simp only [Act.put, List.setIfInBounds_toArray, List.set_cons_zero, List.set_cons_succ, i64_w, i32_w]; rfl) : wpAnyLast P md ops Q S ds (fuel + 1) l a w :=
  pure_ l' hi hN (any_of hT hc) hQ (Or.inl ⟨hw, hy⟩) ha h
theorem mp_q {p : Prop} (h : p := by (try simp only [List.map_toArray, List.map_cons, List.map_nil]); first | done | rfl | (simp only [List.length_drop, List.length_take]; rfl)) : p := h
theorem bw_q {p q : Prop} (h : Aside0 p) (hq : p → q := by intro h; repeat (first | (with_reducible first | exact h | apply below_alloc | apply pw_below_drewN | apply below_drew1 | refine below_set ?_ (Aside0.out (by with_reducible assumption))) | exact h)) : q := hq h.out
theorem bk_q {p q : Prop} (h : Aside0 p) (hq : p → q := by intro h; (with_reducible repeat (first | refine blk_drewN ?_ _ | refine blk_drew ?_ | refine blk_alloc ?_ _)); exact h) : q := hq h.out
theorem kV_q {p q : Prop} (h : Aside0 p) (hq : p → q := by intro h; (with_reducible repeat (first | apply Kd.V_alloc | apply Kd.V_drewN | apply Kd.V_drew)); exact h) : q := hq h.out
theorem kS_q {p q : Prop} (h : Aside0 p) (hq : p → q := by intro h; (with_reducible repeat (first | apply Kd.S_alloc | apply Kd.S_drewN | apply Kd.S_drew)); exact h) : q := hq h.out
theorem kN_q {p q : Prop} (h : Aside0 p) (hq : p → q := by intro h; (with_reducible repeat (first | apply Kd.N_alloc | apply Kd.N_drewN | apply Kd.N_drew)); exact h) : q := hq h.out
theorem kR_q {p q : Prop} (h : Aside0 p) (hq : p → q := by intro h; (with_reducible repeat (first | apply Kd.R_alloc | apply Kd.R_drewN | apply Kd.R_drew)); exact h) : q := hq h.out
theorem kQ_q {p q : Prop} (h : Aside0 p) (hq : p → q := by intro h; (with_reducible repeat (first | apply Kd.Q_alloc | apply Kd.Q_drewN | apply Kd.Q_drew)); exact h) : q := hq h.out
theorem cs_q {p q : Prop} (h : p) (hq : p → q := by intro h; repeat (first | exact h | (with_reducible refine Kd.C_alloc ?_ _) | (with_reducible refine Kd.C_drewN ?_ _) | (with_reducible refine Kd.C_drew ?_))) : q := hq h
theorem er_q {p : Prop} (h : p := by first | rfl | (simp [errW_none, errW_some] <;> rfl) | (simp [*, errW_none, errW_some] <;> rfl)) : p := h
end
end Go.Proofs.YtnecbkognpponaaW.PrintWords

/- Words for the walks' tails, more of them. -/

namespace Go.Proofs.YtnecbkognpponaaW.PrintWords
open Go.RowKit
section
open Go.Proofs.YtnecbkognpponaaW.PrintLast Go.Proofs.YtnecbkognpponaaW.PrintWords Go.Proofs.YtnecbkognpponaaW.PrintMore
variable {P : Program} {md : Region.Mode} {ops : Array Oper} {Q : Exit → Act → World → Prop} {S : World → Prop} {ds : List Nat}
theorem pu_ (i n : Nat) {oi : Oper} {fuel : Nat} {l : Array Bool} {a a' : Act} {w : World} {T : Bool × List (List Nat × List Nat)} (l' : Array Bool) (hT : rtab md ops = T) (hi : ops[i]? = some oi) (hN : oi.dst = some n)
    (h : wpAnyLast P md ops Q S ds fuel l' a' w) (hc : anyT T l.toList l'.toList i = true := by kernel_rfl)
    (hQ : ∀ c a w, Q (.panic c) (a.put oi.dst undef) w → Q (.panic c) a w := by exact fun _ _ _ h => h)
    (hw : Region.wanted oi (yielded ops a.tmps) = false := by rfl)
    (ha : a.put (some n) undef = a' := by simp only [Act.put, List.setIfInBounds_toArray, List.set_cons_zero, List.set_cons_succ, i64_w, i32_w]; rfl) : wpAnyLast P md ops Q S ds (fuel + 1) l a w :=
  pure_ l' hi hN (any_of hT hc) hQ (Or.inr ⟨hw, rfl⟩) ha h
theorem pr_ (i n : Nat) {oi : Oper} {v : Value} {fuel : Nat} {l : Array Bool} {a a' : Act} {w : World} (l' : Array Bool) (hi : ops[i]? = some oi) (hN : oi.dst = some n)
    (h : wpAnyLast P md ops Q S ds fuel l' a' w) (hc : anyB md ops l l' i = true := by kernel_rfl)
    (hQ : ∀ c a w, Q (.panic c) (a.put oi.dst v) w → Q (.panic c) a w := by exact fun _ _ _ h => h)
    (hw : Region.wanted oi (yielded ops a.tmps) = true := by rfl)
    (hy : ∀ w, (execOp a.eval oi).run P w = .ok (.value v) w := by intro _; go_simp; with_reducible rfl)
    (ha : a.put (some n) v = a' := by simp only [Act.put, List.setIfInBounds_toArray, List.set_cons_zero, List.set_cons_succ, i64_w, i32_w]; rfl) : wpAnyLast P md ops Q S ds (fuel + 1) l a w :=
  pure_ l' hi hN hc hQ (Or.inl ⟨hw, hy⟩) ha h
theorem bz_ {p q : Prop} (h : p) (hq : p → q := by intro h; (with_reducible repeat (first | refine blk_drewN ?_ _ | refine blk_drew ?_ | refine blk_alloc ?_ _)); exact h) : q := hq h
theorem as_q {p : Prop} (h : p := by first | (with_reducible assumption) | assumption) : p := h
theorem box_q {rest : List Oper} {o : Oper} {a : Act} {W : World} (N : Tmp) (cs : Array Value) (t : TypeId)
    (h : ∀ g, g = W.heap.size → ∀ w1, w1.heap[g]? = some (.cells cs t (0, 0)) → Below W.heap.size W w1 → wpList P ops Q rest (a.put o.dst (.pointer (some ⟨g, 0, none⟩))) w1)
    (hd : o.dst = some N := by rfl) (hgd : o.guard = none := by rfl)
    (hrun : (execOp a.eval o).run P W = .ok (.value (.pointer (some ⟨W.heap.size, 0, none⟩))) (W.alloc (.cells cs t (0, 0))) := by first | (go_simp; done) | (go_simp; rfl)) : wpList P ops Q (o :: rest) a W := box_event hgd hd hrun h
variable {w : World} {g : Nat} {t : TypeId} {c0 c1 c2 c3 c4 c5 c6 c7 : Value}
theorem cz2_ (h : Aside0 (w.heap[g]? = some (.cells #[c0, c1] t (0, 0)))) : w.cell? ⟨g, 0, none⟩ = some c0 ∧ w.cell? ⟨g, 1, none⟩ = some c1 := ⟨(blk_cell h.out 0).trans rfl, (blk_cell h.out 1).trans rfl⟩
theorem cz3_ (h : Aside0 (w.heap[g]? = some (.cells #[c0, c1, c2] t (0, 0)))) : w.cell? ⟨g, 0, none⟩ = some c0 ∧ w.cell? ⟨g, 1, none⟩ = some c1 ∧ w.cell? ⟨g, 2, none⟩ = some c2 := ⟨(blk_cell h.out 0).trans rfl, (blk_cell h.out 1).trans rfl, (blk_cell h.out 2).trans rfl⟩
theorem cz4_ (h : Aside0 (w.heap[g]? = some (.cells #[c0, c1, c2, c3] t (0, 0)))) : w.cell? ⟨g, 0, none⟩ = some c0 ∧ w.cell? ⟨g, 1, none⟩ = some c1 ∧ w.cell? ⟨g, 2, none⟩ = some c2 ∧ w.cell? ⟨g, 3, none⟩ = some c3 := ⟨(blk_cell h.out 0).trans rfl, (blk_cell h.out 1).trans rfl, (blk_cell h.out 2).trans rfl, (blk_cell h.out 3).trans rfl⟩
theorem cz7_ (h : Aside0 (w.heap[g]? = some (.cells #[c0, c1, c2, c3, c4, c5, c6] t (0, 0)))) : w.cell? ⟨g, 0, none⟩ = some c0 ∧ w.cell? ⟨g, 1, none⟩ = some c1 ∧ w.cell? ⟨g, 2, none⟩ = some c2 ∧ w.cell? ⟨g, 3, none⟩ = some c3 ∧ w.cell? ⟨g, 4, none⟩ = some c4 ∧ w.cell? ⟨g, 5, none⟩ = some c5 ∧ w.cell? ⟨g, 6, none⟩ = some c6 := ⟨(blk_cell h.out 0).trans rfl, (blk_cell h.out 1).trans rfl, (blk_cell h.out 2).trans rfl, (blk_cell h.out 3).trans rfl, (blk_cell h.out 4).trans rfl, (blk_cell h.out 5).trans rfl, (blk_cell h.out 6).trans rfl⟩
theorem cz8_ (h : Aside0 (w.heap[g]? = some (.cells #[c0, c1, c2, c3, c4, c5, c6, c7] t (0, 0)))) : w.cell? ⟨g, 0, none⟩ = some c0 ∧ w.cell? ⟨g, 1, none⟩ = some c1 ∧ w.cell? ⟨g, 2, none⟩ = some c2 ∧ w.cell? ⟨g, 3, none⟩ = some c3 ∧ w.cell? ⟨g, 4, none⟩ = some c4 ∧ w.cell? ⟨g, 5, none⟩ = some c5 ∧ w.cell? ⟨g, 6, none⟩ = some c6 ∧ w.cell? ⟨g, 7, none⟩ = some c7 := ⟨(blk_cell h.out 0).trans rfl, (blk_cell h.out 1).trans rfl, (blk_cell h.out 2).trans rfl, (blk_cell h.out 3).trans rfl, (blk_cell h.out 4).trans rfl, (blk_cell h.out 5).trans rfl, (blk_cell h.out 6).trans rfl, (blk_cell h.out 7).trans rfl⟩
theorem fz2_ {cs : Array Value} (h : Aside0 (w.heap[g]? = some (.cells cs t (0, 0)))) : w.frozen? ⟨g, 0, none⟩ = false ∧ w.frozen? ⟨g, 1, none⟩ = false := ⟨blk_frozen h.out 0, blk_frozen h.out 1⟩
theorem fz3_ {cs : Array Value} (h : Aside0 (w.heap[g]? = some (.cells cs t (0, 0)))) : w.frozen? ⟨g, 0, none⟩ = false ∧ w.frozen? ⟨g, 1, none⟩ = false ∧ w.frozen? ⟨g, 2, none⟩ = false := ⟨blk_frozen h.out 0, blk_frozen h.out 1, blk_frozen h.out 2⟩
theorem fz4_ {cs : Array Value} (h : Aside0 (w.heap[g]? = some (.cells cs t (0, 0)))) : w.frozen? ⟨g, 0, none⟩ = false ∧ w.frozen? ⟨g, 1, none⟩ = false ∧ w.frozen? ⟨g, 2, none⟩ = false ∧ w.frozen? ⟨g, 3, none⟩ = false := ⟨blk_frozen h.out 0, blk_frozen h.out 1, blk_frozen h.out 2, blk_frozen h.out 3⟩
theorem fz7_ {cs : Array Value} (h : Aside0 (w.heap[g]? = some (.cells cs t (0, 0)))) : w.frozen? ⟨g, 0, none⟩ = false ∧ w.frozen? ⟨g, 1, none⟩ = false ∧ w.frozen? ⟨g, 2, none⟩ = false ∧ w.frozen? ⟨g, 3, none⟩ = false ∧ w.frozen? ⟨g, 4, none⟩ = false ∧ w.frozen? ⟨g, 5, none⟩ = false ∧ w.frozen? ⟨g, 6, none⟩ = false := ⟨blk_frozen h.out 0, blk_frozen h.out 1, blk_frozen h.out 2, blk_frozen h.out 3, blk_frozen h.out 4, blk_frozen h.out 5, blk_frozen h.out 6⟩
theorem fz8_ {cs : Array Value} (h : Aside0 (w.heap[g]? = some (.cells cs t (0, 0)))) : w.frozen? ⟨g, 0, none⟩ = false ∧ w.frozen? ⟨g, 1, none⟩ = false ∧ w.frozen? ⟨g, 2, none⟩ = false ∧ w.frozen? ⟨g, 3, none⟩ = false ∧ w.frozen? ⟨g, 4, none⟩ = false ∧ w.frozen? ⟨g, 5, none⟩ = false ∧ w.frozen? ⟨g, 6, none⟩ = false ∧ w.frozen? ⟨g, 7, none⟩ = false := ⟨blk_frozen h.out 0, blk_frozen h.out 1, blk_frozen h.out 2, blk_frozen h.out 3, blk_frozen h.out 4, blk_frozen h.out 5, blk_frozen h.out 6, blk_frozen h.out 7⟩
end
end Go.Proofs.YtnecbkognpponaaW.PrintWords

/- A Go function as a Lean function, and its contract: for every input the Go code comes to what the Lean function tells. -/

namespace Go.Proofs.Ytnecbkognpponaa.Q
open Go.RowKit Go.Proofs.YtnecbkognpponaaW.PrintWords Go.Proofs.YtnecbkognpponaaW.PrintLast Go.Proofs.YtnecbkognpponaaW.PrintMore
attribute [local go_sem] max2_int min2_int max_two min_two max_three min_three max_four min_four   -- for this text's walks alone
set_option linter.unusedVariables false
set_option linter.unusedSimpArgs false

/-! ### spec_l01In: function 67 -/
def spec_l01In.f (a0 : Int) (a1 : Int) (a2 : Int) : Option (Bool) := if a0 ≥ a1 then (some (decide (a0 ≤ a2))) else (some false)
set_option maxHeartbeats 8000000 in
set_option maxRecDepth 100000 in
theorem spec_l01In.calls (a0 : Int) (a1 : Int) (a2 : Int) (r : Bool) (w : World) (h : spec_l01In.f a0 a1 a2 = some r) :
  Calls Try.prog 67 #[.int .i64 a0, .int .i64 a1, .int .i64 a2] w fun e w' => e = .returned (.bool r) ∧ Drawn0 w w' := by
 have H : (if a0 ≥ a1 then (some (decide (a0 ≤ a2))) else (some false)) = some r := h
 clear h
 by_cases c4 : a0 ≥ a1
 ·rw [if_pos c4] at H
  have c4b0 : decide (a1 ≤ a0) = true := decide_eq_true c4
  clear c4
  obtain rfl := Option.some.inj H
  go_enter Try.func67, Try.ntmps67
  go_wp2
  go_ret
  exact ⟨by first | rfl | (simp; done) | (simp [*]; done), by repeat (first | exact Drawn0.refl _ | apply Drawn0.step)⟩
 ·rw [if_neg c4] at H
  have c4b0 : decide (a1 ≤ a0) = false := decide_eq_false c4
  clear c4
  obtain rfl := Option.some.inj H
  go_enter Try.func67, Try.ntmps67
  go_wp2
  go_ret
  exact ⟨by first | rfl | (simp; done) | (simp [*]; done), by repeat (first | exact Drawn0.refl _ | apply Drawn0.step)⟩

end Go.Proofs.Ytnecbkognpponaa.Q

/- A Go function as a Lean function, and its contract: for every input the Go code comes to what the Lean function tells. -/


namespace Go.Proofs.Ytnecbkognpponaa.Q
open Go.RowKit Go.Proofs.YtnecbkognpponaaW.PrintWords Go.Proofs.YtnecbkognpponaaW.PrintLast Go.Proofs.YtnecbkognpponaaW.PrintMore
attribute [local go_sem] max2_int min2_int max_two min_two max_three min_three max_four min_four   -- for this text's walks alone
set_option linter.unusedVariables false
set_option linter.unusedSimpArgs false

/-! ### spec_l04Near: function 68 -/
def spec_l04Near.l0 : Nat → Int → Int → Int → Int → Int → Int → List (S63) → Int → Bool → Option (Bool)
 | 0, _, _, _, _, _, _, _, _, _ => none
 | k + 1, x3, x117000, x117001, x117002, x117003, x117004, x117005, x117006, x117007 => if x3 < (x117005.length : Int) then (if 0 ≤ x3 then ((spec_l01In.f ((rd_T63 x117005 x3).f0) 1 6).bind fun t119 => (if t119 = true then (if ((rd_T63 x117005 x3).f0) = x117002 then (some false) else ((spec_l01In.f ((rd_T63 x117005 x3).f1) 1 1000).bind fun t120 => (if t120 = true then (if x3 > 0 then (if 0 ≤ (wrap64 (x3 - 1)) then (if (wrap64 (x3 - 1)) < (x117005.length : Int) then (if ((rd_T63 x117005 (wrap64 (x3 - 1))).f0) ≥ ((rd_T63 x117005 x3).f0) then (some false) else (spec_l04Near.l0 k (wrap64 (x3 + 1)) x117000 x117001 x117002 x117003 x117004 x117005 x117006 x117007)) else (none)) else (none)) else (spec_l04Near.l0 k (wrap64 (x3 + 1)) x117000 x117001 x117002 x117003 x117004 x117005 x117006 x117007)) else (some false)))) else (some false))) else (none)) else (some true)
def spec_l04Near.f (k : Nat) (a0_0 : Int) (a0_1 : Int) (a0_2 : Int) (a0_3 : Int) (a0_4 : Int) (l0_5 : List (S63)) (a0_6 : Int) (a0_7 : Bool) : Option (Bool) := spec_l04Near.l0 k 0 a0_0 a0_1 a0_2 a0_3 a0_4 l0_5 a0_6 a0_7
theorem spec_l04Near.mono_l : ∀ k, (∀ y0 y1 y2 y3 y4 y5 y6 y7 y8, LeO (spec_l04Near.l0 k y0 y1 y2 y3 y4 y5 y6 y7 y8) (spec_l04Near.l0 (k + 1) y0 y1 y2 y3 y4 y5 y6 y7 y8))
 | 0 => fun _ _ _ _ _ _ _ _ _ r h => by simp [spec_l04Near.l0] at h
 | k + 1 => by
  have ih0 := spec_l04Near.mono_l k
  ·intro y0 y1 y2 y3 y4 y5 y6 y7 y8
   unfold spec_l04Near.l0
   repeat' first
   | (with_reducible exact ih0 _ _ _ _ _ _ _ _ _)
   | (with_reducible exact LeO.refl _)
   | (with_reducible exact LeO.none _)
   | (with_reducible refine LeO.ite ?_ ?_)
   | (with_reducible refine LeO.bind ?_ (fun _ => ?_))
   | exact ih0 _ _ _ _ _ _ _ _ _
   | exact LeO.none _
   | refine LeO.ite ?_ ?_
   | refine LeO.bind ?_ (fun _ => ?_)
theorem spec_l04Near.mono : ∀ a0 a1 a2 a3 a4 a5 a6 a7 k, LeO (spec_l04Near.f k a0 a1 a2 a3 a4 a5 a6 a7) (spec_l04Near.f (k + 1) a0 a1 a2 a3 a4 a5 a6 a7) := by
 intro a0 a1 a2 a3 a4 a5 a6 a7 k
 have ih0 := spec_l04Near.mono_l k
 unfold spec_l04Near.f
 repeat' first
   | (with_reducible exact ih0 _ _ _ _ _ _ _ _ _)
   | (with_reducible exact LeO.refl _)
   | (with_reducible exact LeO.none _)
   | (with_reducible refine LeO.ite ?_ ?_)
   | (with_reducible refine LeO.bind ?_ (fun _ => ?_))
   | exact ih0 _ _ _ _ _ _ _ _ _
   | exact LeO.none _
   | refine LeO.ite ?_ ?_
   | refine LeO.bind ?_ (fun _ => ?_)
def spec_l04Near.T5 : Bool × List (List Nat × List Nat) := (true, [([], []), ([0], [0]), ([1], [1]), ([2], [2]), ([3, 2], [3]), ([4], [4]), ([5, 4], [4, 5]), ([4], [4]), ([7, 4], [4, 7]), ([6, 8, 4], [4, 6, 8]), ([4, 9], [4, 9]), ([10, 4], [10]), ([11], [11]), ([12, 11], [11, 12]), ([13, 11, 11], [11, 13]), ([14, 11], [11, 14]), ([11, 15], [11, 15]), ([16, 14], [16]), ([17], [17]), ([18, 17], [17, 18]), ([19, 17, 17], [17, 19]), ([20], [20]), ([21, 20], [20, 21]), ([20], [20]), ([23, 20], [20, 23]), ([22, 24, 20], [20, 22, 24]), ([25, 20], [20, 25]), ([26, 20], [20, 26]), ([20], [20]), ([28, 20], [20, 28]), ([27, 29, 20], [20, 27, 29]), ([20, 30, 17], [17, 20, 30]), ([17, 31], [17, 31])])
def spec_l04Near.B5 : List Nat := [0, 1, 3, 7, 15, 31, 63, 31, 159, 511, 1023, 2047, 4095, 8191, 16383, 32767, 65535, 131071, 262143, 524287, 1048575, 2097151, 4194303, 2097151, 10485759, 33554431, 67108863, 134217727, 2097151, 270532607, 1073741823, 2147483647, 4294967295]
theorem spec_l04Near.tab5 : rtab .any (opsOf Try.f68 5) = spec_l04Near.T5 := by kernel_rfl
theorem spec_l04Near.bits5 : waitsOk spec_l04Near.T5.2 spec_l04Near.B5 = true := by kernel_rfl
set_option maxHeartbeats 8000000 in
set_option maxRecDepth 100000 in
theorem spec_l04Near.calls (k : Nat) (a0_0 : Int) (a0_1 : Int) (a0_2 : Int) (a0_3 : Int) (a0_4 : Int) (A0_5 : Option Addr) (c0_5 : Nat) (l0_5 : List (S63)) (a0_6 : Int) (a0_7 : Bool) (r : Bool) (w : World) (hr0_5 : Kd.C k63 w A0_5 l0_5.length l0_5) (hc0_5 : l0_5.length ≤ c0_5) (h : spec_l04Near.f k a0_0 a0_1 a0_2 a0_3 a0_4 l0_5 a0_6 a0_7 = some r) :
  Calls Try.prog 68 #[.agg #[.int .i64 a0_0, .int .i64 a0_1, .int .i64 a0_2, .int .i64 a0_3, .int .i64 a0_4, .slice A0_5 l0_5.length c0_5, .int .i64 a0_6, .bool a0_7]] w fun e w' => e = .returned (.bool r) ∧ Below w.heap.size w w' := by
 have hu24 := Try.underlying24
 have hu63 := Try.underlying63
 have HR0_5 := Aside0.mk hr0_5
 have HC0_5 := Aside0.mk hc0_5
 clear hr0_5 hc0_5
 have HB := Aside0.mk (Below.refl w.heap.size w)
 have H : (spec_l04Near.l0 k 0 a0_0 a0_1 a0_2 a0_3 a0_4 l0_5 a0_6 a0_7) = some r := h
 clear h
 have H' := Aside0.mk H
 clear H
 go_enter Try.func68, Try.ntmps68
 go_wp2_with (first | ((with_reducible refine gate_dst (N := 1) rfl ?_); refine box_q 1 #[.int .i64 a0_0, .int .i64 a0_1, .int .i64 a0_2, .int .i64 a0_3, .int .i64 a0_4, .slice A0_5 l0_5.length c0_5, .int .i64 a0_6, .bool a0_7] 24 ?_; intro gb116 hg w2 hbox hb; have BK116 := Aside0.mk (hbox); have GW116 := Aside0.mk ((by rw [hg]; exact (below_size (bw_q HB)) : w.heap.size ≤ gb116)); have GE116 := Aside0.mk ((by rw [hg]; exact (below_size (bw_q HB)) : w.heap.size ≤ gb116)); replace HB := Aside0.mk (below_step (bw_q HB) hb); clear hb hbox hg))
 go_loopg [3] k (fun kq v3 w' => ∃ (x3_1 : Int), v3 = .int .i64 x3_1 ∧ Aside0 (spec_l04Near.l0 kq x3_1 a0_0 a0_1 a0_2 a0_3 a0_4 l0_5 a0_6 a0_7 = some r) ∧ Aside0 (kq ≤ k) ∧ Aside0 (w'.heap[gb116]? = some (.cells #[.int .i64 a0_0, .int .i64 a0_1, .int .i64 a0_2, .int .i64 a0_3, .int .i64 a0_4, (.slice A0_5 l0_5.length c0_5), .int .i64 a0_6, .bool a0_7] 24 (0, 0))) ∧ Aside0 (Below w.heap.size w w'))
 case atStart => exact ⟨(0), (by first | rfl | (simp; done) | (simp [*]; done)), H', ⟨Nat.le_refl _⟩, ⟨by refine bz_ ?_; exact BK116.out⟩, ⟨bw_q HB⟩⟩
 case round =>
  clear H'
  try clear p2
  obtain ⟨x3_1, rfl, HA, HK1, BK116, HB⟩ := hrel
  cases gk with
  | zero => exact absurd HA.out (by simp [spec_l04Near.l0])
  | succ k1 =>
   have H := HA.out
   clear HA
   simp only [spec_l04Near.l0] at H
   by_cases c3 : x3_1 < (l0_5.length : Int)
   ·rw [if_pos c3] at H
    have c3b0 : decide (x3_1 < (l0_5.length : Int)) = true := decide_eq_true c3
    clear c3
    by_cases c4 : 0 ≤ x3_1
    ·rw [if_pos c4] at H
     have c4b0 : decide (0 ≤ x3_1) = true := decide_eq_true c4
     clear c4
     replace H := Option.bind_eq_some_iff.mp H
     obtain ⟨t119, A50, H⟩ := H
     replace H : (if t119 = true then (if ((rd_T63 l0_5 x3_1).f0) = a0_2 then (some false) else ((spec_l01In.f ((rd_T63 l0_5 x3_1).f1) 1 1000).bind fun t120 => (if t120 = true then (if x3_1 > 0 then (if 0 ≤ (wrap64 (x3_1 - 1)) then (if (wrap64 (x3_1 - 1)) < (l0_5.length : Int) then (if ((rd_T63 l0_5 (wrap64 (x3_1 - 1))).f0) ≥ ((rd_T63 l0_5 x3_1).f0) then (some false) else (spec_l04Near.l0 k1 (wrap64 (x3_1 + 1)) a0_0 a0_1 a0_2 a0_3 a0_4 l0_5 a0_6 a0_7)) else (none)) else (none)) else (spec_l04Near.l0 k1 (wrap64 (x3_1 + 1)) a0_0 a0_1 a0_2 a0_3 a0_4 l0_5 a0_6 a0_7)) else (some false)))) else (some false)) = some r := H
     have A5 := Aside0.mk A50
     clear A50
     have HZ28 := Aside0.mk H
     clear H
     obtain ⟨hcz8_0, hcz8_1, hcz8_2, hcz8_3, hcz8_4, hcz8_5, hcz8_6, hcz8_7⟩ := cz8_ BK116
     obtain ⟨hfz8_0, hfz8_1, hfz8_2, hfz8_3, hfz8_4, hfz8_5, hfz8_6, hfz8_7⟩ := fz8_ BK116
     have p117 : 0 ≤ (x3_1 : Int) := of_decide_eq_true as_q
     have q117 : x3_1 < (l0_5.length : Int) := of_decide_eq_true as_q
     obtain ⟨ad117, e117, hx117_0, hx117_1⟩ := at_T63 HR0_5.out x3_1 p117 q117
     cases e117
     replace hx117_0 := (HB.out.cell (World.block_lt_of_cell? w _ hx117_0)).trans hx117_0
     replace hx117_1 := (HB.out.cell (World.block_lt_of_cell? w _ hx117_1)).trans hx117_1
     replace p117 := eq_true p117
     replace q117 := eq_true q117
     try go_wp2_with (first | ((with_reducible refine gate_dst (N := 4) rfl ?_); refine box_q 4 #[.int .i64 0, .int .i64 0] 63 ?_; intro gb118 hg w9 hbox hb; have BK118 := Aside0.mk (hbox); have GW118 := Aside0.mk ((by rw [hg]; exact (below_size (bw_q HB)) : w.heap.size ≤ gb118)); have GE118 := Aside0.mk ((by rw [hg]; exact (below_size (bw_q HB)) : w.heap.size ≤ gb118)); replace HB := Aside0.mk (below_step (bw_q HB) hb); have NB116_118 := Aside0.mk ((by rw [hg]; exact Nat.ne_of_lt (blk_lt (g := gb116) (o := .cells #[.int .i64 a0_0, .int .i64 a0_1, .int .i64 a0_2, .int .i64 a0_3, .int .i64 a0_4, .slice (some ad117) l0_5.length c0_5, .int .i64 a0_6, .bool a0_7] 24 (0, 0)) (bk_q BK116)) : gb116 ≠ gb118)); have NB118_116 := Aside0.mk ((by rw [hg]; exact Nat.ne_of_gt (blk_lt (g := gb116) (o := .cells #[.int .i64 a0_0, .int .i64 a0_1, .int .i64 a0_2, .int .i64 a0_3, .int .i64 a0_4, .slice (some ad117) l0_5.length c0_5, .int .i64 a0_6, .bool a0_7] 24 (0, 0)) (bk_q BK116)) : gb118 ≠ gb116)); replace BK116 := Aside0.mk (blk_below (g := gb116) (bk_q BK116) hb); clear hb hbox hg; have hnb10 := NB118_116.out; have hnc10 := NB116_118.out; have hcz11_0 : w9.cell? ⟨gb118, 0, none⟩ = some (.int .i64 0) := (blk_cell BK118.out 0).trans rfl; have hcz11_1 : w9.cell? ⟨gb118, 1, none⟩ = some (.int .i64 0) := (blk_cell BK118.out 1).trans rfl; have hfz11_0 := blk_frozen BK118.out 0; have hfz11_1 := blk_frozen BK118.out 1))
     have n0_ : Aside0 (((w9.setCell ⟨gb118, 0, none⟩ (.int .i64 ((rd_T63 l0_5 x3_1).f0))).setCell ⟨gb118, 1, none⟩ (.int .i64 ((rd_T63 l0_5 x3_1).f1))).heap[gb116]? = some (.cells #[.int .i64 a0_0, .int .i64 a0_1, .int .i64 a0_2, .int .i64 a0_3, .int .i64 a0_4, .slice (some ad117) l0_5.length c0_5, .int .i64 a0_6, .bool a0_7] 24 (0, 0))) := ⟨by refine bz_ ?_; refine blk_far ?_ NB116_118.out _; refine bz_ ?_; refine blk_far ?_ NB116_118.out _; refine bz_ ?_; exact BK116.out⟩
     have n1_ : Aside0 (((w9.setCell ⟨gb118, 0, none⟩ (.int .i64 ((rd_T63 l0_5 x3_1).f0))).setCell ⟨gb118, 1, none⟩ (.int .i64 ((rd_T63 l0_5 x3_1).f1))).heap[gb118]? = some (.cells #[.int .i64 ((rd_T63 l0_5 x3_1).f0), .int .i64 ((rd_T63 l0_5 x3_1).f1)] 63 (0, 0))) := ⟨by refine bz_ ?_; refine blk_put (cs := #[.int .i64 ((rd_T63 l0_5 x3_1).f0), .int .i64 0]) ?_ 1 _ rfl; refine bz_ ?_; refine blk_put (cs := #[.int .i64 0, .int .i64 0]) ?_ 0 _ rfl; refine bz_ ?_; exact BK118.out⟩
     have n2_ : Aside0 (Below w.heap.size w ((w9.setCell ⟨gb118, 0, none⟩ (.int .i64 ((rd_T63 l0_5 x3_1).f0))).setCell ⟨gb118, 1, none⟩ (.int .i64 ((rd_T63 l0_5 x3_1).f1)))) := ⟨bw_q HB⟩
     (try clear BK116)
     (try clear BK118)
     (try clear HB)
     generalize ((w9.setCell ⟨gb118, 0, none⟩ (.int .i64 ((rd_T63 l0_5 x3_1).f0))).setCell ⟨gb118, 1, none⟩ (.int .i64 ((rd_T63 l0_5 x3_1).f1))) = w12 at n0_ n1_ n2_ ⊢
     have BK116 := n0_
     have BK118 := n1_
     have HB := n2_
     clear n0_ n1_ n2_
     replace BK116 := Aside0.mk (blk_drew BK116.out)
     replace BK118 := Aside0.mk (blk_drew BK118.out)
     replace HB := Aside0.mk (below_drew1 HB.out)
     refine start_ (n := 33) (S := fun w' => w'.cell? ⟨gb118, 0, none⟩ = some (.int .i64 ((rd_T63 l0_5 x3_1).f0)) ∧ w'.cell? ⟨gb118, 1, none⟩ = some (.int .i64 ((rd_T63 l0_5 x3_1).f1))) (ds := []) (bL 33 0) (by kernel_rfl) rfl rfl ⟨(blk_cell BK118.out 0).trans rfl, (blk_cell BK118.out 1).trans rfl⟩ (fun hHeld => ?_); refine with_tabW spec_l04Near.tab5 spec_l04Near.bits5 (fun HT_ HW_ => ?_)
     generalize w12.drew = w13 at BK116 BK118 HB hHeld ⊢
     refine pq_ 0 17 (bL 33 1) HT_.out rfl rfl ?_
     refine take_ (i := 1) (N := some 18) (v := ?_) (a' := ?_) (bL 33 3) rfl rfl (take_ofW HT_.out HW_.out (by kernel_rfl)) (fun _ _ _ h => h) (Or.inl ⟨by rfl, ?_⟩) hHeld ?_ ?_; rotate_left; (rintro w' ⟨s0, s1⟩; go_simp; with_reducible rfl); rotate_left; (exact put_q)
     refine one_ (i := 2) (N := some 19) (bL 33 7) rfl rfl (one_of HT_.out (by kernel_rfl)) (by decide) (fun K hK => ?_)
     refine goes_ Try.func67 (by kernel_rfl) rfl #[.int .i64 ((rd_T63 l0_5 x3_1).f0), .int .i64 1, .int .i64 6] (by rfl) rfl rfl mp_q ?_
     with_reducible refine (spec_l01In.calls ((rd_T63 l0_5 x3_1).f0) 1 6 t119 _ A5.out).mono ?_
     rintro e w' ⟨rfl, ⟨nd, rfl⟩⟩
     refine ⟨_, rfl, ?_⟩
     refine hK.out _ _ ⟨(blk_cell BK118.out 0).trans rfl, (blk_cell BK118.out 1).trans rfl⟩ (fun hHeld => ?_)
     clear hK K
     refine norm_ (a' := ?_) ?_ ?_; rotate_left; (show Act.put _ (some 19) _ = _; simp only [Act.put, List.setIfInBounds_toArray, List.set_cons_zero, List.set_cons_succ, i64_w, i32_w]; rfl)
     refine pq_ 3 20 (bL 33 15) HT_.out rfl rfl ?_
     refine pq_ 4 21 (bL 33 31) HT_.out rfl rfl ?_
     have H := HZ28.out
     clear HZ28
     by_cases c6 : t119 = true
     ·subst c6
      have H1 : (if ((rd_T63 l0_5 x3_1).f0) = a0_2 then (some false) else ((spec_l01In.f ((rd_T63 l0_5 x3_1).f1) 1 1000).bind fun t120 => (if t120 = true then (if x3_1 > 0 then (if 0 ≤ (wrap64 (x3_1 - 1)) then (if (wrap64 (x3_1 - 1)) < (l0_5.length : Int) then (if ((rd_T63 l0_5 (wrap64 (x3_1 - 1))).f0) ≥ ((rd_T63 l0_5 x3_1).f0) then (some false) else (spec_l04Near.l0 k1 (wrap64 (x3_1 + 1)) a0_0 a0_1 a0_2 a0_3 a0_4 l0_5 a0_6 a0_7)) else (none)) else (none)) else (spec_l04Near.l0 k1 (wrap64 (x3_1 + 1)) a0_0 a0_1 a0_2 a0_3 a0_4 l0_5 a0_6 a0_7)) else (some false)))) = some r := by rw [if_pos rfl] at H; exact H
      clear H
      have H := H1
      clear H1
      have HZ29 := Aside0.mk H
      clear H
      refine last_weaken (fun w' => w'.cell? ⟨gb118, 0, none⟩ = some (.int .i64 ((rd_T63 l0_5 x3_1).f0)) ∧ w'.cell? ⟨gb118, 1, none⟩ = some (.int .i64 ((rd_T63 l0_5 x3_1).f1)) ∧ w'.cell? ⟨gb116, 0, none⟩ = some (.int .i64 a0_0) ∧ w'.cell? ⟨gb116, 1, none⟩ = some (.int .i64 a0_1) ∧ w'.cell? ⟨gb116, 2, none⟩ = some (.int .i64 a0_2) ∧ w'.cell? ⟨gb116, 3, none⟩ = some (.int .i64 a0_3) ∧ w'.cell? ⟨gb116, 4, none⟩ = some (.int .i64 a0_4) ∧ w'.cell? ⟨gb116, 5, none⟩ = some (.slice (some ad117) l0_5.length c0_5) ∧ w'.cell? ⟨gb116, 6, none⟩ = some (.int .i64 a0_6) ∧ w'.cell? ⟨gb116, 7, none⟩ = some (.bool a0_7)) (fun w' h_ => ⟨h_.1, h_.2.1⟩) ⟨hHeld.1, hHeld.2, (by first | assumption | exact (blk_cell BK116.out 0).trans rfl), (by first | assumption | exact (blk_cell BK116.out 1).trans rfl), (by first | assumption | exact (blk_cell BK116.out 2).trans rfl), (by first | assumption | exact (blk_cell BK116.out 3).trans rfl), (by first | assumption | exact (blk_cell BK116.out 4).trans rfl), (by first | assumption | exact (blk_cell BK116.out 5).trans rfl), (by first | assumption | exact (blk_cell BK116.out 6).trans rfl), (by first | assumption | exact (blk_cell BK116.out 7).trans rfl)⟩ (fun hHeld => ?_)
      refine pq_ 5 22 (bL 33 63) HT_.out rfl rfl ?_
      refine pq_ 7 24 (bL 33 191) HT_.out rfl rfl ?_
      refine take_ (i := 6) (N := some 23) (v := ?_) (a' := ?_) (bL 33 255) rfl rfl (take_ofW HT_.out HW_.out (by kernel_rfl)) (fun _ _ _ h => h) (Or.inl ⟨by rfl, ?_⟩) hHeld ?_ ?_; rotate_left; (rintro w' ⟨s0, s1, s2, s3, s4, s5, s6, s7, s8, s9⟩; go_simp; with_reducible rfl); rotate_left; (exact put_q)
      refine take_ (i := 8) (N := some 25) (v := ?_) (a' := ?_) (bL 33 511) rfl rfl (take_ofW HT_.out HW_.out (by kernel_rfl)) (fun _ _ _ h => h) (Or.inl ⟨by rfl, ?_⟩) hHeld ?_ ?_; rotate_left; (rintro w' ⟨s0, s1, s2, s3, s4, s5, s6, s7, s8, s9⟩; go_simp; with_reducible rfl); rotate_left; (exact put_q)
      refine pq_ 9 26 (bL 33 1023) HT_.out rfl rfl ?_
      refine pq_ 10 27 (bL 33 2047) HT_.out rfl rfl ?_
      refine pq_ 11 28 (bL 33 4095) HT_.out rfl rfl ?_
      have H := HZ29.out
      clear HZ29
      by_cases c7 : ((rd_T63 l0_5 x3_1).f0) = a0_2
      ·rw [if_pos c7] at H
       have c7b0 : (((rd_T63 l0_5 x3_1).f0) == a0_2) = true := beq_iff_eq.mpr c7
       have c7b1 : (((rd_T63 l0_5 x3_1).f0) != a0_2) = false := bne_eq_false_iff_eq.mpr c7
       (first | rw [c7b0] | rw [c7b1] | (simp only [i64_w, i32_w]; first | rw [c7b0] | rw [c7b1]) | skip)
       clear c7
       obtain rfl := Option.some.inj H
       refine pu_ 12 29 (bL 33 8191) HT_.out rfl rfl ?_
       refine pu_ 13 30 (bL 33 16383) HT_.out rfl rfl ?_
       refine pu_ 14 31 (bL 33 32767) HT_.out rfl rfl ?_
       refine pu_ 15 32 (bL 33 65535) HT_.out rfl rfl ?_
       refine pq_ 16 33 (bL 33 131071) HT_.out rfl rfl ?_
       refine pq_ 17 34 (bL 33 262143) HT_.out rfl rfl ?_
       refine pu_ 18 35 (bL 33 524287) HT_.out rfl rfl ?_
       refine pu_ 19 36 (bL 33 1048575) HT_.out rfl rfl ?_
       refine pu_ 20 37 (bL 33 2097151) HT_.out rfl rfl ?_
       refine pu_ 21 38 (bL 33 4194303) HT_.out rfl rfl ?_
       refine pu_ 22 39 (bL 33 8388607) HT_.out rfl rfl ?_
       refine pu_ 23 40 (bL 33 16777215) HT_.out rfl rfl ?_
       refine pu_ 24 41 (bL 33 33554431) HT_.out rfl rfl ?_
       refine pu_ 25 42 (bL 33 67108863) HT_.out rfl rfl ?_
       refine pu_ 26 43 (bL 33 134217727) HT_.out rfl rfl ?_
       refine pu_ 27 44 (bL 33 268435455) HT_.out rfl rfl ?_
       refine pu_ 28 45 (bL 33 536870911) HT_.out rfl rfl ?_
       refine pu_ 29 46 (bL 33 1073741823) HT_.out rfl rfl ?_
       refine pu_ 30 47 (bL 33 2147483647) HT_.out rfl rfl ?_
       refine pu_ 31 48 (bL 33 4294967295) HT_.out rfl rfl ?_
       refine pq_ 32 49 (bL 33 8589934591) HT_.out rfl rfl ?_
       refine done_ (done_of HT_.out (by kernel_rfl)) ?_
       try go_wp2
       go_ret
       exact ⟨er_q, bw_q HB⟩
      ·rw [if_neg c7] at H
       have c7b0 : (((rd_T63 l0_5 x3_1).f0) == a0_2) = false := beq_eq_false_iff_ne.mpr c7
       have c7b1 : (((rd_T63 l0_5 x3_1).f0) != a0_2) = true := bne_iff_ne.mpr c7
       (first | rw [c7b0] | rw [c7b1] | (simp only [i64_w, i32_w]; first | rw [c7b0] | rw [c7b1]) | skip)
       replace H := Option.bind_eq_some_iff.mp H
       obtain ⟨t120, A140, H⟩ := H
       replace H : (if t120 = true then (if x3_1 > 0 then (if 0 ≤ (wrap64 (x3_1 - 1)) then (if (wrap64 (x3_1 - 1)) < (l0_5.length : Int) then (if ((rd_T63 l0_5 (wrap64 (x3_1 - 1))).f0) ≥ ((rd_T63 l0_5 x3_1).f0) then (some false) else (spec_l04Near.l0 k1 (wrap64 (x3_1 + 1)) a0_0 a0_1 a0_2 a0_3 a0_4 l0_5 a0_6 a0_7)) else (none)) else (none)) else (spec_l04Near.l0 k1 (wrap64 (x3_1 + 1)) a0_0 a0_1 a0_2 a0_3 a0_4 l0_5 a0_6 a0_7)) else (some false)) = some r := H
       have A14 := Aside0.mk A140
       clear A140
       have HZ30 := Aside0.mk H
       clear H
       refine pq_ 12 29 (bL 33 8191) HT_.out rfl rfl ?_
       refine take_ (i := 13) (N := some 30) (v := ?_) (a' := ?_) (bL 33 16383) rfl rfl (take_ofW HT_.out HW_.out (by kernel_rfl)) (fun _ _ _ h => h) (Or.inl ⟨by rfl, ?_⟩) hHeld ?_ ?_; rotate_left; (rintro w' ⟨s0, s1, s2, s3, s4, s5, s6, s7, s8, s9⟩; go_simp; with_reducible rfl); rotate_left; (exact put_q)
       refine one_ (i := 14) (N := some 31) (bL 33 32767) rfl rfl (one_of HT_.out (by kernel_rfl)) (by decide) (fun K hK => ?_)
       refine goes_ Try.func67 (by kernel_rfl) rfl #[.int .i64 ((rd_T63 l0_5 x3_1).f1), .int .i64 1, .int .i64 1000] (by rfl) rfl rfl mp_q ?_
       with_reducible refine (spec_l01In.calls ((rd_T63 l0_5 x3_1).f1) 1 1000 t120 _ A14.out).mono ?_
       rintro e w' ⟨rfl, ⟨nd, rfl⟩⟩
       refine ⟨_, rfl, ?_⟩
       refine hK.out _ _ ⟨(blk_cell BK118.out 0).trans rfl, (blk_cell BK118.out 1).trans rfl, (blk_cell BK116.out 0).trans rfl, (blk_cell BK116.out 1).trans rfl, (blk_cell BK116.out 2).trans rfl, (blk_cell BK116.out 3).trans rfl, (blk_cell BK116.out 4).trans rfl, (blk_cell BK116.out 5).trans rfl, (blk_cell BK116.out 6).trans rfl, (blk_cell BK116.out 7).trans rfl⟩ (fun hHeld => ?_)
       clear hK K
       refine norm_ (a' := ?_) ?_ ?_; rotate_left; (show Act.put _ (some 31) _ = _; simp only [Act.put, List.setIfInBounds_toArray, List.set_cons_zero, List.set_cons_succ, i64_w, i32_w]; rfl)
       refine pq_ 15 32 (bL 33 65535) HT_.out rfl rfl ?_
       refine pq_ 16 33 (bL 33 131071) HT_.out rfl rfl ?_
       refine pq_ 17 34 (bL 33 262143) HT_.out rfl rfl ?_
       have H := HZ30.out
       clear HZ30
       by_cases c15 : t120 = true
       ·subst c15
        have H1 : (if x3_1 > 0 then (if 0 ≤ (wrap64 (x3_1 - 1)) then (if (wrap64 (x3_1 - 1)) < (l0_5.length : Int) then (if ((rd_T63 l0_5 (wrap64 (x3_1 - 1))).f0) ≥ ((rd_T63 l0_5 x3_1).f0) then (some false) else (spec_l04Near.l0 k1 (wrap64 (x3_1 + 1)) a0_0 a0_1 a0_2 a0_3 a0_4 l0_5 a0_6 a0_7)) else (none)) else (none)) else (spec_l04Near.l0 k1 (wrap64 (x3_1 + 1)) a0_0 a0_1 a0_2 a0_3 a0_4 l0_5 a0_6 a0_7)) = some r := by rw [if_pos rfl] at H; exact H
        clear H
        have H := H1
        clear H1
        have HZ31 := Aside0.mk H
        clear H
        refine pq_ 18 35 (bL 33 524287) HT_.out rfl rfl ?_
        refine pq_ 19 36 (bL 33 1048575) HT_.out rfl rfl ?_
        refine pq_ 20 37 (bL 33 2097151) HT_.out rfl rfl ?_
        have H := HZ31.out
        clear HZ31
        by_cases c16 : x3_1 > 0
        ·rw [if_pos c16] at H
         have c16b0 : decide (0 < x3_1) = true := decide_eq_true c16
         (first | rw [c16b0] | (simp only [i64_w, i32_w]; first | rw [c16b0]) | skip)
         clear c16
         obtain ⟨ji17, hji17⟩ : ∃ j_ : Int, (wrap64 (x3_1 - 1)) = j_ := ⟨_, rfl⟩
         replace H : (if 0 ≤ (ji17) then (if (ji17) < (l0_5.length : Int) then (if ((rd_T63 l0_5 (ji17)).f0) ≥ ((rd_T63 l0_5 x3_1).f0) then (some false) else (spec_l04Near.l0 k1 (wrap64 (x3_1 + 1)) a0_0 a0_1 a0_2 a0_3 a0_4 l0_5 a0_6 a0_7)) else (none)) else (none)) = some r := by first | (rw [hji17] at H; exact H) | (simp only [hji17] at H ⊢; exact H)
         (try rw [hji17] at A5)
         (try rw [hji17] at A14)
         have hji17w : (IntKind.i64.wrap (x3_1 - 1)) = ji17 := (i64_w _).trans hji17
         by_cases c18 : 0 ≤ (ji17)
         ·rw [if_pos c18] at H
          have c18b0 : decide (0 ≤ (ji17)) = true := decide_eq_true c18
          clear c18
          by_cases c19 : (ji17) < (l0_5.length : Int)
          ·rw [if_pos c19] at H
           have c19b0 : decide ((ji17) < (l0_5.length : Int)) = true := decide_eq_true c19
           clear c19
           have HZ32 := Aside0.mk H
           clear H
           have p121 : 0 ≤ ((ji17) : Int) := of_decide_eq_true as_q
           have q121 : (ji17) < (l0_5.length : Int) := of_decide_eq_true as_q
           obtain ⟨ad121, e121, hx121_0, hx121_1⟩ := at_T63 HR0_5.out (ji17) p121 q121
           have hw121_1 := hx121_1
           have hw121_0 := hx121_0
           obtain rfl : ad117 = ad121 := (by injection e121)
           replace hx121_0 := (HB.out.cell (World.block_lt_of_cell? w _ hx121_0)).trans hx121_0
           replace hx121_1 := (HB.out.cell (World.block_lt_of_cell? w _ hx121_1)).trans hx121_1
           replace p121 := eq_true p121
           replace q121 := eq_true q121
           refine last_weaken (fun w' => w'.cell? ⟨gb118, 0, none⟩ = some (.int .i64 ((rd_T63 l0_5 x3_1).f0)) ∧ w'.cell? ⟨gb118, 1, none⟩ = some (.int .i64 ((rd_T63 l0_5 x3_1).f1)) ∧ w'.cell? ⟨gb116, 0, none⟩ = some (.int .i64 a0_0) ∧ w'.cell? ⟨gb116, 1, none⟩ = some (.int .i64 a0_1) ∧ w'.cell? ⟨gb116, 2, none⟩ = some (.int .i64 a0_2) ∧ w'.cell? ⟨gb116, 3, none⟩ = some (.int .i64 a0_3) ∧ w'.cell? ⟨gb116, 4, none⟩ = some (.int .i64 a0_4) ∧ w'.cell? ⟨gb116, 5, none⟩ = some (.slice (some ad117) l0_5.length c0_5) ∧ w'.cell? ⟨gb116, 6, none⟩ = some (.int .i64 a0_6) ∧ w'.cell? ⟨gb116, 7, none⟩ = some (.bool a0_7) ∧ w'.cell? (ad117.add (((ji17)).toNat * 2)) = some (.int .i64 ((rd_T63 l0_5 (ji17)).f0)) ∧ w'.cell? ⟨(ad117.add (((ji17)).toNat * 2)).block, (ad117.add (((ji17)).toNat * 2)).off + 1, none⟩ = some (.int .i64 ((rd_T63 l0_5 (ji17)).f1))) (fun w' h_ => ⟨h_.1, h_.2.1, h_.2.2.1, h_.2.2.2.1, h_.2.2.2.2.1, h_.2.2.2.2.2.1, h_.2.2.2.2.2.2.1, h_.2.2.2.2.2.2.2.1, h_.2.2.2.2.2.2.2.2.1, h_.2.2.2.2.2.2.2.2.2.1⟩) ⟨hHeld.1, hHeld.2.1, hHeld.2.2.1, hHeld.2.2.2.1, hHeld.2.2.2.2.1, hHeld.2.2.2.2.2.1, hHeld.2.2.2.2.2.2.1, hHeld.2.2.2.2.2.2.2.1, hHeld.2.2.2.2.2.2.2.2.1, hHeld.2.2.2.2.2.2.2.2.2, (by first | assumption | exact ((HB.out.cell (World.block_lt_of_cell? w _ hw121_0)).trans hw121_0)), (by first | assumption | exact ((HB.out.cell (World.block_lt_of_cell? w _ hw121_1)).trans hw121_1))⟩ (fun hHeld => ?_)
           refine pq_ 21 38 (bL 33 4194303) HT_.out rfl rfl ?_
           refine pq_ 23 40 (bL 33 12582911) HT_.out rfl rfl ?_
           refine pq_ 24 41 (bL 33 29360127) HT_.out rfl rfl ?_
           refine pq_ 28 45 (bL 33 297795583) HT_.out rfl rfl ?_
           refine take_ (i := 22) (N := some 39) (v := ?_) (a' := ?_) (bL 33 301989887) rfl rfl (take_ofW HT_.out HW_.out (by kernel_rfl)) (fun _ _ _ h => h) (Or.inl ⟨by rfl, ?_⟩) hHeld ?_ ?_; rotate_left; (rintro w' ⟨s0, s1, s2, s3, s4, s5, s6, s7, s8, s9, s10, s11⟩; go_simp; with_reducible rfl); rotate_left; (exact put_q)
           refine pq_ 25 42 (bL 33 335544319) HT_.out rfl rfl ?_
           refine pq_ 26 43 (bL 33 402653183) HT_.out rfl rfl ?_
           refine take_ (i := 27) (N := some 44) (v := ?_) (a' := ?_) (bL 33 536870911) rfl rfl (take_ofW HT_.out HW_.out (by kernel_rfl)) (fun _ _ _ h => h) (Or.inl ⟨by rfl, ?_⟩) hHeld ?_ ?_; rotate_left; (rintro w' ⟨s0, s1, s2, s3, s4, s5, s6, s7, s8, s9, s10, s11⟩; go_simp; with_reducible rfl); rotate_left; (exact put_q)
           refine take_ (i := 29) (N := some 46) (v := ?_) (a' := ?_) (bL 33 1073741823) rfl rfl (take_ofW HT_.out HW_.out (by kernel_rfl)) (fun _ _ _ h => h) (Or.inl ⟨by rfl, ?_⟩) hHeld ?_ ?_; rotate_left; (rintro w' ⟨s0, s1, s2, s3, s4, s5, s6, s7, s8, s9, s10, s11⟩; go_simp; with_reducible rfl); rotate_left; (exact put_q)
           refine pq_ 30 47 (bL 33 2147483647) HT_.out rfl rfl ?_
           refine pq_ 31 48 (bL 33 4294967295) HT_.out rfl rfl ?_
           refine pq_ 32 49 (bL 33 8589934591) HT_.out rfl rfl ?_
           have H := HZ32.out
           clear HZ32
           by_cases c20 : ((rd_T63 l0_5 (ji17)).f0) ≥ ((rd_T63 l0_5 x3_1).f0)
           ·rw [if_pos c20] at H
            have c20b0 : decide (((rd_T63 l0_5 x3_1).f0) ≤ ((rd_T63 l0_5 (ji17)).f0)) = true := decide_eq_true c20
            (first | rw [c20b0] | (simp only [i64_w, i32_w]; first | rw [c20b0]) | skip)
            clear c20
            obtain rfl := Option.some.inj H
            refine done_ (done_of HT_.out (by kernel_rfl)) ?_
            try go_wp2
            go_ret
            exact ⟨by first | rfl | (simp [errW_none, errW_some] <;> rfl) | (simp only [← hji17]; first | rfl | (simp [errW_none, errW_some] <;> rfl)) | (simp [*, errW_none, errW_some] <;> rfl), bw_q HB⟩
           ·rw [if_neg c20] at H
            have c20b0 : decide (((rd_T63 l0_5 x3_1).f0) ≤ ((rd_T63 l0_5 (ji17)).f0)) = false := decide_eq_false c20
            (first | rw [c20b0] | (simp only [i64_w, i32_w]; first | rw [c20b0]) | skip)
            clear c20
            have H' := Aside0.mk H
            clear H
            refine done_ (done_of HT_.out (by kernel_rfl)) ?_
            try go_wp2
            go_roundg k1
            case measure => have := HK1.out; omega
            case rel => exact ⟨(wrap64 (x3_1 + 1)), (by first | rfl | (simp; done) | (simp [*]; done)), H', ⟨by have := HK1.out; omega⟩, ⟨by refine bz_ ?_; exact BK116.out⟩, ⟨bw_q HB⟩⟩
          ·rw [if_neg c19] at H
           exact absurd H (by simp)
         ·rw [if_neg c18] at H
          exact absurd H (by simp)
        ·rw [if_neg c16] at H
         have c16b0 : decide (0 < x3_1) = false := decide_eq_false c16
         (first | rw [c16b0] | (simp only [i64_w, i32_w]; first | rw [c16b0]) | skip)
         clear c16
         have H' := Aside0.mk H
         clear H
         refine pu_ 21 38 (bL 33 4194303) HT_.out rfl rfl ?_
         refine pu_ 22 39 (bL 33 8388607) HT_.out rfl rfl ?_
         refine pu_ 23 40 (bL 33 16777215) HT_.out rfl rfl ?_
         refine pu_ 24 41 (bL 33 33554431) HT_.out rfl rfl ?_
         refine pu_ 25 42 (bL 33 67108863) HT_.out rfl rfl ?_
         refine pu_ 26 43 (bL 33 134217727) HT_.out rfl rfl ?_
         refine pu_ 27 44 (bL 33 268435455) HT_.out rfl rfl ?_
         refine pu_ 28 45 (bL 33 536870911) HT_.out rfl rfl ?_
         refine pu_ 29 46 (bL 33 1073741823) HT_.out rfl rfl ?_
         refine pu_ 30 47 (bL 33 2147483647) HT_.out rfl rfl ?_
         refine pq_ 31 48 (bL 33 4294967295) HT_.out rfl rfl ?_
         refine pq_ 32 49 (bL 33 8589934591) HT_.out rfl rfl ?_
         refine done_ (done_of HT_.out (by kernel_rfl)) ?_
         try go_wp2
         go_roundg k1
         case measure => have := HK1.out; omega
         case rel => exact ⟨(wrap64 (x3_1 + 1)), (by first | rfl | (simp; done) | (simp [*]; done)), H', ⟨by have := HK1.out; omega⟩, ⟨by refine bz_ ?_; exact BK116.out⟩, ⟨bw_q HB⟩⟩
       ·replace c15 := Bool.eq_false_iff.mpr c15
        subst c15
        have H1 : (some false) = some r := by rw [if_neg (show ¬ (false = true) by decide)] at H; exact H
        clear H
        have H := H1
        clear H1
        obtain rfl := Option.some.inj H
        refine pu_ 18 35 (bL 33 524287) HT_.out rfl rfl ?_
        refine pu_ 19 36 (bL 33 1048575) HT_.out rfl rfl ?_
        refine pu_ 20 37 (bL 33 2097151) HT_.out rfl rfl ?_
        refine pu_ 21 38 (bL 33 4194303) HT_.out rfl rfl ?_
        refine pu_ 22 39 (bL 33 8388607) HT_.out rfl rfl ?_
        refine pu_ 23 40 (bL 33 16777215) HT_.out rfl rfl ?_
        refine pu_ 24 41 (bL 33 33554431) HT_.out rfl rfl ?_
        refine pu_ 25 42 (bL 33 67108863) HT_.out rfl rfl ?_
        refine pu_ 26 43 (bL 33 134217727) HT_.out rfl rfl ?_
        refine pu_ 27 44 (bL 33 268435455) HT_.out rfl rfl ?_
        refine pu_ 28 45 (bL 33 536870911) HT_.out rfl rfl ?_
        refine pu_ 29 46 (bL 33 1073741823) HT_.out rfl rfl ?_
        refine pu_ 30 47 (bL 33 2147483647) HT_.out rfl rfl ?_
        refine pu_ 31 48 (bL 33 4294967295) HT_.out rfl rfl ?_
        refine pq_ 32 49 (bL 33 8589934591) HT_.out rfl rfl ?_
        refine done_ (done_of HT_.out (by kernel_rfl)) ?_
        try go_wp2
        go_ret
        exact ⟨er_q, bw_q HB⟩
     ·replace c6 := Bool.eq_false_iff.mpr c6
      subst c6
      have H1 : (some false) = some r := by rw [if_neg (show ¬ (false = true) by decide)] at H; exact H
      clear H
      have H := H1
      clear H1
      obtain rfl := Option.some.inj H
      refine pu_ 5 22 (bL 33 63) HT_.out rfl rfl ?_
      refine pu_ 6 23 (bL 33 127) HT_.out rfl rfl ?_
      refine pu_ 7 24 (bL 33 255) HT_.out rfl rfl ?_
      refine pu_ 8 25 (bL 33 511) HT_.out rfl rfl ?_
      refine pu_ 9 26 (bL 33 1023) HT_.out rfl rfl ?_
      refine pq_ 10 27 (bL 33 2047) HT_.out rfl rfl ?_
      refine pq_ 11 28 (bL 33 4095) HT_.out rfl rfl ?_
      refine pu_ 12 29 (bL 33 8191) HT_.out rfl rfl ?_
      refine pu_ 13 30 (bL 33 16383) HT_.out rfl rfl ?_
      refine pu_ 14 31 (bL 33 32767) HT_.out rfl rfl ?_
      refine pu_ 15 32 (bL 33 65535) HT_.out rfl rfl ?_
      refine pq_ 16 33 (bL 33 131071) HT_.out rfl rfl ?_
      refine pq_ 17 34 (bL 33 262143) HT_.out rfl rfl ?_
      refine pu_ 18 35 (bL 33 524287) HT_.out rfl rfl ?_
      refine pu_ 19 36 (bL 33 1048575) HT_.out rfl rfl ?_
      refine pu_ 20 37 (bL 33 2097151) HT_.out rfl rfl ?_
      refine pu_ 21 38 (bL 33 4194303) HT_.out rfl rfl ?_
      refine pu_ 22 39 (bL 33 8388607) HT_.out rfl rfl ?_
      refine pu_ 23 40 (bL 33 16777215) HT_.out rfl rfl ?_
      refine pu_ 24 41 (bL 33 33554431) HT_.out rfl rfl ?_
      refine pu_ 25 42 (bL 33 67108863) HT_.out rfl rfl ?_
      refine pu_ 26 43 (bL 33 134217727) HT_.out rfl rfl ?_
      refine pu_ 27 44 (bL 33 268435455) HT_.out rfl rfl ?_
      refine pu_ 28 45 (bL 33 536870911) HT_.out rfl rfl ?_
      refine pu_ 29 46 (bL 33 1073741823) HT_.out rfl rfl ?_
      refine pu_ 30 47 (bL 33 2147483647) HT_.out rfl rfl ?_
      refine pu_ 31 48 (bL 33 4294967295) HT_.out rfl rfl ?_
      refine pq_ 32 49 (bL 33 8589934591) HT_.out rfl rfl ?_
      refine done_ (done_of HT_.out (by kernel_rfl)) ?_
      try go_wp2
      go_ret
      exact ⟨er_q, bw_q HB⟩
    ·rw [if_neg c4] at H
     exact absurd H (by simp)
   ·rw [if_neg c3] at H
    have c3b0 : decide (x3_1 < (l0_5.length : Int)) = false := decide_eq_false c3
    clear c3
    obtain rfl := Option.some.inj H
    obtain ⟨hcz51_0, hcz51_1, hcz51_2, hcz51_3, hcz51_4, hcz51_5, hcz51_6, hcz51_7⟩ := cz8_ BK116
    obtain ⟨hfz51_0, hfz51_1, hfz51_2, hfz51_3, hfz51_4, hfz51_5, hfz51_6, hfz51_7⟩ := fz8_ BK116
    go_wp2
    go_ret
    exact ⟨er_q, bw_q HB⟩

end Go.Proofs.Ytnecbkognpponaa.Q
