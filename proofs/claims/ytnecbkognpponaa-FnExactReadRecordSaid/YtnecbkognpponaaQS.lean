/- Words for the walks' tails: default proofs. -/
import Derived.Test.YtnecbkognpponaaQW
import Derived.Test.YtnecbkognpponaaQk
import Derived.Test.YtnecbkognpponaaWTab
namespace Go.Proofs.YtnecbkognpponaaW.PrintWords
open Go.RowKit
section
open Go.Proofs.YtnecbkognpponaaW.PrintLast Go.Proofs.YtnecbkognpponaaW.PrintWords Go.Proofs.YtnecbkognpponaaW.PrintMore
variable {P : Program} {md : Region.Mode} {ops : Array Oper} {Q : Exit → Act → World → Prop} {S : World → Prop} {ds : List Nat}
/- The steps' tails, by default proofs. -/
theorem put_q {α : Sort _} {a b : α} (h : a = b := by simp only [Act.put, List.setIfInBounds_toArray, List.set_cons_zero, List.set_cons_succ, i64_w, i32_w]; rfl) : a = b := h
theorem pq_ (i n : Nat) {oi : Oper} {v : Value} {fuel : Nat} {l : Array Bool} {a a' : Act} {w : World} {T : Bool × List (List Nat × List Nat)} (l' : Array Bool) (hT : rtab md ops = T) (hi : ops[i]? = some oi) (hN : oi.dst = some n)
    (h : wpAnyLast P md ops Q S ds fuel l' a' w) (hc : anyT T l.toList l'.toList i = true := by kernel_rfl)
    (hQ : ∀ c a w, Q (.panic c) (a.put oi.dst v) w → Q (.panic c) a w := by exact fun _ _ _ h => h)
    (hw : Region.wanted oi (yielded ops a.tmps) = true := by rfl)
    (hy : ∀ w, (execOp a.eval oi).run P w = .ok (.value v) w := by intro _; go_simp; with_reducible rfl)
    (ha : a.put (some n) v = a' := by simp only [Act.put, List.setIfInBounds_toArray, List.set_cons_zero, List.set_cons_succ, i64_w, i32_w]; rfl) : wpAnyLast P md ops Q S ds (fuel + 1) l a w :=
  pure_ l' hi hN (any_of hT hc) hQ (Or.inl ⟨hw, hy⟩) ha h
theorem mp_q {p : Prop} (h : p := by (try simp only [List.map_toArray, List.map_cons, List.map_nil]); first | done | rfl | (simp only [List.length_drop, List.length_take]; rfl)) : p := h
theorem bw_q {p q : Prop} (h : Aside0 p) (hq : p → q := by intro h; repeat (first | (with_reducible first | exact h | apply below_alloc | apply pw_below_drewN | apply below_drew1 | refine below_set ?_ (Aside0.out (by with_reducible assumption))) | exact h)) : q := hq h.out
theorem bk_q {p q : Prop} (h : Aside0 p) (hq : p → q := by intro h; (with_reducible repeat (first | refine blk_drewN ?_ _ | refine blk_drew ?_ | refine blk_alloc ?_ _)); exact h) : q := hq h.out
theorem kV_q {p q : Prop} (h : Aside0 p) (hq : p → q := by intro h; (with_reducible repeat (first | apply Kd.V_alloc | apply Kd.V_drewN | apply Kd.V_drew)); exact h) : q := hq h.out
theorem kS_q {p q : Prop} (h : Aside0 p) (hq : p → q := by intro h; (with_reducible repeat (first | apply Kd.S_alloc | apply Kd.S_drewN | apply Kd.S_drew)); exact h) : q := hq h.out
theorem kN_q {p q : Prop} (h : Aside0 p) (hq : p → q := by intro h; (with_reducible repeat (first | apply Kd.N_alloc | apply Kd.N_drewN | apply Kd.N_drew)); exact h) : q := hq h.out
theorem kR_q {p q : Prop} (h : Aside0 p) (hq : p → q := by intro h; (with_reducible repeat (first | apply Kd.R_alloc | apply Kd.R_drewN | apply Kd.R_drew)); exact h) : q := hq h.out
theorem kQ_q {p q : Prop} (h : Aside0 p) (hq : p → q := by intro h; (with_reducible repeat (first | apply Kd.Q_alloc | apply Kd.Q_drewN | apply Kd.Q_drew)); exact h) : q := hq h.out
theorem cs_q {p q : Prop} (h : p) (hq : p → q := by intro h; repeat (first | exact h | (with_reducible refine Kd.C_alloc ?_ _) | (with_reducible refine Kd.C_drewN ?_ _) | (with_reducible refine Kd.C_drew ?_))) : q := hq h
theorem er_q {p : Prop} (h : p := by first | rfl | (simp [errW_none, errW_some] <;> rfl) | (simp [*, errW_none, errW_some] <;> rfl)) : p := h
end
end Go.Proofs.YtnecbkognpponaaW.PrintWords
