import Derived.Test.YthjmdiggglkeaaaXFnNetsQlawsFnNets
/- Proved: the pure statement of the law FnNets, for every input that its statement lets in. -/

set_option linter.unusedVariables false
set_option linter.unusedSimpArgs false
namespace Go.Proofs.Ythjmdiggglkeaaa.Pure
open Go.RowKit Go.Proofs.Ythjmdiggglkeaaa.Q Go.Proofs.YthjmdiggglkeaaaW.PrintWords Go.Proofs.YthjmdiggglkeaaaW.PrintLast

theorem w64 {x : Int} (h0 : -9223372036854775808 ≤ x) (h1 : x ≤ 9223372036854775807) : wrap64 x = x := by unfold wrap64; omega
theorem tmodp {x m : Int} (h : 0 ≤ x) : Int.tmod x m = x % m := Int.tmod_eq_emod_of_nonneg h
theorem ev_ex {α : Type} {g : Nat → Option α} {r : α} (h : Ev g r) : ∃ k, g k = some r := h.rounds

theorem ev_ite {α : Type} {c : Prop} [Decidable c] {g f : Nat → Option α} {r : α} (h : c → Ev g r) (k : ¬ c → Ev f r) : Ev (fun n => if c then g n else f n) r := by
  by_cases hc : c
  · exact Ev.congr (fun n => by rw [if_pos hc]) (h hc)
  · exact Ev.congr (fun n => by rw [if_neg hc]) (k hc)
theorem ev_pos {α : Type} {c : Prop} [Decidable c] {g f : Nat → Option α} {r : α} (hc : c) (h : Ev g r) : Ev (fun n => if c then g n else f n) r := Ev.congr (fun n => by rw [if_pos hc]) h
theorem ev_neg {α : Type} {c : Prop} [Decidable c] {g f : Nat → Option α} {r : α} (hc : ¬ c) (h : Ev f r) : Ev (fun n => if c then g n else f n) r := Ev.congr (fun n => by rw [if_neg hc]) h
theorem ev_some {α : Type} {x r : α} (h : x = r) : Ev (fun _ => some x) r := by rw [h]; exact Ev.now _
theorem ev_succ {α : Type} {g : Nat → Option α} {r : α} (h : Ev (fun k => g (k + 1)) r) : Ev g r := Ev.step (fun _ => rfl) h
theorem ev_to {α : Type} {g : Nat → Option α} {r r' : α} (h : Ev g r) (e : r = r') : Ev g r' := e ▸ h

theorem drop_at {α : Type} (l : List α) (z : α) (i : Nat) (h : i < l.length) : l.drop i = l.getD i z :: l.drop (i + 1) := by
  rw [List.drop_eq_getElem_cons h, List.getD_eq_getElem?_getD, List.getElem?_eq_getElem h]
  rfl
-- toLink
/-! Link: lists -/
-- toThing
/-! Thing: lists -/
theorem impl_in_eq (a b c : Int) : impl_in.f a b c = some (decide (b ≤ a ∧ a ≤ c)) := by
  unfold impl_in.f
  by_cases h : a ≥ b
  · rw [if_pos h]; congr 1; simp; omega
  · rw [if_neg h]; congr 1; simp; omega

def okLink (n : Int) (x : S93) : Bool := decide (1 ≤ n ∧ n ≤ 6) && (decide (1 ≤ x.f0 ∧ x.f0 ≤ n) && (decide (1 ≤ x.f1 ∧ x.f1 ≤ n) && (decide (x.f0 < x.f1) && (decide (1 ≤ x.f2 ∧ x.f2 ≤ 1000) && decide (0 ≤ x.f3 ∧ x.f3 ≤ 2)))))
def aheadB (a b : S93) : Bool := decide (a.f0 < b.f0 ∨ a.f0 = b.f0 ∧ (a.f1 < b.f1 ∨ a.f1 = b.f1 ∧ a.f3 < b.f3))
def lessB (a b : S102) : Bool := decide (a.f1 < b.f1 ∨ a.f1 = b.f1 ∧ a.f0 < b.f0)
def okThing (n : Int) (x : S102) : Bool := decide (1 ≤ x.f1 ∧ x.f1 ≤ 9) && (decide (1 ≤ x.f0 ∧ x.f0 ≤ n) && decide (1 ≤ x.f2 ∧ x.f2 ≤ 1000))
def linksGo (n : Int) : Option S93 → List S93 → Bool
  | _, [] => true
  | p, x :: xs => okLink n x && p.all (fun y => aheadB y x) && linksGo n (some x) xs
def thingsGo (n : Int) : Option S102 → List S102 → Bool
  | _, [] => true
  | p, x :: xs => okThing n x && p.all (fun y => lessB y x) && thingsGo n (some x) xs
def netB (n : Int) (l : List S93) (m : List S102) : Bool := (decide (1 ≤ n ∧ n ≤ 6) && (!decide ((l.length : Int) > 12) && !decide ((m.length : Int) > 4))) && (linksGo n none l && thingsGo n none m)
def pvK (l : List S93) (i : Nat) : Option S93 := if i = 0 then none else some (l.getD (i - 1) z93)
theorem pvK_succ (l : List S93) (i : Nat) : pvK l (i + 1) = some (l.getD i z93) := by simp [pvK]
theorem rdKp (l : List S93) (i : Nat) (h : 0 < i) (hl : i < 9223372036854775807) : rd_T93 l (wrap64 ((i : Int) - 1)) = l.getD (i - 1) z93 := by
  rw [w64 (by omega) (by omega), show (i : Int) - 1 = ((i - 1 : Nat) : Int) by omega]
  rfl
def pvT (l : List S102) (i : Nat) : Option S102 := if i = 0 then none else some (l.getD (i - 1) z102)
theorem pvT_succ (l : List S102) (i : Nat) : pvT l (i + 1) = some (l.getD i z102) := by simp [pvT]
theorem rdTp (l : List S102) (i : Nat) (h : 0 < i) (hl : i < 9223372036854775807) : rd_T102 l (wrap64 ((i : Int) - 1)) = l.getD (i - 1) z102 := by
  rw [w64 (by omega) (by omega), show (i : Int) - 1 = ((i - 1 : Nat) : Int) by omega]
  rfl
theorem impl_LinkOk_eq (n : Int) (x : S93) : impl_LinkOk.f n x.f0 x.f1 x.f2 x.f3 = some (okLink n x) := by
  unfold impl_LinkOk.f okLink
  simp only [impl_in_eq, Option.bind_some, decide_eq_true_eq]
  by_cases h1 : 1 ≤ n ∧ n ≤ 6
  · rw [if_pos h1, decide_eq_true h1, Bool.true_and]
    by_cases h2 : 1 ≤ x.f0 ∧ x.f0 ≤ n
    · rw [if_pos h2, decide_eq_true h2, Bool.true_and]
      by_cases h3 : 1 ≤ x.f1 ∧ x.f1 ≤ n
      · rw [if_pos h3, decide_eq_true h3, Bool.true_and]
        by_cases h4 : x.f0 < x.f1
        · rw [if_pos h4, decide_eq_true h4, Bool.true_and]
          by_cases h5 : 1 ≤ x.f2 ∧ x.f2 ≤ 1000
          · rw [if_pos h5, decide_eq_true h5, Bool.true_and]
          · rw [if_neg h5, decide_eq_false h5, Bool.false_and]
        · rw [if_neg h4, decide_eq_false h4, Bool.false_and]
      · rw [if_neg h3, decide_eq_false h3, Bool.false_and]
    · rw [if_neg h2, decide_eq_false h2, Bool.false_and]
  · rw [if_neg h1, decide_eq_false h1, Bool.false_and]
theorem impl_ahead_eq (a b : S93) : impl_ahead.f a.f0 a.f1 a.f2 a.f3 b.f0 b.f1 b.f2 b.f3 = some (aheadB a b) := by
  unfold impl_ahead.f aheadB
  repeat' split
  all_goals (congr 1; rw [Bool.eq_iff_iff, decide_eq_true_eq, decide_eq_true_eq]; omega)
theorem spec_l03Ahead_eq (a b : S93) : spec_l03Ahead.f a.f0 a.f1 a.f2 a.f3 b.f0 b.f1 b.f2 b.f3 = some (aheadB a b) := by
  unfold spec_l03Ahead.f aheadB
  repeat' split
  all_goals (congr 1; rw [Bool.eq_iff_iff]; simp only [decide_eq_true_eq, true_iff, Bool.false_eq_true, false_iff]; omega)
theorem impl_less_eq (a b : S102) : impl_less.f a.f0 a.f1 a.f2 a.f3 b.f0 b.f1 b.f2 b.f3 = some (lessB a b) := by
  unfold impl_less.f lessB
  repeat' split
  all_goals (congr 1; rw [Bool.eq_iff_iff]; simp only [decide_eq_true_eq, true_iff, Bool.false_eq_true, false_iff]; omega)
theorem spec_l03Thing_eq (a b : S102) : spec_l03Thing.f a.f0 a.f1 a.f2 a.f3 b.f0 b.f1 b.f2 b.f3 = some (lessB a b) := by
  unfold spec_l03Thing.f lessB
  repeat' split
  all_goals (congr 1; rw [Bool.eq_iff_iff]; simp only [decide_eq_true_eq, true_iff, Bool.false_eq_true, false_iff]; omega)

theorem ahd_trans {a b c : S93} (h : aheadB a b = true) (k : aheadB b c = true) : aheadB a c = true := by
  simp only [aheadB, decide_eq_true_eq] at *
  omega
theorem ahd_asymm {a b : S93} (h : aheadB a b = true) : aheadB b a = false := by
  simp only [aheadB, decide_eq_true_eq, decide_eq_false_iff_not] at *
  omega
def putLink (x : S93) (l : List S93) : List S93 := l.filter (fun y => aheadB y x) ++ [x] ++ l.filter (fun y => aheadB x y)
theorem putLink_len (x : S93) (l : List S93) : (putLink x l).length ≤ l.length + 1 := by
  have h : (l.filter (fun y => aheadB y x)).length + (l.filter (fun y => aheadB x y)).length ≤ l.length := by
    induction l with
    | nil => simp
    | cons y l ih =>
      by_cases h1 : aheadB y x = true
      · have h2 := ahd_asymm h1
        rw [List.filter_cons, List.filter_cons, if_pos h1, if_neg (by rw [h2]; decide)]
        simp only [List.length_cons]; omega
      · rw [List.filter_cons, if_neg h1]
        have h3 : (List.filter (fun y => aheadB x y) (y :: l)).length ≤ (List.filter (fun y => aheadB x y) l).length + 1 := by
          rw [List.filter_cons]
          split
          · simp
          · omega
        simp only [List.length_cons]; omega
  unfold putLink
  simp only [List.length_append, List.length_singleton]
  omega
theorem putLink_mem (x : S93) (l : List S93) : ∀ y ∈ putLink x l, y = x ∨ y ∈ l := by
  intro y hy
  unfold putLink at hy
  simp only [List.mem_append, List.mem_singleton, List.mem_filter] at hy
  rcases hy with (hy | hy) | hy
  · exact .inr hy.1
  · exact .inl hy
  · exact .inr hy.1
theorem putLink_sorted (x : S93) (l : List S93) (h : l.Pairwise (fun a b => aheadB a b = true)) : (putLink x l).Pairwise (fun a b => aheadB a b = true) := by
  unfold putLink
  rw [List.pairwise_append, List.pairwise_append]
  refine ⟨⟨h.filter _, List.pairwise_singleton _ _, ?_⟩, h.filter _, ?_⟩
  · intro a ha b hb
    rw [List.mem_singleton] at hb
    rw [hb]
    exact (List.mem_filter.1 ha).2
  · intro a ha b hb
    have hb2 := (List.mem_filter.1 hb).2
    rcases List.mem_append.1 ha with ha | ha
    · exact ahd_trans (List.mem_filter.1 ha).2 hb2
    · rw [List.mem_singleton] at ha
      rw [ha]
      exact hb2
theorem spec_l03Put_l1_ev (x : S93) (l : List S93) (hl : l.length ≤ 1000) (d : Nat) : ∀ (i : Nat) (acc : List S93), i + d = l.length → acc.length + d ≤ 100000 →
    Ev (fun k => spec_l03Put.l1 k l acc i x.f0 x.f1 x.f2 x.f3) (acc ++ (l.drop i).filter (fun y => aheadB x y)) := by
  induction d with
  | zero =>
    intro i acc hi ha
    rw [List.drop_eq_nil_of_le (by omega)]
    refine ev_succ ?_
    simp only [spec_l03Put.l1]
    exact ev_neg (by omega) (ev_some (by simp))
  | succ d ih =>
    intro i acc hi ha
    obtain ⟨y, hy⟩ : ∃ y, rd_T93 l (i : Int) = y := ⟨_, rfl⟩
    have hy2 : l.getD i z93 = y := hy
    refine ev_succ ?_
    rw [drop_at l z93 i (by omega), hy2]
    simp only [spec_l03Put.l1, hy, spec_l03Ahead_eq, Option.bind_some]
    rw [w64 (x := (i : Int) + 1) (by omega) (by omega)]
    refine ev_pos (by omega) (ev_pos (by omega) ?_)
    by_cases hc : aheadB x y = true
    · have h := ih (i + 1) (acc ++ [y]) (by omega) (by simp; omega)
      refine ev_pos hc (ev_pos (by omega) (ev_to h ?_))
      rw [List.filter_cons, if_pos hc]; simp
    · have h := ih (i + 1) acc (by omega) (by omega)
      refine ev_neg hc (ev_to h ?_)
      rw [List.filter_cons, if_neg hc]
theorem spec_l03Put_l0_ev (x : S93) (l : List S93) (hl : l.length ≤ 1000) (d : Nat) : ∀ (i : Nat) (acc : List S93), i + d = l.length → acc.length + d ≤ 2000 →
    Ev (fun k => spec_l03Put.l0 k l acc i x.f0 x.f1 x.f2 x.f3) (acc ++ (l.drop i).filter (fun y => aheadB y x) ++ [x] ++ l.filter (fun y => aheadB x y)) := by
  induction d with
  | zero =>
    intro i acc hi ha
    rw [List.drop_eq_nil_of_le (by omega)]
    refine ev_succ ?_
    simp only [spec_l03Put.l0]
    have h := spec_l03Put_l1_ev x l hl l.length 0 (acc ++ [x]) (by omega) (by simp; omega)
    exact ev_neg (by omega) (ev_pos (by omega) (ev_to h (by simp)))
  | succ d ih =>
    intro i acc hi ha
    obtain ⟨y, hy⟩ : ∃ y, rd_T93 l (i : Int) = y := ⟨_, rfl⟩
    have hy2 : l.getD i z93 = y := hy
    refine ev_succ ?_
    rw [drop_at l z93 i (by omega), hy2]
    simp only [spec_l03Put.l0, hy, spec_l03Ahead_eq, Option.bind_some]
    rw [w64 (x := (i : Int) + 1) (by omega) (by omega)]
    refine ev_pos (by omega) (ev_pos (by omega) ?_)
    by_cases hc : aheadB y x = true
    · have h := ih (i + 1) (acc ++ [y]) (by omega) (by simp; omega)
      refine ev_pos hc (ev_pos (by omega) (ev_to h ?_))
      rw [List.filter_cons, if_pos hc]; simp
    · have h := ih (i + 1) acc (by omega) (by omega)
      refine ev_neg hc (ev_to h ?_)
      rw [List.filter_cons, if_neg hc]
theorem spec_l03Put_ev (x : S93) (l : List S93) (hl : l.length ≤ 1000) : Ev (fun k => spec_l03Put.f k l x.f0 x.f1 x.f2 x.f3) (putLink x l) := by
  have h := spec_l03Put_l0_ev x l hl l.length 0 [] (by omega) (by simp; omega)
  exact ev_to h (by unfold putLink; simp)
theorem lss_trans {a b c : S102} (h : lessB a b = true) (k : lessB b c = true) : lessB a c = true := by
  simp only [lessB, decide_eq_true_eq] at *
  omega
theorem lss_asymm {a b : S102} (h : lessB a b = true) : lessB b a = false := by
  simp only [lessB, decide_eq_true_eq, decide_eq_false_iff_not] at *
  omega
def putThing (x : S102) (l : List S102) : List S102 := l.filter (fun y => lessB y x) ++ [x] ++ l.filter (fun y => lessB x y)
theorem putThing_len (x : S102) (l : List S102) : (putThing x l).length ≤ l.length + 1 := by
  have h : (l.filter (fun y => lessB y x)).length + (l.filter (fun y => lessB x y)).length ≤ l.length := by
    induction l with
    | nil => simp
    | cons y l ih =>
      by_cases h1 : lessB y x = true
      · have h2 := lss_asymm h1
        rw [List.filter_cons, List.filter_cons, if_pos h1, if_neg (by rw [h2]; decide)]
        simp only [List.length_cons]; omega
      · rw [List.filter_cons, if_neg h1]
        have h3 : (List.filter (fun y => lessB x y) (y :: l)).length ≤ (List.filter (fun y => lessB x y) l).length + 1 := by
          rw [List.filter_cons]
          split
          · simp
          · omega
        simp only [List.length_cons]; omega
  unfold putThing
  simp only [List.length_append, List.length_singleton]
  omega
theorem putThing_mem (x : S102) (l : List S102) : ∀ y ∈ putThing x l, y = x ∨ y ∈ l := by
  intro y hy
  unfold putThing at hy
  simp only [List.mem_append, List.mem_singleton, List.mem_filter] at hy
  rcases hy with (hy | hy) | hy
  · exact .inr hy.1
  · exact .inl hy
  · exact .inr hy.1
theorem putThing_sorted (x : S102) (l : List S102) (h : l.Pairwise (fun a b => lessB a b = true)) : (putThing x l).Pairwise (fun a b => lessB a b = true) := by
  unfold putThing
  rw [List.pairwise_append, List.pairwise_append]
  refine ⟨⟨h.filter _, List.pairwise_singleton _ _, ?_⟩, h.filter _, ?_⟩
  · intro a ha b hb
    rw [List.mem_singleton] at hb
    rw [hb]
    exact (List.mem_filter.1 ha).2
  · intro a ha b hb
    have hb2 := (List.mem_filter.1 hb).2
    rcases List.mem_append.1 ha with ha | ha
    · exact lss_trans (List.mem_filter.1 ha).2 hb2
    · rw [List.mem_singleton] at ha
      rw [ha]
      exact hb2
theorem spec_l03PutThing_l1_ev (x : S102) (l : List S102) (hl : l.length ≤ 1000) (d : Nat) : ∀ (i : Nat) (acc : List S102), i + d = l.length → acc.length + d ≤ 100000 →
    Ev (fun k => spec_l03PutThing.l1 k l acc i x.f0 x.f1 x.f2 x.f3) (acc ++ (l.drop i).filter (fun y => lessB x y)) := by
  induction d with
  | zero =>
    intro i acc hi ha
    rw [List.drop_eq_nil_of_le (by omega)]
    refine ev_succ ?_
    simp only [spec_l03PutThing.l1]
    exact ev_neg (by omega) (ev_some (by simp))
  | succ d ih =>
    intro i acc hi ha
    obtain ⟨y, hy⟩ : ∃ y, rd_T102 l (i : Int) = y := ⟨_, rfl⟩
    have hy2 : l.getD i z102 = y := hy
    refine ev_succ ?_
    rw [drop_at l z102 i (by omega), hy2]
    simp only [spec_l03PutThing.l1, hy, spec_l03Thing_eq, Option.bind_some]
    rw [w64 (x := (i : Int) + 1) (by omega) (by omega)]
    refine ev_pos (by omega) (ev_pos (by omega) ?_)
    by_cases hc : lessB x y = true
    · have h := ih (i + 1) (acc ++ [y]) (by omega) (by simp; omega)
      refine ev_pos hc (ev_pos (by omega) (ev_to h ?_))
      rw [List.filter_cons, if_pos hc]; simp
    · have h := ih (i + 1) acc (by omega) (by omega)
      refine ev_neg hc (ev_to h ?_)
      rw [List.filter_cons, if_neg hc]
theorem spec_l03PutThing_l0_ev (x : S102) (l : List S102) (hl : l.length ≤ 1000) (d : Nat) : ∀ (i : Nat) (acc : List S102), i + d = l.length → acc.length + d ≤ 2000 →
    Ev (fun k => spec_l03PutThing.l0 k l acc i x.f0 x.f1 x.f2 x.f3) (acc ++ (l.drop i).filter (fun y => lessB y x) ++ [x] ++ l.filter (fun y => lessB x y)) := by
  induction d with
  | zero =>
    intro i acc hi ha
    rw [List.drop_eq_nil_of_le (by omega)]
    refine ev_succ ?_
    simp only [spec_l03PutThing.l0]
    have h := spec_l03PutThing_l1_ev x l hl l.length 0 (acc ++ [x]) (by omega) (by simp; omega)
    exact ev_neg (by omega) (ev_pos (by omega) (ev_to h (by simp)))
  | succ d ih =>
    intro i acc hi ha
    obtain ⟨y, hy⟩ : ∃ y, rd_T102 l (i : Int) = y := ⟨_, rfl⟩
    have hy2 : l.getD i z102 = y := hy
    refine ev_succ ?_
    rw [drop_at l z102 i (by omega), hy2]
    simp only [spec_l03PutThing.l0, hy, spec_l03Thing_eq, Option.bind_some]
    rw [w64 (x := (i : Int) + 1) (by omega) (by omega)]
    refine ev_pos (by omega) (ev_pos (by omega) ?_)
    by_cases hc : lessB y x = true
    · have h := ih (i + 1) (acc ++ [y]) (by omega) (by simp; omega)
      refine ev_pos hc (ev_pos (by omega) (ev_to h ?_))
      rw [List.filter_cons, if_pos hc]; simp
    · have h := ih (i + 1) acc (by omega) (by omega)
      refine ev_neg hc (ev_to h ?_)
      rw [List.filter_cons, if_neg hc]
theorem spec_l03PutThing_ev (x : S102) (l : List S102) (hl : l.length ≤ 1000) : Ev (fun k => spec_l03PutThing.f k l x.f0 x.f1 x.f2 x.f3) (putThing x l) := by
  have h := spec_l03PutThing_l0_ev x l hl l.length 0 [] (by omega) (by simp; omega)
  exact ev_to h (by unfold putThing; simp)

theorem and255 (x : Int) : 0 ≤ Go.bits .and .i64 x 255 ∧ Go.bits .and .i64 x 255 < 256 := by
  have h : ((BitVec.ofInt 64 x) &&& (BitVec.ofInt 64 255)).toNat ≤ 255 := by
    rw [BitVec.toNat_and]
    exact Nat.le_trans Nat.and_le_right (by decide)
  have e : Go.bits .and .i64 x 255 = IntKind.i64.wrap ((((BitVec.ofInt 64 x) &&& (BitVec.ofInt 64 255)).toNat : Nat) : Int) := rfl
  rw [e, IntKind.wrap_i64]
  omega

/-- What is drawn: the place in the bytes stays at 0 or more, what comes is in its bounds. -/
theorem spec_l01Byte_ex (xs : List Int) (p s : Int) (hp : 0 ≤ p) (hx : xs.length ≤ 9223372036854775000) : ∃ v p' s', spec_l01Byte.f xs p s = some (v, p', s') ∧ 0 ≤ v ∧ v < 256 ∧ 0 ≤ p' := by
  unfold spec_l01Byte.f
  by_cases h : p < (xs.length : Int)
  · rw [if_pos h, if_pos hp]
    refine ⟨_, _, _, rfl, (and255 _).1, (and255 _).2, ?_⟩
    rw [w64 (by omega) (by omega)]
    omega
  · rw [if_neg h]
    exact ⟨_, _, _, rfl, (and255 _).1, (and255 _).2, hp⟩
theorem spec_l01Below_ex (xs : List Int) (p s n : Int) (hp : 0 ≤ p) (hx : xs.length ≤ 9223372036854775000) (h1 : 1 ≤ n) (h2 : n ≤ 256) : ∃ v p' s', spec_l01Below.f xs p s n = some (v, p', s') ∧ 0 ≤ v ∧ v < n ∧ 0 ≤ p' := by
  obtain ⟨v, p', s', h, h3, h4, h5⟩ := spec_l01Byte_ex xs p s hp hx
  unfold spec_l01Below.f
  rw [if_neg (by omega), if_pos h2, h, Option.bind_some, if_neg (by omega)]
  refine ⟨_, _, _, rfl, ?_, ?_, h5⟩
  · rw [tmodp h3]; exact Int.emod_nonneg _ (by omega)
  · rw [tmodp h3]; exact Int.emod_lt_of_pos _ (by omega)
theorem spec_l01Once_ex (xs : List Int) (p s n : Int) (hp : 0 ≤ p) (hx : xs.length ≤ 9223372036854775000) (h1 : 1 ≤ n) (h2 : n ≤ 256) : ∃ b p' s', spec_l01Once.f xs p s n = some (b, p', s') ∧ 0 ≤ p' := by
  obtain ⟨v, p', s', h, _, _, h5⟩ := spec_l01Below_ex xs p s n hp hx h1 h2
  unfold spec_l01Once.f
  rw [h, Option.bind_some]
  exact ⟨_, _, _, rfl, h5⟩
theorem spec_l01New_l0_ex (xs : List Int) (hx : xs.length ≤ 9223372036854775000) (d : Nat) : ∀ (i : Nat) (s : Int), i + d = xs.length → ∃ s', Ev (fun k => spec_l01New.l0 k xs s i) (xs, 0, s') := by
  induction d with
  | zero =>
    intro i s hi
    refine ⟨s, ev_succ ?_⟩
    simp only [spec_l01New.l0]
    exact ev_neg (by omega) (Ev.now _)
  | succ d ih =>
    intro i s hi
    obtain ⟨s', h⟩ := ih (i + 1) _ (by omega)
    by_cases h4 : (i : Int) < 4000
    · refine ⟨s', ev_succ ?_⟩
      simp only [spec_l01New.l0]
      rw [w64 (x := (i : Int) + 1) (by omega) (by omega)]
      exact ev_pos (by omega) (ev_pos h4 (ev_pos (by omega) h))
    · refine ⟨s, ev_succ ?_⟩
      simp only [spec_l01New.l0]
      exact ev_pos (by omega) (ev_neg h4 (Ev.now _))
theorem spec_l01New_ex (xs : List Int) (hx : xs.length ≤ 9223372036854775000) : ∃ s', Ev (fun k => spec_l01New.f k xs) (xs, 0, s') := spec_l01New_l0_ex xs hx xs.length 0 _ (by omega)

structure NetGood (n : Int) (l : List S93) (m : List S102) : Prop where
  n0 : 2 ≤ n
  n1 : n ≤ 6
  ll : l.length ≤ 12
  ml : m.length ≤ 4
  lok : ∀ x ∈ l, okLink n x = true
  mok : ∀ x ∈ m, okThing n x = true
  lso : l.Pairwise (fun a b => aheadB a b = true)
  mso : m.Pairwise (fun a b => lessB a b = true)
theorem linksGo_of (n : Int) (l : List S93) : ∀ p : Option S93, (∀ x ∈ l, okLink n x = true) → l.Pairwise (fun a b => aheadB a b = true) → (∀ y, p = some y → ∀ x ∈ l, aheadB y x = true) → linksGo n p l = true := by
  induction l with
  | nil => intro p _ _ _; simp [linksGo]
  | cons x l ih =>
    intro p h1 h2 h3
    rw [linksGo]
    have hp := List.pairwise_cons.1 h2
    have h4 := ih (some x) (fun y hy => h1 y (List.mem_cons_of_mem _ hy)) hp.2 (fun y hy z hz => by injection hy with hy; rw [← hy]; exact hp.1 z hz)
    have h5 : p.all (fun y => aheadB y x) = true := by
      cases p with
      | none => rfl
      | some y => exact h3 y rfl x (List.mem_cons_self ..)
    rw [h1 x (List.mem_cons_self ..), h5, h4]; rfl
theorem thingsGo_of (n : Int) (l : List S102) : ∀ p : Option S102, (∀ x ∈ l, okThing n x = true) → l.Pairwise (fun a b => lessB a b = true) → (∀ y, p = some y → ∀ x ∈ l, lessB y x = true) → thingsGo n p l = true := by
  induction l with
  | nil => intro p _ _ _; simp [thingsGo]
  | cons x l ih =>
    intro p h1 h2 h3
    rw [thingsGo]
    have hp := List.pairwise_cons.1 h2
    have h4 := ih (some x) (fun y hy => h1 y (List.mem_cons_of_mem _ hy)) hp.2 (fun y hy z hz => by injection hy with hy; rw [← hy]; exact hp.1 z hz)
    have h5 : p.all (fun y => lessB y x) = true := by
      cases p with
      | none => rfl
      | some y => exact h3 y rfl x (List.mem_cons_self ..)
    rw [h1 x (List.mem_cons_self ..), h5, h4]; rfl
theorem NetGood.netB {n : Int} {l : List S93} {m : List S102} (g : NetGood n l m) : netB n l m = true := by
  have h1 := linksGo_of n l none g.lok g.lso (fun y h => by cases h)
  have h2 := thingsGo_of n m none g.mok g.mso (fun y h => by cases h)
  have a := g.n0
  have b := g.n1
  have c := g.ll
  have d := g.ml
  unfold Pure.netB
  rw [h1, h2, decide_eq_true ⟨by omega, b⟩, decide_eq_false (by omega), decide_eq_false (by omega)]; rfl
theorem spec_l03Net_l1_ex (xs : List Int) (hx : xs.length ≤ 9223372036854775000) (n : Int) (l : List S93) (n0 : 2 ≤ n) (n1 : n ≤ 6) (d : Nat) : ∀ (i : Nat) (m : List S102) (p s : Int), i + d = 2 → m.length ≤ i → (∀ x ∈ m, okThing n x = true) → m.Pairwise (fun a b => lessB a b = true) → 0 ≤ p →
    ∃ m' p' s', Ev (fun k => spec_l03Net.l1 k i xs p s n l m) (n, l, m', p', s') ∧ m'.length ≤ 4 ∧ (∀ x ∈ m', okThing n x = true) ∧ m'.Pairwise (fun a b => lessB a b = true) ∧ 0 ≤ p' := by
  induction d with
  | zero =>
    intro i m p s hi hm hok hso hp
    obtain ⟨v, p1, s1, h1, v0, v1, hp1⟩ := spec_l01Below_ex xs p s 3 hp hx (by omega) (by omega)
    refine ⟨m, p1, s1, ev_succ ?_, by omega, hok, hso, hp1⟩
    simp only [spec_l03Net.l1, h1, Option.bind_some]
    exact ev_neg (by omega) (Ev.now _)
  | succ d ih =>
    intro i m p s hi hm hok hso hp
    obtain ⟨v, p1, s1, h1, v0, v1, hp1⟩ := spec_l01Below_ex xs p s 3 hp hx (by omega) (by omega)
    by_cases hc : (i : Int) < v
    · obtain ⟨a, p2, s2, h2, a0, a1, hp2⟩ := spec_l01Below_ex xs p1 s1 n hp1 hx (by omega) (by omega)
      obtain ⟨b, p3, s3, h3, b0, b1, hp3⟩ := spec_l01Below_ex xs p2 s2 3 hp2 hx (by omega) (by omega)
      obtain ⟨c, p4, s4, h4, c0, c1, hp4⟩ := spec_l01Below_ex xs p3 s3 5 hp3 hx (by omega) (by omega)
      obtain ⟨f, p5, s5, h5, hp5⟩ := spec_l01Once_ex xs p4 s4 2 hp4 hx (by omega) (by omega)
      have wa : wrap64 (1 + a) = 1 + a := w64 (by omega) (by omega)
      have wb : wrap64 (1 + b) = 1 + b := w64 (by omega) (by omega)
      have wc : wrap64 (1 + c) = 1 + c := w64 (by omega) (by omega)
      have hP := spec_l03PutThing_ev (⟨1 + a, 1 + b, 1 + c, f⟩ : S102) m (by omega)
      have hxo : okThing n (⟨1 + a, 1 + b, 1 + c, f⟩ : S102) = true := by
        unfold okThing
        simp only [Bool.and_eq_true, decide_eq_true_eq]
        omega
      have hlen := putThing_len (⟨1 + a, 1 + b, 1 + c, f⟩ : S102) m
      obtain ⟨m', p', s', hE, q1, q2, q3, q4⟩ := ih (i + 1) (putThing (⟨1 + a, 1 + b, 1 + c, f⟩ : S102) m) p5 s5 (by omega) (by omega) (fun y hy => by
        rcases putThing_mem _ _ y hy with rfl | hy
        · exact hxo
        · exact hok y hy) (putThing_sorted _ _ hso) hp5
      refine ⟨m', p', s', ev_succ ?_, q1, q2, q3, q4⟩
      simp only [spec_l03Net.l1, h1, h2, h3, h4, h5, Option.bind_some, wa, wb, wc]
      rw [w64 (x := (i : Int) + 1) (by omega) (by omega)]
      exact ev_pos hc (Ev.bind hP hE)
    · refine ⟨m, p1, s1, ev_succ ?_, by omega, hok, hso, hp1⟩
      simp only [spec_l03Net.l1, h1, Option.bind_some]
      exact ev_neg hc (Ev.now _)
theorem pick4_ex (xs : List Int) (p s : Int) (hp : 0 ≤ p) (hx : xs.length ≤ 9223372036854775000) : ∃ v p' s', spec_l01PickInt.f xs p s [0, 0, 1, 2] = some (v, p', s') ∧ 0 ≤ v ∧ v ≤ 2 ∧ 0 ≤ p' := by
  obtain ⟨i, p1, s1, h1, i0, i1, hp1⟩ := spec_l01Below_ex xs p s 4 hp hx (by omega) (by omega)
  unfold spec_l01PickInt.f
  have e4 : ((List.length ([0, 0, 1, 2] : List Int) : Nat) : Int) = 4 := rfl
  simp only [e4, h1, Option.bind_some]
  rw [if_pos i0, if_pos (by omega)]
  refine ⟨_, p1, s1, rfl, ?_, ?_, hp1⟩
  · have : i = 0 ∨ i = 1 ∨ i = 2 ∨ i = 3 := by omega
    rcases this with rfl | rfl | rfl | rfl <;> decide
  · have : i = 0 ∨ i = 1 ∨ i = 2 ∨ i = 3 := by omega
    rcases this with rfl | rfl | rfl | rfl <;> decide
theorem w64one (x : Int) (h0 : 0 ≤ x) (h1 : x ≤ 100) : wrap64 (1 + x) = 1 + x := by unfold wrap64; omega
theorem w64two (i : Nat) (h : i ≤ 100) : wrap64 ((i : Int) + 2) = (i : Int) + 2 := by unfold wrap64; omega
theorem l03Net_wnv (n v : Int) (n0 : 0 ≤ n) (n1 : n ≤ 100) (v0 : 0 ≤ v) (v1 : v ≤ 100) : wrap64 (n + v) = n + v := by unfold wrap64; omega
theorem w64inc (i : Nat) (h : i ≤ 100) : wrap64 ((i : Int) + 1) = (i : Int) + 1 := by unfold wrap64; omega
theorem l03Net_stepA (i : Nat) (xs : List Int) (p s n v a b p1 s1 p2 s2 p3 s3 : Int) (l : List S93) (R : Int × (List S93) × (List S102) × Int × Int)
    (h1 : spec_l01Below.f xs p s 3 = some (v, p1, s1)) (h2 : spec_l01Below.f xs p1 s1 n = some (a, p2, s2)) (h3 : spec_l01Below.f xs p2 s2 n = some (b, p3, s3))
    (hi : i ≤ 100) (wnv : wrap64 (n + v) = n + v) (hc : (i : Int) < n + v) (hin : (i : Int) + 1 < n)
    (hE : Ev (fun k => spec_l03Net.j1 k i ((i : Int) + 1) ((i : Int) + 2) xs p3 s3 n l) R) : Ev (fun k => spec_l03Net.l0 k i xs p s n l) R := by
  have w1 := w64inc i hi
  have w2 := w64two i hi
  refine ev_succ ?_
  simp only [spec_l03Net.l0, h1, h2, h3, Option.bind_some, w1, w2, wnv]
  exact ev_pos hc (ev_pos hin hE)
theorem l03Net_stepB (i : Nat) (xs : List Int) (p s n v a b p1 s1 p2 s2 p3 s3 : Int) (l : List S93) (R : Int × (List S93) × (List S102) × Int × Int)
    (h1 : spec_l01Below.f xs p s 3 = some (v, p1, s1)) (h2 : spec_l01Below.f xs p1 s1 n = some (a, p2, s2)) (h3 : spec_l01Below.f xs p2 s2 n = some (b, p3, s3))
    (hi : i ≤ 100) (wnv : wrap64 (n + v) = n + v) (w3 : wrap64 (1 + a) = 1 + a) (w4 : wrap64 (1 + b) = 1 + b) (hc : (i : Int) < n + v) (hin : ¬ (i : Int) + 1 < n)
    (hE : Ev (fun k => spec_l03Net.j1 k i (1 + a) (1 + b) xs p3 s3 n l) R) : Ev (fun k => spec_l03Net.l0 k i xs p s n l) R := by
  have w1 := w64inc i hi
  refine ev_succ ?_
  simp only [spec_l03Net.l0, h1, h2, h3, Option.bind_some, w1, w3, w4, wnv]
  exact ev_pos hc (ev_neg hin hE)
theorem l03Net_stepC (i : Nat) (xs : List Int) (p s n v p1 s1 : Int) (l : List S93) (R : Int × (List S93) × (List S102) × Int × Int)
    (h1 : spec_l01Below.f xs p s 3 = some (v, p1, s1)) (wnv : wrap64 (n + v) = n + v) (hc : ¬ (i : Int) < n + v)
    (hE : Ev (fun k => spec_l03Net.l1 k 0 xs p1 s1 n l []) R) : Ev (fun k => spec_l03Net.l0 k i xs p s n l) R := by
  refine ev_succ ?_
  simp only [spec_l03Net.l0, h1, Option.bind_some, wnv]
  exact ev_neg hc hE
set_option maxHeartbeats 4000000 in
theorem spec_l03Net_l0_ex (xs : List Int) (hx : xs.length ≤ 9223372036854775000) (n : Int) (n0 : 2 ≤ n) (n1 : n ≤ 6) (d : Nat) : ∀ (i : Nat) (l : List S93) (p s : Int), i + d = 8 → l.length ≤ 12 → (∀ x ∈ l, okLink n x = true) → l.Pairwise (fun a b => aheadB a b = true) → 0 ≤ p →
    ∃ l' m' p' s', Ev (fun k => spec_l03Net.l0 k i xs p s n l) (n, l', m', p', s') ∧ NetGood n l' m' ∧ 0 ≤ p' := by
  have hend : ∀ (l : List S93) (p s : Int), l.length ≤ 12 → (∀ x ∈ l, okLink n x = true) → l.Pairwise (fun a b => aheadB a b = true) → 0 ≤ p → ∃ l' m' p' s', Ev (fun k => spec_l03Net.l1 k 0 xs p s n l []) (n, l', m', p', s') ∧ NetGood n l' m' ∧ 0 ≤ p' := by
    intro l p s hl hok hso hp
    obtain ⟨m', p', s', hE, q1, q2, q3, q4⟩ := spec_l03Net_l1_ex xs hx n l n0 n1 2 0 [] p s (by omega) (by simp) (by intro x hx; cases hx) List.Pairwise.nil hp
    exact ⟨l, m', p', s', hE, ⟨n0, n1, hl, q1, hok, q2, hso, q3⟩, q4⟩
  induction d with
  | zero =>
    intro i l p s hi hl hok hso hp
    obtain ⟨v, p1, s1, h1, v0, v1, hp1⟩ := spec_l01Below_ex xs p s 3 hp hx (by omega) (by omega)
    obtain ⟨l', m', p', s', hE, g, q⟩ := hend l p1 s1 hl hok hso hp1
    exact ⟨l', m', p', s', l03Net_stepC i xs p s n v p1 s1 l _ h1 (l03Net_wnv n v (by omega) (by omega) (by omega) (by omega)) (by omega) hE, g, q⟩
  | succ d ih =>
    intro i l p s hi hl hok hso hp
    have hi100 : i ≤ 100 := by omega
    obtain ⟨v, p1, s1, h1, v0, v1, hp1⟩ := spec_l01Below_ex xs p s 3 hp hx (by omega) (by omega)
    have wnv := l03Net_wnv n v (by omega) (by omega) (by omega) (by omega)
    by_cases hc : (i : Int) < n + v
    · obtain ⟨a, p2, s2, h2, a0, a1, hp2⟩ := spec_l01Below_ex xs p1 s1 n hp1 hx (by omega) (by omega)
      obtain ⟨b, p3, s3, h3, b0, b1, hp3⟩ := spec_l01Below_ex xs p2 s2 n hp2 hx (by omega) (by omega)
      have hj3 : ∀ x y : Int, 1 ≤ x → x < y → y ≤ n → ∃ l' m' p' s', Ev (fun k => spec_l03Net.j3 k i x y xs p3 s3 n l) (n, l', m', p', s') ∧ NetGood n l' m' ∧ 0 ≤ p' := by
        intro x y x0 xy y1
        obtain ⟨c, p4, s4, h4, c0, c1, hp4⟩ := spec_l01Below_ex xs p3 s3 4 hp3 hx (by omega) (by omega)
        obtain ⟨ar, p5, s5, h5, ar0, ar1, hp5⟩ := pick4_ex xs p4 s4 hp4 hx
        have wc : wrap64 (1 + c) = 1 + c := w64 (by omega) (by omega)
        have wi : wrap64 ((i : Int) + 1) = ((i + 1 : Nat) : Int) := by rw [w64 (by omega) (by omega)]; omega
        by_cases h12 : (l.length : Int) < 12
        · have hP := spec_l03Put_ev (⟨x, y, 1 + c, ar⟩ : S93) l (by omega)
          have hxo : okLink n (⟨x, y, 1 + c, ar⟩ : S93) = true := by
            unfold okLink
            simp only [Bool.and_eq_true, decide_eq_true_eq]
            omega
          have hlen := putLink_len (⟨x, y, 1 + c, ar⟩ : S93) l
          obtain ⟨l', m', p', s', hE, g, q⟩ := ih (i + 1) (putLink (⟨x, y, 1 + c, ar⟩ : S93) l) p5 s5 (by omega) (by omega) (fun z hz => by
            rcases putLink_mem _ _ z hz with rfl | hz
            · exact hxo
            · exact hok z hz) (putLink_sorted _ _ hso) hp5
          refine ⟨l', m', p', s', ev_succ ?_, g, q⟩
          simp only [spec_l03Net.j3, h4, h5, Option.bind_some, wc, wi]
          exact ev_pos h12 (Ev.bind hP hE)
        · obtain ⟨l', m', p', s', hE, g, q⟩ := ih (i + 1) l p5 s5 (by omega) hl hok hso hp5
          refine ⟨l', m', p', s', ev_succ ?_, g, q⟩
          simp only [spec_l03Net.j3, h4, h5, Option.bind_some, wc, wi]
          exact ev_neg h12 hE
      have hj2 : ∀ x y : Int, 1 ≤ x → 1 ≤ y → x ≠ y → x ≤ n → y ≤ n → ∃ l' m' p' s', Ev (fun k => spec_l03Net.j2 k i x y xs p3 s3 n l) (n, l', m', p', s') ∧ NetGood n l' m' ∧ 0 ≤ p' := by
        intro x y x0 y0 xy x1 y1
        by_cases hg : x > y
        · obtain ⟨l', m', p', s', hE, g, q⟩ := hj3 y x y0 hg x1
          refine ⟨l', m', p', s', ev_succ ?_, g, q⟩
          simp only [spec_l03Net.j2]
          refine ev_pos ?_ ?_
          · exact hg
          · exact hE
        · obtain ⟨l', m', p', s', hE, g, q⟩ := hj3 x y x0 (by omega) y1
          refine ⟨l', m', p', s', ev_succ ?_, g, q⟩
          simp only [spec_l03Net.j2]
          refine ev_neg ?_ ?_
          · exact hg
          · exact hE
      have hj1 : ∀ x y : Int, 1 ≤ x → 1 ≤ y → x ≤ n → y ≤ n → ∃ l' m' p' s', Ev (fun k => spec_l03Net.j1 k i x y xs p3 s3 n l) (n, l', m', p', s') ∧ NetGood n l' m' ∧ 0 ≤ p' := by
        intro x y x0 y0 x1 y1
        by_cases hg : x = y
        · have ht : Int.tmod x n = x % n := tmodp (by omega)
          have m0 := Int.emod_nonneg x (b := n) (by omega)
          have m1 := Int.emod_lt_of_pos x (b := n) (by omega)
          have mne : x % n + 1 ≠ x := by
            by_cases hxn : x = n
            · rw [hxn, Int.emod_self]; omega
            · rw [Int.emod_eq_of_lt (by omega) (by omega)]; omega
          have wt : wrap64 (Int.tmod x n + 1) = x % n + 1 := by rw [ht, w64 (by omega) (by omega)]
          obtain ⟨l', m', p', s', hE, g, q⟩ := hj2 x (x % n + 1) x0 (by omega) (fun h => mne h.symm) x1 (by omega)
          refine ⟨l', m', p', s', ev_succ ?_, g, q⟩
          simp only [spec_l03Net.j1, wt]
          refine ev_pos ?_ ?_
          · exact hg
          refine ev_neg ?_ ?_
          · omega
          · exact hE
        · obtain ⟨l', m', p', s', hE, g, q⟩ := hj2 x y x0 y0 hg x1 y1
          refine ⟨l', m', p', s', ev_succ ?_, g, q⟩
          simp only [spec_l03Net.j1]
          refine ev_neg ?_ ?_
          · exact hg
          · exact hE
      by_cases hin : (i : Int) + 1 < n
      · have k1 : 1 ≤ (i : Int) + 1 := by clear hj1 hj2 hj3 hend ih; omega
        have k2 : 1 ≤ (i : Int) + 2 := by clear hj1 hj2 hj3 hend ih; omega
        have k3 : (i : Int) + 1 ≤ n := by clear hj1 hj2 hj3 hend ih; omega
        have k4 : (i : Int) + 2 ≤ n := by clear hj1 hj2 hj3 hend ih; omega
        obtain ⟨l', m', p', s', hE, g, q⟩ := hj1 ((i : Int) + 1) ((i : Int) + 2) k1 k2 k3 k4
        exact ⟨l', m', p', s', l03Net_stepA i xs p s n v a b p1 s1 p2 s2 p3 s3 l _ h1 h2 h3 hi100 wnv hc hin hE, g, q⟩
      · have k1 : 1 ≤ 1 + a := by clear hj1 hj2 hj3 hend ih; omega
        have k2 : 1 ≤ 1 + b := by clear hj1 hj2 hj3 hend ih; omega
        have k3 : 1 + a ≤ n := by clear hj1 hj2 hj3 hend ih; omega
        have k4 : 1 + b ≤ n := by clear hj1 hj2 hj3 hend ih; omega
        obtain ⟨l', m', p', s', hE, g, q⟩ := hj1 (1 + a) (1 + b) k1 k2 k3 k4
        exact ⟨l', m', p', s', l03Net_stepB i xs p s n v a b p1 s1 p2 s2 p3 s3 l _ h1 h2 h3 hi100 wnv (w64one a a0 (by clear hj1 hj2 hj3 hend ih; omega)) (w64one b b0 (by clear hj1 hj2 hj3 hend ih; omega)) hc hin hE, g, q⟩
    · obtain ⟨l', m', p', s', hE, g, q⟩ := hend l p1 s1 hl hok hso hp1
      exact ⟨l', m', p', s', l03Net_stepC i xs p s n v p1 s1 l _ h1 wnv hc hE, g, q⟩
theorem drawRight_l1_ex (xs : List Int) (hx : xs.length ≤ 9223372036854775000) (n : Int) (l : List S93) (m : List S102) (n1 : n ≤ 6) (lb : List Bool) (d : Nat) : ∀ (i : Nat) (ub : List Bool) (p s : Int), (i : Int) + d = n ∨ d = 0 ∧ n ≤ i → ub.length ≤ i → i ≤ 7 → 0 ≤ p →
    ∃ ub', Ev (fun k => spec_DrawRightNet.l1 k lb ub i xs p s n l m) (n, l, m, lb, ub') := by
  induction d with
  | zero =>
    intro i ub p s hi hu hi7 hp
    refine ⟨ub, ev_succ ?_⟩
    simp only [spec_DrawRightNet.l1]
    exact ev_neg (by omega) (Ev.now _)
  | succ d ih =>
    intro i ub p s hi hu hi7 hp
    obtain ⟨y, p1, s1, h1, hp1⟩ := spec_l01Once_ex xs p s 8 hp hx (by omega) (by omega)
    obtain ⟨ub', hE⟩ := ih (i + 1) (ub ++ [!y]) p1 s1 (by omega) (by simp; omega) (by omega) hp1
    refine ⟨ub', ev_succ ?_⟩
    simp only [spec_DrawRightNet.l1, h1, Option.bind_some]
    rw [w64 (x := (i : Int) + 1) (by omega) (by omega)]
    exact ev_pos (by omega) (ev_pos (by omega) hE)
theorem drawRight_l0_ex (xs : List Int) (hx : xs.length ≤ 9223372036854775000) (n : Int) (l : List S93) (m : List S102) (n0 : 0 ≤ n) (n1 : n ≤ 6) (hl : l.length ≤ 12) (d : Nat) : ∀ (i : Nat) (lb : List Bool) (p s : Int), i + d = l.length → lb.length ≤ i → 0 ≤ p →
    ∃ lb' ub', Ev (fun k => spec_DrawRightNet.l0 k lb [] i xs p s n l m) (n, l, m, lb', ub') := by
  induction d with
  | zero =>
    intro i lb p s hi hu hp
    obtain ⟨ub', hE⟩ := drawRight_l1_ex xs hx n l m n1 lb n.toNat 0 [] p s (by omega) (by simp) (by omega) hp
    refine ⟨lb, ub', ev_succ ?_⟩
    simp only [spec_DrawRightNet.l0]
    exact ev_neg (by omega) hE
  | succ d ih =>
    intro i lb p s hi hu hp
    obtain ⟨y, p1, s1, h1, hp1⟩ := spec_l01Once_ex xs p s 6 hp hx (by omega) (by omega)
    obtain ⟨lb', ub', hE⟩ := ih (i + 1) (lb ++ [!y]) p1 s1 (by omega) (by simp; omega) hp1
    refine ⟨lb', ub', ev_succ ?_⟩
    simp only [spec_DrawRightNet.l0, h1, Option.bind_some]
    rw [w64 (x := (i : Int) + 1) (by omega) (by omega)]
    exact ev_pos (by omega) (ev_pos (by omega) hE)
theorem spec_DrawRightNet_ex (xs : List Int) (hx : xs.length ≤ 9223372036854775000) : ∃ n l m lb ub, Ev (fun k => spec_DrawRightNet.f k xs) (n, l, m, lb, ub) ∧ NetGood n l m := by
  obtain ⟨s0, hN⟩ := spec_l01New_ex xs hx
  obtain ⟨v, p1, s1, h1, v0, v1, hp1⟩ := spec_l01Below_ex xs 0 s0 4 (by omega) hx (by omega) (by omega)
  obtain ⟨l, m, p2, s2, hE, g, hp2⟩ := spec_l03Net_l0_ex xs hx (2 + v) (by omega) (by omega) 8 0 [] p1 s1 (by omega) (by simp) (by intro x hx; cases hx) List.Pairwise.nil hp1
  obtain ⟨lb, ub, hR⟩ := drawRight_l0_ex xs hx (2 + v) l m (by omega) (by omega) g.ll l.length 0 [] p2 s2 (by omega) (by simp) hp2
  refine ⟨2 + v, l, m, lb, ub, ?_, g⟩
  have hNet : Ev (fun k => spec_l03Net.f k xs 0 s0) (2 + v, l, m, p2, s2) := by
    unfold spec_l03Net.f
    simp only [h1, Option.bind_some]
    rw [w64 (x := 2 + v) (by omega) (by omega)]
    exact hE
  unfold spec_DrawRightNet.f
  exact Ev.bind hN (Ev.bind hNet hR)

/-- Is this the link? -/
def hitL (a b ar : Int) (x : S93) : Bool := decide (x.f3 = ar) && (decide (x.f0 = a ∧ x.f1 = b) || decide (x.f0 = b ∧ x.f1 = a))
theorem hitL_iff (a b ar : Int) (x : S93) : hitL a b ar x = true ↔ (x.f3 = ar ∧ (x.f0 = a ∧ x.f1 = b ∨ x.f0 = b ∧ x.f1 = a)) := by
  unfold hitL
  simp
def costGo (a b ar : Int) : List S93 → Int
  | [] => 0
  | x :: xs => if hitL a b ar x = true then x.f2 else costGo a b ar xs
def atGo (a b ar : Int) : List S93 → Int → Int
  | [], _ => -1
  | x :: xs, i => if hitL a b ar x = true then i else atGo a b ar xs (i + 1)
theorem atGo_cost (a b ar : Int) (xs : List S93) : ∀ i : Nat, (atGo a b ar xs i = -1 ∧ costGo a b ar xs = 0 ∧ ∀ x ∈ xs, hitL a b ar x = false) ∨ (∃ j : Nat, j < xs.length ∧ atGo a b ar xs i = i + j ∧ costGo a b ar xs = (xs.getD j z93).f2 ∧ hitL a b ar (xs.getD j z93) = true) := by
  induction xs with
  | nil => intro i; exact .inl ⟨rfl, rfl, by simp⟩
  | cons x xs ih =>
    intro i
    by_cases h : hitL a b ar x = true
    · refine .inr ⟨0, by simp, ?_, ?_, ?_⟩
      · rw [atGo, if_pos h]; omega
      · rw [costGo, if_pos h]; rfl
      · exact h
    · rw [atGo, costGo, if_neg h, if_neg h]
      rcases ih (i + 1) with ⟨h1, h2, h3⟩ | ⟨j, h1, h2, h3, h4⟩
      · refine .inl ⟨h1, h2, fun y hy => ?_⟩
        rcases List.mem_cons.1 hy with rfl | hy
        · simpa using h
        · exact h3 y hy
      · refine .inr ⟨j + 1, by simp only [List.length_cons]; omega, ?_, ?_, ?_⟩
        · have h2' : atGo a b ar xs ((i : Int) + 1) = ((i + 1 : Nat) : Int) + j := h2
          rw [h2']; omega
        · rw [h3]; rfl
        · exact h4

theorem impl_linkAt_l0_ev (a b ar : Int) (l : List S93) (hl : l.length ≤ 9223372036854775807) (d : Nat) : ∀ i : Nat, i + d = l.length →
    Ev (fun k => impl_linkAt.l0 k a b ar l (l.length : Int) i) (atGo a b ar (l.drop i) i) := by
  induction d with
  | zero =>
    intro i hi
    rw [List.drop_eq_nil_of_le (by omega)]
    apply ev_succ
    simp only [impl_linkAt.l0]
    exact ev_neg (by omega) (ev_some rfl)
  | succ d ih =>
    intro i hi
    have hr : Ev (fun k => impl_linkAt.l0 k a b ar l (l.length : Int) ((i : Int) + 1)) (atGo a b ar (l.drop (i + 1)) ((i : Int) + 1)) := ih (i + 1) (by omega)
    obtain ⟨x, hx⟩ : ∃ x, rd_T93 l (i : Int) = x := ⟨_, rfl⟩
    have hx2 : l.getD i z93 = x := hx
    rw [drop_at l z93 i (by omega), hx2]
    apply ev_succ
    simp only [impl_linkAt.l0, hx]
    rw [w64 (by omega) (by omega), atGo]
    refine ev_pos (by omega) (ev_pos (by omega) (ev_pos (by omega) ?_))
    have yes : hitL a b ar x = true → (i : Int) = (if hitL a b ar x = true then (i : Int) else atGo a b ar (l.drop (i + 1)) ((i : Int) + 1)) := fun h => by rw [if_pos h]
    have no : ¬ hitL a b ar x = true → atGo a b ar (l.drop (i + 1)) ((i : Int) + 1) = (if hitL a b ar x = true then (i : Int) else atGo a b ar (l.drop (i + 1)) ((i : Int) + 1)) := fun h => by rw [if_neg h]
    repeat' (first | refine ev_ite (fun h => ?_) (fun h => ?_))
    all_goals (first | exact ev_some (yes ((hitL_iff a b ar x).2 (by omega))) | exact ev_to hr (no (fun hh => by have := (hitL_iff a b ar x).1 hh; omega)))
theorem impl_linkAt_ev (n : Int) (l : List S93) (m : List S102) (a b ar : Int) (hl : l.length ≤ 9223372036854775807) : Ev (fun k => impl_linkAt.f k n l m a b ar) (atGo a b ar l 0) :=
  impl_linkAt_l0_ev a b ar l hl l.length 0 (by omega)

theorem impl_CostTo_ev (n : Int) (l : List S93) (m : List S102) (a b ar : Int) (hl : l.length ≤ 9223372036854775807) : Ev (fun k => impl_CostTo.f k n l m a b ar) (costGo a b ar l) := by
  unfold impl_CostTo.f
  refine Ev.bind (impl_linkAt_ev n l m a b ar hl) ?_
  rcases atGo_cost a b ar l 0 with ⟨h1, h2, _⟩ | ⟨j, h1, h2, h3, _⟩
  · have h1' : atGo a b ar l 0 = -1 := h1
    rw [h1', h2]
    exact ev_neg (by omega) (Ev.now _)
  · have h2' : atGo a b ar l 0 = (j : Int) := by have h := h2; simp only [Int.natCast_zero, Int.zero_add] at h; exact h
    rw [h2', h3]
    exact ev_pos (by omega) (ev_pos (by omega) (ev_pos (by omega) (Ev.now _)))

theorem impl_NetOk_l1_ev (n : Int) (l : List S93) (m : List S102) (hm : m.length ≤ 9223372036854775000) (d : Nat) : ∀ i : Nat, i + d = m.length →
    Ev (fun k => impl_NetOk.l1 k m (m.length : Int) i n l m) (thingsGo n (pvT m i) (m.drop i)) := by
  induction d with
  | zero =>
    intro i hi
    rw [List.drop_eq_nil_of_le (by omega)]
    apply ev_succ
    simp only [impl_NetOk.l1]
    exact ev_neg (by omega) (ev_some (by simp [thingsGo]))
  | succ d ih =>
    intro i hi
    have hr := ih (i + 1) (by omega)
    obtain ⟨x, hx⟩ : ∃ x, rd_T102 m (i : Int) = x := ⟨_, rfl⟩
    have hx2 : m.getD i z102 = x := hx
    rw [pvT_succ, hx2] at hr
    rw [drop_at m z102 i (by omega), hx2, thingsGo, okThing]
    apply ev_succ
    simp only [impl_NetOk.l1, hx, impl_in_eq, Option.bind_some, decide_eq_true_eq]
    rw [w64 (x := (i : Int) + 1) (by omega) (by omega)]
    refine ev_pos (by omega) (ev_pos (by omega) (ev_pos (by omega) ?_))
    refine ev_ite (fun h1 => ?_) (fun h1 => ev_some (by simp [h1]))
    refine ev_ite (fun h2 => ?_) (fun h2 => ev_some (by simp [h2]))
    refine ev_ite (fun h3 => ?_) (fun h3 => ev_some (by simp [h3]))
    refine ev_ite (fun h4 => ?_) (fun h4 => ?_)
    · have h0 : 0 < i := by omega
      have hp : pvT m i = some (m.getD (i - 1) z102) := by unfold pvT; rw [if_neg (by omega)]
      rw [hp]
      simp only [rdTp m i h0 (by omega), impl_less_eq, Option.bind_some]
      refine ev_pos (by rw [w64 (by omega) (by omega)]; omega) (ev_pos (by rw [w64 (by omega) (by omega)]; omega) ?_)
      refine ev_ite (fun h5 => ?_) (fun h5 => ev_some ?_)
      · exact ev_to hr (by rw [decide_eq_true h1, decide_eq_true h2, decide_eq_true h3]; simp only [Option.all_some, h5, Bool.true_and])
      · have h5' : lessB (m.getD (i - 1) z102) x = false := by simpa using h5
        simp only [Option.all_some, h5', Bool.and_false, Bool.false_and]
    · have h0 : i = 0 := by omega
      have hp : pvT m i = none := by rw [h0]; rfl
      rw [hp]
      exact ev_to hr (by simp [h1, h2, h3])
theorem impl_NetOk_l0_ev (n : Int) (l : List S93) (m : List S102) (hl : l.length ≤ 9223372036854775000) (hm : m.length ≤ 9223372036854775000) (d : Nat) : ∀ i : Nat, i + d = l.length →
    Ev (fun k => impl_NetOk.l0 k l (l.length : Int) i n l m) (linksGo n (pvK l i) (l.drop i) && thingsGo n none m) := by
  induction d with
  | zero =>
    intro i hi
    rw [List.drop_eq_nil_of_le (by omega)]
    apply ev_succ
    simp only [impl_NetOk.l0]
    exact ev_neg (by omega) (ev_to (impl_NetOk_l1_ev n l m hm m.length 0 (by omega)) (by simp [linksGo, pvT]))
  | succ d ih =>
    intro i hi
    have hr := ih (i + 1) (by omega)
    obtain ⟨x, hx⟩ : ∃ x, rd_T93 l (i : Int) = x := ⟨_, rfl⟩
    have hx2 : l.getD i z93 = x := hx
    rw [pvK_succ, hx2] at hr
    rw [drop_at l z93 i (by omega), hx2, linksGo]
    apply ev_succ
    simp only [impl_NetOk.l0, hx, impl_LinkOk_eq, Option.bind_some]
    rw [w64 (x := (i : Int) + 1) (by omega) (by omega)]
    refine ev_pos (by omega) (ev_pos (by omega) (ev_pos (by omega) ?_))
    refine ev_ite (fun h1 => ?_) (fun h1 => ev_some (by simp [h1]))
    refine ev_ite (fun h4 => ?_) (fun h4 => ?_)
    · have h0 : 0 < i := by omega
      have hp : pvK l i = some (l.getD (i - 1) z93) := by unfold pvK; rw [if_neg (by omega)]
      rw [hp]
      simp only [rdKp l i h0 (by omega), impl_ahead_eq, Option.bind_some]
      refine ev_pos (by rw [w64 (by omega) (by omega)]; omega) (ev_pos (by rw [w64 (by omega) (by omega)]; omega) ?_)
      refine ev_ite (fun h5 => ?_) (fun h5 => ev_some ?_)
      · exact ev_to hr (by simp only [Option.all_some, h1, h5, Bool.true_and])
      · have h5' : aheadB (l.getD (i - 1) z93) x = false := by simpa using h5
        simp only [Option.all_some, h5', Bool.and_false, Bool.false_and]
    · have h0 : i = 0 := by omega
      have hp : pvK l i = none := by rw [h0]; rfl
      rw [hp]
      exact ev_to hr (by simp [h1])
theorem impl_NetOk_ev (n : Int) (l : List S93) (m : List S102) (hl : l.length ≤ 9223372036854775000) (hm : m.length ≤ 9223372036854775000) : Ev (fun k => impl_NetOk.f k n l m) (netB n l m) := by
  have hL := impl_NetOk_l0_ev n l m hl hm l.length 0 (by omega)
  have hj : ∀ b : Bool, Ev (fun k => impl_NetOk.j0 k b n l m) (!b && (linksGo n none l && thingsGo n none m)) := by
    intro b
    apply ev_succ
    simp only [impl_NetOk.j0]
    refine ev_ite (fun h => ev_some (by simp [h])) (fun h => ev_to hL ?_)
    have h' : b = false := by simpa using h
    simp [h', pvK]
  unfold impl_NetOk.f netB
  simp only [impl_in_eq, Option.bind_some, decide_eq_true_eq]
  refine ev_ite (fun h1 => ?_) (fun h1 => ?_)
  · refine ev_ite (fun h2 => ?_) (fun h2 => ?_)
    · exact ev_to (hj true) (by simp [h2])
    · exact ev_to (hj _) (by rw [decide_eq_true h1, decide_eq_false h2]; simp)
  · exact ev_to (hj true) (by simp [h1])

theorem ex_cons {α : Type} (y : α) (t : List α) (P : α → Prop) : (∃ x, x ∈ y :: t ∧ P x) ↔ (P y ∨ ∃ x, x ∈ t ∧ P x) := by
  constructor
  · rintro ⟨x, h, hp⟩
    rcases List.mem_cons.1 h with rfl | h
    · exact .inl hp
    · exact .inr ⟨x, h, hp⟩
  · rintro (h | ⟨x, h, hp⟩)
    · exact ⟨y, List.mem_cons_self .., h⟩
    · exact ⟨x, List.mem_cons_of_mem _ h, hp⟩
theorem laws_in_l0_ev (l : List Int) (a : Int) (hl : l.length ≤ 100000) (d : Nat) : ∀ i : Nat, i + d = l.length → Ev (fun k => laws_in.l0 k l a i) (decide (a ∈ l.drop i)) := by
  induction d with
  | zero =>
    intro i hi
    rw [List.drop_eq_nil_of_le (by omega)]
    refine ev_succ ?_
    simp only [laws_in.l0]
    exact ev_neg (by omega) (ev_some (by simp))
  | succ d ih =>
    intro i hi
    have h := ih (i + 1) (by omega)
    obtain ⟨y, hy⟩ : ∃ y, rd l (i : Int) = y := ⟨_, rfl⟩
    have hy2 : l.getD i 0 = y := hy
    refine ev_succ ?_
    rw [drop_at l 0 i (by omega), hy2]
    simp only [laws_in.l0, hy]
    rw [w64 (x := (i : Int) + 1) (by omega) (by omega)]
    refine ev_pos (by omega) (ev_pos (by omega) ?_)
    by_cases hc : y = a
    · exact ev_pos hc (ev_some (by simp [hc]))
    · have hc2 : ¬ a = y := fun e => hc e.symm
      exact ev_neg hc (ev_to h (by simp [hc2]))
theorem laws_in_ev (l : List Int) (a : Int) (hl : l.length ≤ 100000) : Ev (fun k => laws_in.f k l a) (decide (a ∈ l)) := laws_in_l0_ev l a hl l.length 0 (by omega)
theorem impl_hasInt_l0_ev (l : List Int) (a : Int) (hl : l.length ≤ 100000) (d : Nat) : ∀ i : Nat, i + d = l.length → Ev (fun k => impl_hasInt.l0 k a l (l.length : Int) i) (decide (a ∈ l.drop i)) := by
  induction d with
  | zero =>
    intro i hi
    rw [List.drop_eq_nil_of_le (by omega)]
    refine ev_succ ?_
    simp only [impl_hasInt.l0]
    exact ev_neg (by omega) (ev_some (by simp))
  | succ d ih =>
    intro i hi
    have h := ih (i + 1) (by omega)
    obtain ⟨y, hy⟩ : ∃ y, rd l (i : Int) = y := ⟨_, rfl⟩
    have hy2 : l.getD i 0 = y := hy
    refine ev_succ ?_
    rw [drop_at l 0 i (by omega), hy2]
    simp only [impl_hasInt.l0, hy]
    rw [w64 (x := (i : Int) + 1) (by omega) (by omega)]
    refine ev_pos (by omega) (ev_pos (by omega) (ev_pos (by omega) ?_))
    by_cases hc : y = a
    · exact ev_pos hc (ev_some (by simp [hc]))
    · have hc2 : ¬ a = y := fun e => hc e.symm
      exact ev_neg hc (ev_to h (by simp [hc2]))
theorem impl_hasInt_ev (l : List Int) (a : Int) (hl : l.length ≤ 100000) : Ev (fun k => impl_hasInt.f k l a) (decide (a ∈ l)) := impl_hasInt_l0_ev l a hl l.length 0 (by omega)
theorem with_put (l : List Int) (n : Int) (i : Nat) (hi : i ≤ l.length) (hl : l.length ≤ 1000) : Ev (fun k => impl_with.j2 k l n i false) (l.take i ++ [n] ++ l.drop i) := by
  refine ev_succ ?_
  have hc : impl_copyInts.f (l.take i) = some (l.take i) := by
    unfold impl_copyInts.f
    rw [if_pos (by simp; omega)]
    simp
  simp only [impl_with.j2, Int.toNat_natCast, hc, Option.bind_some]
  exact ev_neg (by decide) (ev_pos (by omega) (ev_pos (by omega) (ev_pos (by simp; omega) (ev_pos (by simp; omega) (ev_some rfl)))))
theorem with_mem (l : List Int) (n : Int) (i : Nat) (u : Int) : u ∈ l.take i ++ [n] ++ l.drop i ↔ u ∈ l ∨ u = n := by
  have h : u ∈ l ↔ u ∈ l.take i ∨ u ∈ l.drop i := by rw [← List.mem_append, List.take_append_drop]
  rw [h, List.mem_append, List.mem_append, List.mem_singleton]
  by_cases a : u ∈ l.take i <;> by_cases b : u ∈ l.drop i <;> by_cases c : u = n <;> simp [a, b, c]
theorem with_l0_ev (l : List Int) (n : Int) (hl : l.length ≤ 1000) (d : Nat) : ∀ i : Nat, i + d = l.length → ∃ r, Ev (fun k => impl_with.l0 k l n i) r ∧ (∀ u, u ∈ r ↔ u ∈ l ∨ u = n) ∧ r.length ≤ l.length + 1 := by
  induction d with
  | zero =>
    intro i hi
    have hj := with_put l n i (by omega) hl
    refine ⟨_, ev_succ ?_, fun u => with_mem l n i u, by simp; omega⟩
    simp only [impl_with.l0]
    refine ev_neg (by omega) (ev_succ ?_)
    simp only [impl_with.j1]
    exact ev_neg (by omega) hj
  | succ d ih =>
    intro i hi
    obtain ⟨y, hy⟩ : ∃ y, rd l (i : Int) = y := ⟨_, rfl⟩
    have hy2 : l.getD i 0 = y := hy
    have hym : y ∈ l := by
      have h := drop_at l 0 i (by omega)
      rw [hy2] at h
      exact List.mem_of_mem_drop (i := i) (by rw [h]; exact List.mem_cons_self ..)
    by_cases hc : y < n
    · obtain ⟨r, hE, h1, h2⟩ := ih (i + 1) (by omega)
      refine ⟨r, ev_succ ?_, h1, h2⟩
      simp only [impl_with.l0, hy]
      rw [w64 (x := (i : Int) + 1) (by omega) (by omega)]
      exact ev_pos (by omega) (ev_pos (by omega) (ev_pos hc hE))
    · by_cases he : y = n
      · refine ⟨l, ev_succ ?_, fun u => ⟨fun h => .inl h, fun h => ?_⟩, by omega⟩
        · simp only [impl_with.l0, hy]
          refine ev_pos (by omega) (ev_pos (by omega) (ev_neg hc (ev_succ ?_)))
          simp only [impl_with.j1, hy]
          refine ev_pos (by omega) (ev_pos (by omega) (ev_succ ?_))
          have hb : (y == n) = true := by rw [he]; exact beq_self_eq_true n
          simp only [impl_with.j2, hb]
          exact ev_pos trivial (Ev.now _)
        · rcases h with h | h
          · exact h
          · rw [h, ← he]; exact hym
      · have hj := with_put l n i (by omega) hl
        have hb : (y == n) = false := by simpa using he
        refine ⟨_, ev_succ ?_, fun u => with_mem l n i u, by simp; omega⟩
        simp only [impl_with.l0, hy]
        refine ev_pos (by omega) (ev_pos (by omega) (ev_neg hc (ev_succ ?_)))
        simp only [impl_with.j1, hy, hb]
        exact ev_pos (by omega) (ev_pos (by omega) hj)
theorem with_ev (l : List Int) (n : Int) (hl : l.length ≤ 1000) : ∃ r, Ev (fun k => impl_with.f k l n) r ∧ (∀ u, u ∈ r ↔ u ∈ l ∨ u = n) ∧ r.length ≤ l.length + 1 := with_l0_ev l n hl l.length 0 (by omega)
theorem areas_l0_ev (l : List S93) (v : Int) (hl : l.length ≤ 12) (d : Nat) : ∀ (i : Nat) (acc : List Int), i + d = l.length → acc.length ≤ i →
    ∃ r, Ev (fun k => impl_AreasOf.l0 k v acc l (l.length : Int) i) r ∧ (∀ u, u ∈ r ↔ u ∈ acc ∨ ∃ x, x ∈ l.drop i ∧ ((x.f0 = v ∨ x.f1 = v) ∧ x.f3 = u)) ∧ r.length ≤ 12 := by
  induction d with
  | zero =>
    intro i acc hi ha
    refine ⟨acc, ev_succ ?_, fun u => ?_, by omega⟩
    · simp only [impl_AreasOf.l0]
      exact ev_neg (by omega) (Ev.now _)
    · rw [List.drop_eq_nil_of_le (by omega)]; simp
  | succ d ih =>
    intro i acc hi ha
    obtain ⟨y, hy⟩ : ∃ y, rd_T93 l (i : Int) = y := ⟨_, rfl⟩
    have hy2 : l.getD i z93 = y := hy
    rw [drop_at l z93 i (by omega), hy2]
    by_cases hc : y.f0 = v ∨ y.f1 = v
    · obtain ⟨t, hW, w1, w2⟩ := with_ev acc y.f3 (by omega)
      obtain ⟨r, hE, h1, h2⟩ := ih (i + 1) t (by omega) (by omega)
      refine ⟨r, ev_succ ?_, fun u => ?_, h2⟩
      · simp only [impl_AreasOf.l0, hy]
        rw [w64 (x := (i : Int) + 1) (by omega) (by omega)]
        refine ev_pos (by omega) (ev_pos (by omega) (ev_pos (by omega) ?_))
        refine ev_ite (fun q => Ev.bind hW hE) (fun q => ev_ite (fun q2 => Ev.bind hW hE) (fun q2 => ?_))
        exact absurd hc (by omega)
      · rw [h1, w1, ex_cons]
        by_cases q : u = y.f3
        · have q2 : y.f3 = u := q.symm
          simp [q2, hc]
        · have q2 : ¬ y.f3 = u := fun e => q e.symm
          simp [q, q2]
    · obtain ⟨r, hE, h1, h2⟩ := ih (i + 1) acc (by omega) (by omega)
      refine ⟨r, ev_succ ?_, fun u => ?_, h2⟩
      · simp only [impl_AreasOf.l0, hy]
        rw [w64 (x := (i : Int) + 1) (by omega) (by omega)]
        refine ev_pos (by omega) (ev_pos (by omega) (ev_pos (by omega) ?_))
        exact ev_neg (fun q => hc (.inl q)) (ev_neg (fun q => hc (.inr q)) hE)
      · rw [h1, ex_cons]
        simp [hc]
theorem areas_ev (n : Int) (l : List S93) (m : List S102) (v : Int) (hl : l.length ≤ 12) : ∃ r, Ev (fun k => impl_AreasOf.f k n l m v) r ∧ (∀ u, u ∈ r ↔ ∃ x, x ∈ l ∧ ((x.f0 = v ∨ x.f1 = v) ∧ x.f3 = u)) ∧ r.length ≤ 12 := by
  obtain ⟨r, hE, h1, h2⟩ := areas_l0_ev l v hl l.length 0 [] (by omega) (by simp)
  exact ⟨r, hE, fun u => by rw [h1]; simp, h2⟩
theorem near_l0_ev (l : List S93) (v ar : Int) (hl : l.length ≤ 12) (d : Nat) : ∀ (i : Nat) (acc : List Int), i + d = l.length → acc.length ≤ 2 * i →
    ∃ r, Ev (fun k => impl_NextTo.l0 k v ar acc l (l.length : Int) i) r ∧ (∀ u, u ∈ r ↔ u ∈ acc ∨ ∃ x, x ∈ l.drop i ∧ (x.f3 = ar ∧ (x.f0 = v ∧ x.f1 = u ∨ x.f0 = u ∧ x.f1 = v))) ∧ r.length ≤ 24 := by
  induction d with
  | zero =>
    intro i acc hi ha
    refine ⟨acc, ev_succ ?_, fun u => ?_, by omega⟩
    · simp only [impl_NextTo.l0]
      exact ev_neg (by omega) (Ev.now _)
    · rw [List.drop_eq_nil_of_le (by omega)]; simp
  | succ d ih =>
    intro i acc hi ha
    obtain ⟨y, hy⟩ : ∃ y, rd_T93 l (i : Int) = y := ⟨_, rfl⟩
    have hy2 : l.getD i z93 = y := hy
    rw [drop_at l z93 i (by omega), hy2]
    have pre : ∀ {g : Nat → Option (List Int)} {r : List Int}, Ev (fun k => if y.f3 = ar then (if y.f0 = v then ((impl_with.f k acc y.f1).bind fun t312 => (if y.f1 = v then ((impl_with.f k t312 y.f0).bind fun t315 => (impl_NextTo.l0 k v ar t315 l (l.length : Int) ((i : Int) + 1))) else (impl_NextTo.l0 k v ar t312 l (l.length : Int) ((i : Int) + 1)))) else (if y.f1 = v then ((impl_with.f k acc y.f0).bind fun t318 => (impl_NextTo.l0 k v ar t318 l (l.length : Int) ((i : Int) + 1))) else (impl_NextTo.l0 k v ar acc l (l.length : Int) ((i : Int) + 1)))) else (impl_NextTo.l0 k v ar acc l (l.length : Int) ((i : Int) + 1))) r → Ev (fun k => impl_NextTo.l0 k v ar acc l (l.length : Int) i) r := by
      intro g r h
      refine ev_succ ?_
      simp only [impl_NextTo.l0, hy]
      rw [w64 (x := (i : Int) + 1) (by omega) (by omega)]
      exact ev_pos (by omega) (ev_pos (by omega) (ev_pos (by omega) h))
    by_cases hc : y.f3 = ar
    · by_cases h0 : y.f0 = v
      · obtain ⟨t, hW, w1, w2⟩ := with_ev acc y.f1 (by omega)
        by_cases h1 : y.f1 = v
        · obtain ⟨t2, hW2, w3, w4⟩ := with_ev t y.f0 (by omega)
          obtain ⟨r, hE, e1, e2⟩ := ih (i + 1) t2 (by omega) (by omega)
          refine ⟨r, pre (g := fun _ => none) (ev_pos hc (ev_pos h0 (Ev.bind hW (ev_pos h1 (Ev.bind hW2 hE))))), fun u => ?_, e2⟩
          rw [e1, w3, w1, ex_cons]
          by_cases q : u = v
          · simp [q, hc, h0, h1]
          · have q2 : ¬ v = u := fun e => q e.symm
            simp [q, q2, h0, h1]
        · obtain ⟨r, hE, e1, e2⟩ := ih (i + 1) t (by omega) (by omega)
          refine ⟨r, pre (g := fun _ => none) (ev_pos hc (ev_pos h0 (Ev.bind hW (ev_neg h1 hE)))), fun u => ?_, e2⟩
          rw [e1, w1, ex_cons]
          by_cases q : u = y.f1
          · simp [q, hc, h0]
          · have q2 : ¬ y.f1 = u := fun e => q e.symm
            simp [q, q2, h1]
      · by_cases h1 : y.f1 = v
        · obtain ⟨t, hW, w1, w2⟩ := with_ev acc y.f0 (by omega)
          obtain ⟨r, hE, e1, e2⟩ := ih (i + 1) t (by omega) (by omega)
          refine ⟨r, pre (g := fun _ => none) (ev_pos hc (ev_neg h0 (ev_pos h1 (Ev.bind hW hE)))), fun u => ?_, e2⟩
          rw [e1, w1, ex_cons]
          by_cases q : u = y.f0
          · simp [q, hc, h1]
          · have q2 : ¬ y.f0 = u := fun e => q e.symm
            simp [q, q2, h0]
        · obtain ⟨r, hE, e1, e2⟩ := ih (i + 1) acc (by omega) (by omega)
          refine ⟨r, pre (g := fun _ => none) (ev_pos hc (ev_neg h0 (ev_neg h1 hE))), fun u => ?_, e2⟩
          rw [e1, ex_cons]
          simp [h0, h1]
    · obtain ⟨r, hE, e1, e2⟩ := ih (i + 1) acc (by omega) (by omega)
      refine ⟨r, pre (g := fun _ => none) (ev_neg hc hE), fun u => ?_, e2⟩
      rw [e1, ex_cons]
      simp [hc]
theorem near_ev (n : Int) (l : List S93) (m : List S102) (v ar : Int) (hl : l.length ≤ 12) : ∃ r, Ev (fun k => impl_NextTo.f k n l m v ar) r ∧ (∀ u, u ∈ r ↔ ∃ x, x ∈ l ∧ hitL v u ar x = true) ∧ r.length ≤ 24 := by
  obtain ⟨r, hE, h1, h2⟩ := near_l0_ev l v ar hl l.length 0 [] (by omega) (by simp)
  exact ⟨r, hE, fun u => by rw [h1]; simp only [hitL_iff]; simp, h2⟩
theorem hitL_comm (a b ar : Int) (x : S93) : hitL a b ar x = hitL b a ar x := by
  rw [Bool.eq_iff_iff, hitL_iff, hitL_iff]; omega
theorem costGo_comm (a b ar : Int) (l : List S93) : costGo a b ar l = costGo b a ar l := by
  induction l with
  | nil => rfl
  | cons x l ih => rw [costGo, costGo, hitL_comm, ih]
theorem okLink_facts {n : Int} {x : S93} (h : okLink n x = true) : 1 ≤ x.f0 ∧ x.f0 ≤ n ∧ 1 ≤ x.f1 ∧ x.f1 ≤ n ∧ x.f0 < x.f1 ∧ 1 ≤ x.f2 ∧ x.f2 ≤ 1000 ∧ 0 ≤ x.f3 ∧ x.f3 ≤ 2 := by
  unfold okLink at h
  simp only [Bool.and_eq_true, decide_eq_true_eq] at h
  omega
theorem costGo_pos (n a b ar : Int) (l : List S93) (hok : ∀ x ∈ l, okLink n x = true) : 0 < costGo a b ar l ↔ ∃ x, x ∈ l ∧ hitL a b ar x = true := by
  induction l with
  | nil => simp [costGo]
  | cons x l ih =>
    rw [costGo, ex_cons]
    have hx := okLink_facts (hok x (List.mem_cons_self ..))
    have h := ih (fun y hy => hok y (List.mem_cons_of_mem _ hy))
    by_cases hc : hitL a b ar x = true
    · rw [if_pos hc]
      exact ⟨fun _ => .inl hc, fun _ => by omega⟩
    · rw [if_neg hc, h]
      exact ⟨fun h => .inr h, fun h => h.resolve_left hc⟩
theorem costGo_self (n : Int) (l : List S93) (hok : ∀ x ∈ l, okLink n x = true) (hso : l.Pairwise (fun a b => aheadB a b = true)) (x : S93) (hx : x ∈ l) : costGo x.f0 x.f1 x.f3 l = x.f2 := by
  induction l with
  | nil => cases hx
  | cons y l ih =>
    have hp := List.pairwise_cons.1 hso
    have h := ih (fun z hz => hok z (List.mem_cons_of_mem _ hz)) hp.2
    rw [costGo]
    rcases List.mem_cons.1 hx with he | hm
    · rw [he, if_pos ((hitL_iff _ _ _ _).2 ⟨rfl, .inl ⟨rfl, rfl⟩⟩)]
    · have ha := hp.1 x hm
      have hxo := okLink_facts (hok x hx)
      have hyo := okLink_facts (hok y (List.mem_cons_self ..))
      simp only [aheadB, decide_eq_true_eq] at ha
      rw [if_neg (fun hh => by have := (hitL_iff _ _ _ _).1 hh; omega)]
      exact h hm
theorem bne_of_iff {p q : Prop} [Decidable p] [Decidable q] (h : p ↔ q) : ¬ (decide p != decide q) = true := by
  by_cases hp : p
  · have hq := h.1 hp
    rw [decide_eq_true hp, decide_eq_true hq]; decide
  · have hq : ¬ q := fun q => hp (h.2 q)
    rw [decide_eq_false hp, decide_eq_false hq]; decide
theorem nets_l2_ev {n : Int} {l : List S93} {m : List S102} (g : NetGood n l m) (v a : Int) (areas near : List Int) (hnl : near.length ≤ 24) (hn : ∀ u, u ∈ near ↔ ∃ x, x ∈ l ∧ hitL v u a x = true)
    (hK : Ev (fun k => laws_FnNets.l1 k v areas (wrap64 (a + 1)) n l m) true) (d : Nat) : ∀ u : Int, 0 ≤ u → u + d = n + 1 → Ev (fun k => laws_FnNets.l2 k v areas a near u n l m) true := by
  have n0 := g.n0
  have n1 := g.n1
  have ll := g.ll
  induction d with
  | zero =>
    intro u u0 hu
    refine ev_succ ?_
    simp only [laws_FnNets.l2]
    exact ev_neg (by omega) hK
  | succ d ih =>
    intro u u0 hu
    have h := ih (u + 1) (by omega) (by omega)
    have c1 := impl_CostTo_ev n l m v u a (by omega)
    have c2 := impl_CostTo_ev n l m u v a (by omega)
    rw [costGo_comm u v a l] at c2
    have hi := laws_in_ev near u (by omega)
    have hb : ¬ (decide (costGo v u a l > 0) != decide (u ∈ near)) = true := bne_of_iff ((costGo_pos n v u a l g.lok).trans (hn u).symm)
    refine ev_succ ?_
    simp only [laws_FnNets.l2]
    rw [w64 (x := u + 1) (by omega) (by omega)]
    exact ev_pos (by omega) (Ev.bind c1 (Ev.bind c2 (ev_pos rfl (Ev.bind hi (ev_neg hb h)))))
theorem nets_l1_ev {n : Int} {l : List S93} {m : List S102} (g : NetGood n l m) (v : Int) (areas : List Int) (hal : areas.length ≤ 12) (ha : ∀ u, u ∈ areas ↔ ∃ x, x ∈ l ∧ ((x.f0 = v ∨ x.f1 = v) ∧ x.f3 = u))
    (hK : Ev (fun k => laws_FnNets.l0 k (wrap64 (v + 1)) n l m) true) (d : Nat) : ∀ a : Int, 0 ≤ a → a + d = 3 → Ev (fun k => laws_FnNets.l1 k v areas a n l m) true := by
  have n0 := g.n0
  have n1 := g.n1
  have ll := g.ll
  induction d with
  | zero =>
    intro a a0 hu
    refine ev_succ ?_
    simp only [laws_FnNets.l1]
    exact ev_neg (by omega) hK
  | succ d ih =>
    intro a a0 hu
    have h := ih (a + 1) (by omega) (by omega)
    obtain ⟨near, hE, hn, hnl⟩ := near_ev n l m v a (by omega)
    have hi := laws_in_ev areas a (by omega)
    have hw : wrap64 (a + 1) = a + 1 := w64 (by omega) (by omega)
    have hl2 := nets_l2_ev g v a areas near hnl hn (by rw [hw]; exact h) n.toNat 1 (by omega) (by omega)
    have hiff : a ∈ areas ↔ (near.length : Int) > 0 := by
      rw [ha]
      constructor
      · rintro ⟨x, hx, h1, h2⟩
        have : ∃ u, u ∈ near := by
          rcases h1 with h1 | h1
          · exact ⟨x.f1, (hn _).2 ⟨x, hx, (hitL_iff _ _ _ _).2 ⟨h2, .inl ⟨h1, rfl⟩⟩⟩⟩
          · exact ⟨x.f0, (hn _).2 ⟨x, hx, (hitL_iff _ _ _ _).2 ⟨h2, .inr ⟨rfl, h1⟩⟩⟩⟩
        obtain ⟨u, hu⟩ := this
        have := List.length_pos_of_mem hu
        omega
      · intro h
        have : ∃ u, u ∈ near := by
          cases near with
          | nil => simp at h
          | cons u t => exact ⟨u, List.mem_cons_self ..⟩
        obtain ⟨u, hu⟩ := this
        obtain ⟨x, hx, hh⟩ := (hn u).1 hu
        have := (hitL_iff _ _ _ _).1 hh
        exact ⟨x, hx, by omega, this.1⟩
    refine ev_succ ?_
    simp only [laws_FnNets.l1]
    exact ev_pos (by omega) (Ev.bind hE (Ev.bind hi (ev_neg (bne_of_iff hiff) hl2)))
theorem border_ev (n : Int) (l : List S93) (m : List S102) (v : Int) (areas : List Int) (hal : areas.length ≤ 12) (hA : Ev (fun k => impl_AreasOf.f k n l m v) areas) : Ev (fun k => impl_Border.f k n l m v) (if decide ((0 : Int) ∈ areas) = true then decide ((areas.length : Int) > 1) else false) := by
  unfold impl_Border.f
  refine Ev.bind hA (Ev.bind (impl_hasInt_ev areas 0 (by omega)) ?_)
  refine ev_ite (fun h => ?_) (fun h => ?_)
  · rw [if_pos h]; exact Ev.now _
  · rw [if_neg h]; exact Ev.now _
theorem nets_l0_ev {n : Int} {l : List S93} {m : List S102} (g : NetGood n l m) (hK : Ev (fun k => laws_FnNets.l3 k 0 n l m) true) (d : Nat) : ∀ v : Int, 0 ≤ v → v + d = n + 1 → Ev (fun k => laws_FnNets.l0 k v n l m) true := by
  have n0 := g.n0
  have n1 := g.n1
  have ll := g.ll
  induction d with
  | zero =>
    intro v v0 hv
    refine ev_succ ?_
    simp only [laws_FnNets.l0]
    exact ev_neg (by omega) hK
  | succ d ih =>
    intro v v0 hv
    have h := ih (v + 1) (by omega) (by omega)
    have hw : wrap64 (v + 1) = v + 1 := w64 (by omega) (by omega)
    obtain ⟨areas, hA, ha, hal⟩ := areas_ev n l m v (by omega)
    have hB := border_ev n l m v areas hal hA
    have hi := laws_in_ev areas 0 (by omega)
    have hl1 := nets_l1_ev g v areas hal ha (by rw [hw]; exact h) 3 0 (by omega) (by omega)
    have hj : Ev (fun k => laws_FnNets.j1 k v areas false n l m) true := by
      refine ev_succ ?_
      simp only [laws_FnNets.j1]
      exact ev_neg (by decide) hl1
    refine ev_succ ?_
    simp only [laws_FnNets.l0]
    refine ev_pos (by omega) (Ev.bind hA (Ev.bind hB (Ev.bind hi ?_)))
    refine ev_ite (fun q => ?_) (fun q => ?_)
    · rw [if_pos q, bne_self_eq_false]; exact hj
    · rw [if_neg q, bne_self_eq_false]; exact hj
theorem nets_l3_ev {n : Int} {l : List S93} {m : List S102} (g : NetGood n l m) (d : Nat) : ∀ i : Nat, i + d = l.length → Ev (fun k => laws_FnNets.l3 k i n l m) true := by
  have n0 := g.n0
  have n1 := g.n1
  have ll := g.ll
  induction d with
  | zero =>
    intro i hi
    refine ev_succ ?_
    have hk := impl_LinkOk_eq n (⟨2, 1, 1, 0⟩ : S93)
    have hf : okLink n (⟨2, 1, 1, 0⟩ : S93) = false := by
      unfold okLink; simp
    rw [hf] at hk
    have hk2 : impl_LinkOk.f n 2 1 1 0 = some false := hk
    simp only [laws_FnNets.l3, hk2, Option.bind_some]
    exact ev_neg (by omega) (ev_some rfl)
  | succ d ih =>
    intro i hi
    have h := ih (i + 1) (by omega)
    obtain ⟨y, hy⟩ : ∃ y, rd_T93 l (i : Int) = y := ⟨_, rfl⟩
    have hy2 : l.getD i z93 = y := hy
    have hym : y ∈ l := by
      have h := drop_at l z93 i (by omega)
      rw [hy2] at h
      exact List.mem_of_mem_drop (i := i) (by rw [h]; exact List.mem_cons_self ..)
    have hk := impl_LinkOk_eq n y
    rw [g.lok y hym] at hk
    have hc := impl_CostTo_ev n l m y.f0 y.f1 y.f3 (by omega)
    rw [costGo_self n l g.lok g.lso y hym] at hc
    refine ev_succ ?_
    simp only [laws_FnNets.l3, hy, hk, Option.bind_some]
    rw [w64 (x := (i : Int) + 1) (by omega) (by omega)]
    exact ev_pos (by omega) (ev_pos (by omega) (ev_pos trivial (Ev.bind hc (ev_pos rfl h))))
theorem FnNets : ∀ (l0 : List Int), (l0.length ≤ 9223372036854775807) → ∃ k, laws_FnNets.f k l0 = some true := by
  intro xs hm
  refine ev_ex ?_
  unfold laws_FnNets.f laws_big.f
  simp only [Option.bind_some]
  refine ev_ite (fun _ => Ev.now _) (fun h => ?_)
  have hx : xs.length ≤ 9223372036854775000 := by rw [decide_eq_true_eq] at h; omega
  obtain ⟨n, l, m, lb, ub, hD, g⟩ := spec_DrawRightNet_ex xs hx
  have n0 := g.n0
  have n1 := g.n1
  have ll := g.ll
  have ml := g.ml
  have hN := impl_NetOk_ev n l m (by omega) (by omega)
  rw [g.netB] at hN
  exact Ev.bind hD (Ev.bind hN (ev_pos rfl (nets_l0_ev g (nets_l3_ev g l.length 0 (by omega)) n.toNat 1 (by omega) (by omega))))

end Go.Proofs.Ythjmdiggglkeaaa.Pure
