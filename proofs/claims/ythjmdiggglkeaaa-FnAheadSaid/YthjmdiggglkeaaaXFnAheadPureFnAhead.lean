import Derived.Test.YthjmdiggglkeaaaXFnAheadQlawsFnAhead
/- Proved: the pure statement of the law FnAhead, for every input that its statement lets in. -/

set_option linter.unusedVariables false
set_option linter.unusedSimpArgs false
namespace Go.Proofs.Ythjmdiggglkeaaa.Pure
open Go.RowKit Go.Proofs.Ythjmdiggglkeaaa.Q Go.Proofs.YthjmdiggglkeaaaW.PrintWords Go.Proofs.YthjmdiggglkeaaaW.PrintLast

theorem w64 {x : Int} (h0 : -9223372036854775808 ≤ x) (h1 : x ≤ 9223372036854775807) : wrap64 x = x := by unfold wrap64; omega
theorem tmodp {x m : Int} (h : 0 ≤ x) : Int.tmod x m = x % m := Int.tmod_eq_emod_of_nonneg h
theorem ev_ex {α : Type} {g : Nat → Option α} {r : α} (h : Ev g r) : ∃ k, g k = some r := h.rounds

theorem and255 (x : Int) : 0 ≤ Go.bits .and .i64 x 255 ∧ Go.bits .and .i64 x 255 < 256 := by
  have h : ((BitVec.ofInt 64 x) &&& (BitVec.ofInt 64 255)).toNat ≤ 255 := by
    rw [BitVec.toNat_and]
    exact Nat.le_trans Nat.and_le_right (by decide)
  have e : Go.bits .and .i64 x 255 = IntKind.i64.wrap ((((BitVec.ofInt 64 x) &&& (BitVec.ofInt 64 255)).toNat : Nat) : Int) := rfl
  rw [e, IntKind.wrap_i64]
  omega

theorem ev_ite {α : Type} {c : Prop} [Decidable c] {g f : Nat → Option α} {r : α} (h : c → Ev g r) (k : ¬ c → Ev f r) : Ev (fun n => if c then g n else f n) r := by
  by_cases hc : c
  · exact Ev.congr (fun n => by rw [if_pos hc]) (h hc)
  · exact Ev.congr (fun n => by rw [if_neg hc]) (k hc)
theorem ev_pos {α : Type} {c : Prop} [Decidable c] {g f : Nat → Option α} {r : α} (hc : c) (h : Ev g r) : Ev (fun n => if c then g n else f n) r := Ev.congr (fun n => by rw [if_pos hc]) h
theorem ev_neg {α : Type} {c : Prop} [Decidable c] {g f : Nat → Option α} {r : α} (hc : ¬ c) (h : Ev f r) : Ev (fun n => if c then g n else f n) r := Ev.congr (fun n => by rw [if_neg hc]) h
theorem ev_succ {α : Type} {g : Nat → Option α} {r : α} (h : Ev (fun k => g (k + 1)) r) : Ev g r := Ev.step (fun _ => rfl) h
/-- What is drawn: the place in the bytes stays at 0 or more, what comes is in its bounds. -/
theorem spec_l01Byte_ex (xs : List Int) (p s : Int) (hp : 0 ≤ p) (hx : xs.length ≤ 9223372036854775000) : ∃ v p' s', spec_l01Byte.f xs p s = some (v, p', s') ∧ 0 ≤ v ∧ v < 256 ∧ 0 ≤ p' := by
  unfold spec_l01Byte.f
  by_cases h : p < (xs.length : Int)
  · rw [if_pos h, if_pos hp]
    refine ⟨_, _, _, rfl, (and255 _).1, (and255 _).2, ?_⟩
    rw [w64 (by omega) (by omega)]
    omega
  · rw [if_neg h]
    exact ⟨_, _, _, rfl, (and255 _).1, (and255 _).2, hp⟩
theorem spec_l01Below_ex (xs : List Int) (p s n : Int) (hp : 0 ≤ p) (hx : xs.length ≤ 9223372036854775000) (h1 : 1 ≤ n) (h2 : n ≤ 256) : ∃ v p' s', spec_l01Below.f xs p s n = some (v, p', s') ∧ 0 ≤ v ∧ v < n ∧ 0 ≤ p' := by
  obtain ⟨v, p', s', h, h3, h4, h5⟩ := spec_l01Byte_ex xs p s hp hx
  unfold spec_l01Below.f
  rw [if_neg (by omega), if_pos h2, h, Option.bind_some, if_neg (by omega)]
  refine ⟨_, _, _, rfl, ?_, ?_, h5⟩
  · rw [tmodp h3]; exact Int.emod_nonneg _ (by omega)
  · rw [tmodp h3]; exact Int.emod_lt_of_pos _ (by omega)
theorem spec_l01Once_ex (xs : List Int) (p s n : Int) (hp : 0 ≤ p) (hx : xs.length ≤ 9223372036854775000) (h1 : 1 ≤ n) (h2 : n ≤ 256) : ∃ b p' s', spec_l01Once.f xs p s n = some (b, p', s') ∧ 0 ≤ p' := by
  obtain ⟨v, p', s', h, _, _, h5⟩ := spec_l01Below_ex xs p s n hp hx h1 h2
  unfold spec_l01Once.f
  rw [h, Option.bind_some]
  exact ⟨_, _, _, rfl, h5⟩
theorem spec_l01PickInt_ex (xs : List Int) (p s : Int) (l : List Int) (hp : 0 ≤ p) (hx : xs.length ≤ 9223372036854775000) (h1 : 1 ≤ l.length) (h2 : l.length ≤ 256) : ∃ v p' s', spec_l01PickInt.f xs p s l = some (v, p', s') ∧ 0 ≤ p' := by
  obtain ⟨v, p', s', h, h3, h4, h5⟩ := spec_l01Below_ex xs p s l.length hp hx (by omega) (by omega)
  unfold spec_l01PickInt.f
  rw [h, Option.bind_some, if_pos h3, if_pos h4]
  exact ⟨_, _, _, rfl, h5⟩
theorem spec_l01New_l0_ex (xs : List Int) (hx : xs.length ≤ 9223372036854775000) (d : Nat) : ∀ (i : Nat) (s : Int), i + d = xs.length → ∃ s', Ev (fun k => spec_l01New.l0 k xs s i) (xs, 0, s') := by
  induction d with
  | zero =>
    intro i s hi
    refine ⟨s, ev_succ ?_⟩
    simp only [spec_l01New.l0]
    exact ev_neg (by omega) (Ev.now _)
  | succ d ih =>
    intro i s hi
    obtain ⟨s', h⟩ := ih (i + 1) _ (by omega)
    by_cases h4 : (i : Int) < 4000
    · refine ⟨s', ev_succ ?_⟩
      simp only [spec_l01New.l0]
      rw [w64 (x := (i : Int) + 1) (by omega) (by omega)]
      exact ev_pos (by omega) (ev_pos h4 (ev_pos (by omega) h))
    · refine ⟨s, ev_succ ?_⟩
      simp only [spec_l01New.l0]
      exact ev_pos (by omega) (ev_neg h4 (Ev.now _))
theorem spec_l01New_ex (xs : List Int) (hx : xs.length ≤ 9223372036854775000) : ∃ s', Ev (fun k => spec_l01New.f k xs) (xs, 0, s') := spec_l01New_l0_ex xs hx xs.length 0 _ (by omega)

-- toNear
/-! Near: lists -/
theorem spec_l04Record_l0_ex (xs : List Int) (hx : xs.length ≤ 9223372036854775000) (a b c e f g : Int) (fl : Bool) (d : Nat) : ∀ (i : Nat) (p s : Int) (nr : List S127), i + d = 7 → nr.length ≤ i → 0 ≤ p →
    ∃ nr' p' s', Ev (fun k => spec_l04Record.l0 k i xs p s a b c e f nr g fl) (a, b, c, e, f, nr', g, fl, p', s') ∧ nr'.length ≤ 7 ∧ 0 ≤ p' := by
  induction d with
  | zero =>
    intro i p s nr hi hn hp
    refine ⟨nr, p, s, ev_succ ?_, by omega, hp⟩
    simp only [spec_l04Record.l0]
    exact ev_neg (by omega) (Ev.now _)
  | succ d ih =>
    intro i p s nr hi hn hp
    by_cases hc : (i : Int) = c
    · obtain ⟨nr', p', s', h, h1, h2⟩ := ih (i + 1) p s nr (by omega) (by omega) hp
      refine ⟨nr', p', s', ev_succ ?_, h1, h2⟩
      simp only [spec_l04Record.l0]
      rw [w64 (x := (i : Int) + 1) (by omega) (by omega)]
      exact ev_pos (by omega) (ev_pos hc h)
    · obtain ⟨y, p1, s1, h1, hp1⟩ := spec_l01Once_ex xs p s 3 hp hx (by omega) (by omega)
      by_cases hy : y = true
      · obtain ⟨v, p2, s2, h2, _, _, hp2⟩ := spec_l01Below_ex xs p1 s1 4 hp1 hx (by omega) (by omega)
        obtain ⟨nr', p', s', h, h3, h4⟩ := ih (i + 1) p2 s2 (nr ++ [⟨(i : Int), wrap64 (1 + v)⟩]) (by omega) (by simp; omega) hp2
        refine ⟨nr', p', s', ev_succ ?_, h3, h4⟩
        simp only [spec_l04Record.l0, h1, h2, Option.bind_some]
        rw [w64 (x := (i : Int) + 1) (by omega) (by omega)]
        exact ev_pos (by omega) (ev_neg hc (ev_pos hy (ev_pos (by omega) h)))
      · obtain ⟨nr', p', s', h, h3, h4⟩ := ih (i + 1) p1 s1 nr (by omega) (by omega) hp1
        refine ⟨nr', p', s', ev_succ ?_, h3, h4⟩
        simp only [spec_l04Record.l0, h1, Option.bind_some]
        rw [w64 (x := (i : Int) + 1) (by omega) (by omega)]
        exact ev_pos (by omega) (ev_neg hc (ev_neg hy h))
theorem spec_l04Record_ex (xs : List Int) (p s : Int) (hp : 0 ≤ p) (hx : xs.length ≤ 9223372036854775000) : ∃ (r : S61) (p' s' : Int), Ev (fun k => spec_l04Record.f k xs p s) (r.f0, r.f1, r.f2, r.f3, r.f4, r.f5, r.f6, r.f7, p', s') ∧ r.f5.length ≤ 7 ∧ 0 ≤ p' := by
  obtain ⟨v1, p1, s1, h1, _, _, hp1⟩ := spec_l01Below_ex xs p s 3 hp hx (by omega) (by omega)
  obtain ⟨v2, p2, s2, h2, _, _, hp2⟩ := spec_l01Below_ex xs p1 s1 4 hp1 hx (by omega) (by omega)
  obtain ⟨v3, p3, s3, h3, _, _, hp3⟩ := spec_l01Below_ex xs p2 s2 3 hp2 hx (by omega) (by omega)
  obtain ⟨v4, p4, s4, h4, _, _, hp4⟩ := spec_l01Below_ex xs p3 s3 5 hp3 hx (by omega) (by omega)
  unfold spec_l04Record.f
  simp only [h1, h2, h3, h4, Option.bind_some]
  by_cases c1 : wrap64 (1 + v1) = 1
  · obtain ⟨nr', p', s', h, h5, h6⟩ := spec_l04Record_l0_ex xs hx v3 (wrap64 (1 + v1)) (wrap64 (1 + v2)) 0 (wrap64 (1 + v4)) 0 false 6 1 p4 s4 [] (by omega) (by simp) hp4
    exact ⟨⟨_, _, _, _, _, nr', _, _⟩, p', s', ev_pos c1 h, h5, h6⟩
  · by_cases c2 : wrap64 (1 + v1) = 2
    · obtain ⟨v5, p5, s5, h5, _, _, hp5⟩ := spec_l01Below_ex xs p4 s4 5 hp4 hx (by omega) (by omega)
      obtain ⟨v6, p6, s6, h6, hp6⟩ := spec_l01PickInt_ex xs p5 s5 [0, 1, 2, 5, 60000] hp5 hx (by decide) (by decide)
      simp only [h5, h6, Option.bind_some]
      exact ⟨⟨_, _, _, _, _, [], _, _⟩, p6, s6, ev_neg c1 (ev_pos c2 (Ev.now _)), by simp, hp6⟩
    · by_cases c3 : wrap64 (1 + v1) = 3
      · obtain ⟨v5, p5, s5, h5, _, _, hp5⟩ := spec_l01Below_ex xs p4 s4 3 hp4 hx (by omega) (by omega)
        obtain ⟨v6, p6, s6, h6, hp6⟩ := spec_l01PickInt_ex xs p5 s5 [1, 2, 5, 60000] hp5 hx (by decide) (by decide)
        obtain ⟨v7, p7, s7, h7, hp7⟩ := spec_l01Once_ex xs p6 s6 2 hp6 hx (by omega) (by omega)
        simp only [h5, h6, h7, Option.bind_some]
        exact ⟨⟨_, _, _, _, _, [], _, _⟩, p7, s7, ev_neg c1 (ev_neg c2 (ev_pos c3 (Ev.now _))), by simp, hp7⟩
      · exact ⟨⟨_, _, _, _, _, [], _, _⟩, p4, s4, ev_neg c1 (ev_neg c2 (ev_neg c3 (Ev.now _))), by simp, hp4⟩

/-- Any record, drawn. -/
theorem spec_l04Any_ex (xs : List Int) (p s : Int) (hp : 0 ≤ p) (hx : xs.length ≤ 9223372036854775000) : ∃ (r : S61) (p' s' : Int), Ev (fun k => spec_l04Any.f k xs p s) (r.f0, r.f1, r.f2, r.f3, r.f4, r.f5, r.f6, r.f7, p', s') ∧ r.f5.length ≤ 8 ∧ 0 ≤ p' := by
  obtain ⟨r, p1, s1, h1, hl, hp1⟩ := spec_l04Record_ex xs p s hp hx
  obtain ⟨v, p2, s2, h2, _, _, hp2⟩ := spec_l01Below_ex xs p1 s1 30 hp1 hx (by omega) (by omega)
  have pick : ∀ l : List Int, 1 ≤ l.length → l.length ≤ 256 → ∃ v p' s', spec_l01PickInt.f xs p2 s2 l = some (v, p', s') ∧ 0 ≤ p' := fun l a b => spec_l01PickInt_ex xs p2 s2 l hp2 hx a b
  unfold spec_l04Any.f
  by_cases c0 : v = 0
  · obtain ⟨u, p3, s3, h3, hp3⟩ := pick [(-1), 3, 9, 0] (by decide) (by decide)
    refine ⟨⟨u, r.f1, r.f2, r.f3, r.f4, r.f5, r.f6, r.f7⟩, p3, s3, Ev.bind h1 ?_, by simp only; omega, hp3⟩
    simp only [h2, h3, Option.bind_some]
    exact ev_pos c0 (Ev.now _)
  by_cases c1 : v = 1
  · obtain ⟨u, p3, s3, h3, hp3⟩ := pick [0, 1, 2, 3, 4] (by decide) (by decide)
    refine ⟨⟨r.f0, u, r.f2, r.f3, r.f4, r.f5, r.f6, r.f7⟩, p3, s3, Ev.bind h1 ?_, by simp only; omega, hp3⟩
    simp only [h2, h3, Option.bind_some]
    exact ev_neg c0 (ev_pos c1 (Ev.now _))
  by_cases c2 : v = 2
  · obtain ⟨u, p3, s3, h3, hp3⟩ := pick [0, 6, 7] (by decide) (by decide)
    refine ⟨⟨r.f0, r.f1, u, r.f3, r.f4, r.f5, r.f6, r.f7⟩, p3, s3, Ev.bind h1 ?_, by simp only; omega, hp3⟩
    simp only [h2, h3, Option.bind_some]
    exact ev_neg c0 (ev_neg c1 (ev_pos c2 (Ev.now _)))
  by_cases c3 : v = 3
  · obtain ⟨u, p3, s3, h3, hp3⟩ := pick [(-1), 0, 6, 7, 9, 10] (by decide) (by decide)
    refine ⟨⟨r.f0, r.f1, r.f2, u, r.f4, r.f5, r.f6, r.f7⟩, p3, s3, Ev.bind h1 ?_, by simp only; omega, hp3⟩
    simp only [h2, h3, Option.bind_some]
    exact ev_neg c0 (ev_neg c1 (ev_neg c2 (ev_pos c3 (Ev.now _))))
  by_cases c4 : v = 4
  · obtain ⟨u, p3, s3, h3, hp3⟩ := pick [0, (-1), 100000, 100001] (by decide) (by decide)
    refine ⟨⟨r.f0, r.f1, r.f2, r.f3, u, r.f5, r.f6, r.f7⟩, p3, s3, Ev.bind h1 ?_, by simp only; omega, hp3⟩
    simp only [h2, h3, Option.bind_some]
    exact ev_neg c0 (ev_neg c1 (ev_neg c2 (ev_neg c3 (ev_pos c4 (Ev.now _)))))
  by_cases c5 : v = 5
  · obtain ⟨u, p3, s3, h3, _, _, hp3⟩ := spec_l01Below_ex xs p2 s2 8 hp2 hx (by omega) (by omega)
    obtain ⟨u', p4, s4, h4, hp4⟩ := spec_l01PickInt_ex xs p3 s3 [0, 1, 1000, 1001] hp3 hx (by decide) (by decide)
    refine ⟨⟨r.f0, r.f1, r.f2, r.f3, r.f4, r.f5 ++ [⟨u, u'⟩], r.f6, r.f7⟩, p4, s4, Ev.bind h1 ?_, by simp only [List.length_append, List.length_singleton]; omega, hp4⟩
    simp only [h2, h3, h4, Option.bind_some]
    exact ev_neg c0 (ev_neg c1 (ev_neg c2 (ev_neg c3 (ev_neg c4 (ev_pos c5 (ev_pos (by omega) (Ev.now _)))))))
  by_cases c6 : v = 6
  · obtain ⟨u, p3, s3, h3, hp3⟩ := pick [(-1), 0, 1000, 1001, 60000, 60001] (by decide) (by decide)
    refine ⟨⟨r.f0, r.f1, r.f2, r.f3, r.f4, r.f5, u, r.f7⟩, p3, s3, Ev.bind h1 ?_, by simp only; omega, hp3⟩
    simp only [h2, h3, Option.bind_some]
    exact ev_neg c0 (ev_neg c1 (ev_neg c2 (ev_neg c3 (ev_neg c4 (ev_neg c5 (ev_pos c6 (Ev.now _)))))))
  by_cases c7 : v = 7
  · refine ⟨⟨r.f0, r.f1, r.f2, r.f3, r.f4, r.f5, r.f6, !r.f7⟩, p2, s2, Ev.bind h1 ?_, by simp only; omega, hp2⟩
    simp only [h2, Option.bind_some]
    exact ev_neg c0 (ev_neg c1 (ev_neg c2 (ev_neg c3 (ev_neg c4 (ev_neg c5 (ev_neg c6 (ev_pos c7 (Ev.now _))))))))
  · refine ⟨r, p2, s2, Ev.bind h1 ?_, by omega, hp2⟩
    simp only [h2, Option.bind_some]
    exact ev_neg c0 (ev_neg c1 (ev_neg c2 (ev_neg c3 (ev_neg c4 (ev_neg c5 (ev_neg c6 (ev_neg c7 (Ev.now _))))))))
def sameKey (a b : S61) : Bool := decide (a.f0 = b.f0 ∧ a.f1 = b.f1 ∧ a.f2 = b.f2 ∧ a.f3 = b.f3)
def beforeB (a b : S61) : Bool := decide (a.f0 < b.f0 ∨ a.f0 = b.f0 ∧ (a.f1 < b.f1 ∨ a.f1 = b.f1 ∧ (a.f2 < b.f2 ∨ a.f2 = b.f2 ∧ a.f3 < b.f3)))
theorem impl_Before_eq (a b : S61) : impl_Before.f a.f0 a.f1 a.f2 a.f3 a.f4 a.f5 a.f6 a.f7 b.f0 b.f1 b.f2 b.f3 b.f4 b.f5 b.f6 b.f7 = some (beforeB a b) := by
  unfold impl_Before.f beforeB
  by_cases h0 : a.f0 = b.f0
  · by_cases h1 : a.f1 = b.f1
    · by_cases h2 : a.f2 = b.f2
      · rw [if_pos h0, if_pos h1, if_pos h2]
        congr 1
        rw [Bool.eq_iff_iff, decide_eq_true_eq, decide_eq_true_eq]
        omega
      · rw [if_pos h0, if_pos h1, if_neg h2]
        congr 1
        rw [Bool.eq_iff_iff, decide_eq_true_eq, decide_eq_true_eq]
        omega
    · rw [if_pos h0, if_neg h1]
      congr 1
      rw [Bool.eq_iff_iff, decide_eq_true_eq, decide_eq_true_eq]
      omega
  · rw [if_neg h0]
    congr 1
    rw [Bool.eq_iff_iff, decide_eq_true_eq, decide_eq_true_eq]
    omega

theorem spec_Before_eq (a b : S61) : spec_Before.f a.f0 a.f1 a.f2 a.f3 a.f4 a.f5 a.f6 a.f7 b.f0 b.f1 b.f2 b.f3 b.f4 b.f5 b.f6 b.f7 = some (beforeB a b) := by
  unfold spec_Before.f beforeB
  by_cases h0 : a.f0 = b.f0
  · by_cases h1 : a.f1 = b.f1
    · by_cases h2 : a.f2 = b.f2
      · rw [if_pos h0, if_pos h1, if_pos h2]
        congr 1
        rw [Bool.eq_iff_iff, decide_eq_true_eq, decide_eq_true_eq]
        omega
      · rw [if_pos h0, if_pos h1, if_neg h2]
        congr 1
        rw [Bool.eq_iff_iff, decide_eq_true_eq, decide_eq_true_eq]
        omega
    · rw [if_pos h0, if_neg h1]
      congr 1
      rw [Bool.eq_iff_iff, decide_eq_true_eq, decide_eq_true_eq]
      omega
  · rw [if_neg h0]
    congr 1
    rw [Bool.eq_iff_iff, decide_eq_true_eq, decide_eq_true_eq]
    omega

theorem impl_SameKey_eq (a b : S61) : impl_SameKey.f a.f0 a.f1 a.f2 a.f3 a.f4 a.f5 a.f6 a.f7 b.f0 b.f1 b.f2 b.f3 b.f4 b.f5 b.f6 b.f7 = some (sameKey a b) := by
  unfold impl_SameKey.f sameKey
  by_cases h0 : a.f0 = b.f0
  · by_cases h1 : a.f1 = b.f1
    · by_cases h2 : a.f2 = b.f2
      · rw [if_pos h0, if_pos h1, if_pos h2]
        congr 1
        rw [Bool.eq_iff_iff]
        simp [h0, h1, h2]
      · rw [if_pos h0, if_pos h1, if_neg h2, decide_eq_false (by omega)]
    · rw [if_pos h0, if_neg h1, decide_eq_false (by omega)]
  · rw [if_neg h0, decide_eq_false (by omega)]

theorem spec_SameKey_eq (a b : S61) : spec_SameKey.f a.f0 a.f1 a.f2 a.f3 a.f4 a.f5 a.f6 a.f7 b.f0 b.f1 b.f2 b.f3 b.f4 b.f5 b.f6 b.f7 = some (sameKey a b) := by
  unfold spec_SameKey.f sameKey
  by_cases h0 : a.f0 = b.f0
  · by_cases h1 : a.f1 = b.f1
    · by_cases h2 : a.f2 = b.f2
      · rw [if_pos h0, if_pos h1, if_pos h2]
        congr 1
        rw [Bool.eq_iff_iff]
        simp [h0, h1, h2]
      · rw [if_pos h0, if_pos h1, if_neg h2, decide_eq_false (by omega)]
    · rw [if_pos h0, if_neg h1, decide_eq_false (by omega)]
  · rw [if_neg h0, decide_eq_false (by omega)]

theorem sameBody_l0 (a0 a1 a2 a3 a4 a6 b0 b1 b2 b3 b4 b6 : Int) (a7 b7 : Bool) (l m : List S127) (hl : l.length ≤ 9223372036854775807) (hm : (m.length : Int) = l.length) (d : Nat) : ∀ i : Nat, i + d = l.length →
    ∃ r, Ev (fun k => spec_SameBody.l0 k i a0 a1 a2 a3 a4 l a6 a7 b0 b1 b2 b3 b4 m b6 b7) r ∧ Ev (fun k => impl_SameBody.l0 k (l.length : Int) i a0 a1 a2 a3 a4 l a6 a7 b0 b1 b2 b3 b4 m b6 b7) r := by
  induction d with
  | zero =>
    intro i hi
    refine ⟨true, ?_, ?_⟩
    · apply ev_succ
      simp only [spec_SameBody.l0]
      exact ev_neg (by omega) (Ev.now _)
    · apply ev_succ
      simp only [impl_SameBody.l0]
      exact ev_neg (by omega) (Ev.now _)
  | succ d ih =>
    intro i hi
    obtain ⟨r, h1, h2⟩ := ih (i + 1) (by omega)
    by_cases hc : (!(((rd_T127 l i).f0) == ((rd_T127 m i).f0)) || (!(((rd_T127 l i).f1) == ((rd_T127 m i).f1)))) = true
    · refine ⟨false, ?_, ?_⟩
      · apply ev_succ
        simp only [spec_SameBody.l0]
        exact ev_pos (by omega) (ev_pos (by omega) (ev_pos (by omega) (ev_pos hc (Ev.now _))))
      · apply ev_succ
        simp only [impl_SameBody.l0]
        exact ev_pos (by omega) (ev_pos (by omega) (ev_pos (by omega) (ev_pos (by omega) (ev_pos hc (Ev.now _)))))
    · refine ⟨r, ?_, ?_⟩
      · apply ev_succ
        simp only [spec_SameBody.l0]
        rw [w64 (by omega) (by omega)]
        exact ev_pos (by omega) (ev_pos (by omega) (ev_pos (by omega) (ev_neg hc h1)))
      · apply ev_succ
        simp only [impl_SameBody.l0]
        rw [w64 (by omega) (by omega)]
        exact ev_pos (by omega) (ev_pos (by omega) (ev_pos (by omega) (ev_pos (by omega) (ev_neg hc h2))))
theorem sameBody_j0 (x : Bool) (a b : S61) (hl : a.f5.length ≤ 9223372036854775807) (hm : x = false → (b.f5.length : Int) = a.f5.length) :
    ∃ r, Ev (fun k => spec_SameBody.j0 k x a.f0 a.f1 a.f2 a.f3 a.f4 a.f5 a.f6 a.f7 b.f0 b.f1 b.f2 b.f3 b.f4 b.f5 b.f6 b.f7) r ∧ Ev (fun k => impl_SameBody.j0 k x a.f0 a.f1 a.f2 a.f3 a.f4 a.f5 a.f6 a.f7 b.f0 b.f1 b.f2 b.f3 b.f4 b.f5 b.f6 b.f7) r ∧ (x = true → r = false) := by
  by_cases hx : x = true
  · refine ⟨false, ?_, ?_, fun _ => rfl⟩
    · apply ev_succ
      simp only [spec_SameBody.j0]
      exact ev_pos hx (Ev.now _)
    · apply ev_succ
      simp only [impl_SameBody.j0]
      exact ev_pos hx (Ev.now _)
  · obtain ⟨r, h1, h2⟩ := sameBody_l0 a.f0 a.f1 a.f2 a.f3 a.f4 a.f6 b.f0 b.f1 b.f2 b.f3 b.f4 b.f6 a.f7 b.f7 a.f5 b.f5 hl (hm (by simpa using hx)) a.f5.length 0 (by omega)
    refine ⟨r, ?_, ?_, fun h => absurd h hx⟩
    · apply ev_succ
      simp only [spec_SameBody.j0]
      exact ev_neg hx h1
    · apply ev_succ
      simp only [impl_SameBody.j0]
      exact ev_neg hx h2
theorem sameBody_ev (a b : S61) (hl : a.f5.length ≤ 9223372036854775807) :
    ∃ r, Ev (fun k => spec_SameBody.f k a.f0 a.f1 a.f2 a.f3 a.f4 a.f5 a.f6 a.f7 b.f0 b.f1 b.f2 b.f3 b.f4 b.f5 b.f6 b.f7) r ∧ Ev (fun k => impl_SameBody.f k a.f0 a.f1 a.f2 a.f3 a.f4 a.f5 a.f6 a.f7 b.f0 b.f1 b.f2 b.f3 b.f4 b.f5 b.f6 b.f7) r ∧ (r = true → sameKey a b = true) := by
  unfold spec_SameBody.f impl_SameBody.f
  rw [spec_SameKey_eq, impl_SameKey_eq]
  simp only [Option.bind_some]
  obtain ⟨r, h1, h2, h3⟩ := sameBody_j0 true a b hl (fun h => by cases h)
  by_cases hk : sameKey a b = true
  · by_cases hc : a.f6 = b.f6
    · by_cases hf : (a.f7 != b.f7) = true
      · exact ⟨r, ev_pos hk (ev_pos hc (ev_pos hf h1)), ev_pos hk (ev_pos hc (ev_pos hf h2)), fun _ => hk⟩
      · obtain ⟨r', h1', h2', h3'⟩ := sameBody_j0 ((a.f5.length : Int) != (b.f5.length : Int)) a b hl (fun h => by simp at h; omega)
        exact ⟨r', ev_pos hk (ev_pos hc (ev_neg hf h1')), ev_pos hk (ev_pos hc (ev_neg hf h2')), fun _ => hk⟩
    · exact ⟨r, ev_pos hk (ev_neg hc h1), ev_pos hk (ev_neg hc h2), fun _ => hk⟩
  · exact ⟨r, ev_neg hk h1, ev_neg hk h2, fun h => by rw [h3 rfl] at h; cases h⟩

theorem spec_l04Copy_eq (x : S61) (h : x.f5.length ≤ 1048576) : spec_l04Copy.f x.f0 x.f1 x.f2 x.f3 x.f4 x.f5 x.f6 x.f7 = some (x.f0, x.f1, x.f2, x.f3, x.f4, x.f5, x.f6, x.f7) := by
  unfold spec_l04Copy.f
  simp only [Option.bind_some]
  rw [if_pos (by simp; omega)]
  simp

theorem impl_SameBody_l0_refl (a0 a1 a2 a3 a4 a6 : Int) (a7 : Bool) (l : List S127) (hl : l.length ≤ 1000) (m : Nat) : ∀ i : Nat, i + m = l.length → Ev (fun k => impl_SameBody.l0 k (l.length : Int) i a0 a1 a2 a3 a4 l a6 a7 a0 a1 a2 a3 a4 l a6 a7) true := by
  induction m with
  | zero =>
    intro i hi
    refine ev_succ ?_
    simp only [impl_SameBody.l0]
    exact ev_neg (by omega) (Ev.now _)
  | succ m ih =>
    intro i hi
    refine ev_succ ?_
    simp only [impl_SameBody.l0]
    have ew : wrap64 ((i : Int) + 1) = ((i + 1 : Nat) : Int) := by rw [w64 (by omega) (by omega)]; omega
    rw [ew]
    exact ev_pos (by omega) (ev_pos (by omega) (ev_pos (by omega) (ev_pos (by omega) (ev_neg (by simp) (ih (i + 1) (by omega))))))
theorem impl_SameBody_refl (a : S61) (hl : a.f5.length ≤ 1000) : Ev (fun k => impl_SameBody.f k a.f0 a.f1 a.f2 a.f3 a.f4 a.f5 a.f6 a.f7 a.f0 a.f1 a.f2 a.f3 a.f4 a.f5 a.f6 a.f7) true := by
  unfold impl_SameBody.f
  rw [impl_SameKey_eq a a]
  have : sameKey a a = true := by simp [sameKey]
  simp only [Option.bind_some, this]
  refine ev_pos trivial (ev_pos trivial (ev_neg (by simp) (ev_succ ?_)))
  simp only [impl_SameBody.j0]
  exact ev_neg (by simp) (impl_SameBody_l0_refl a.f0 a.f1 a.f2 a.f3 a.f4 a.f6 a.f7 a.f5 hl a.f5.length 0 (by omega))
/-- Two records, drawn. -/
theorem spec_l04Two_ex (xs : List Int) (hx : xs.length ≤ 9223372036854775000) : ∃ a b : S61, Ev (fun k => spec_l04Two.f k xs) (a.f0, a.f1, a.f2, a.f3, a.f4, a.f5, a.f6, a.f7, b.f0, b.f1, b.f2, b.f3, b.f4, b.f5, b.f6, b.f7) ∧ a.f5.length ≤ 8 ∧ b.f5.length ≤ 8 := by
  obtain ⟨s0, hN⟩ := spec_l01New_ex xs hx
  obtain ⟨a, p1, s1, hA, la, hp1⟩ := spec_l04Any_ex xs 0 s0 (by omega) hx
  obtain ⟨b, p2, s2, hB, lb, hp2⟩ := spec_l04Any_ex xs p1 s1 hp1 hx
  obtain ⟨y, p3, s3, h3, hp3⟩ := spec_l01Once_ex xs p2 s2 2 hp2 hx (by omega) (by omega)
  obtain ⟨v, p4, s4, h4, v0, v1, hp4⟩ := spec_l01Below_ex xs p3 s3 2 hp3 hx (by omega) (by omega)
  obtain ⟨z, p5, s5, h5, hp5⟩ := spec_l01Once_ex xs p4 s4 2 hp4 hx (by omega) (by omega)
  have hc := spec_l04Copy_eq a (by omega)
  unfold spec_l04Two.f
  by_cases hy : y = true
  · by_cases hz : z = true
    · by_cases hl : (a.f5.length : Int) > 0
      · refine ⟨a, ⟨a.f0, a.f1, a.f2, a.f3, wrap64 (a.f4 + v), a.f5.set (0 : Int).toNat (⟨(rd_T127 a.f5 0).f0, 9⟩ : S127), a.f6, a.f7⟩, Ev.bind hN (Ev.bind hA (Ev.bind hB ?_)), la, by simp only [List.length_set]; exact la⟩
        simp only [h3, Option.bind_some, hc, h4, h5]
        exact ev_pos hy (ev_pos hz (ev_pos hl (ev_pos (by omega) (Ev.now _))))
      · refine ⟨a, ⟨a.f0, a.f1, a.f2, a.f3, wrap64 (a.f4 + v), a.f5, a.f6, a.f7⟩, Ev.bind hN (Ev.bind hA (Ev.bind hB ?_)), la, la⟩
        simp only [h3, Option.bind_some, hc, h4, h5]
        exact ev_pos hy (ev_pos hz (ev_neg hl (Ev.now _)))
    · refine ⟨a, ⟨a.f0, a.f1, a.f2, a.f3, wrap64 (a.f4 + v), a.f5, a.f6, a.f7⟩, Ev.bind hN (Ev.bind hA (Ev.bind hB ?_)), la, la⟩
      simp only [h3, Option.bind_some, hc, h4, h5]
      exact ev_pos hy (ev_neg hz (Ev.now _))
  · refine ⟨a, b, Ev.bind hN (Ev.bind hA (Ev.bind hB ?_)), la, lb⟩
    simp only [h3, Option.bind_some]
    exact ev_neg hy (Ev.now _)
theorem ahead_not_both (a b : S61) (h : beforeB a b = true) : beforeB b a = false := by
  simp only [beforeB, decide_eq_true_eq, decide_eq_false_iff_not] at *
  omega
theorem ahead_key (a b : S61) : (beforeB a b || beforeB b a) = !sameKey a b := by
  have h : (beforeB a b || beforeB b a) = true ↔ (!sameKey a b) = true := by
    simp only [beforeB, sameKey, Bool.or_eq_true, decide_eq_true_eq, Bool.not_eq_true', decide_eq_false_iff_not]
    omega
  exact Bool.eq_iff_iff.2 h
theorem sameKey_comm (a b : S61) : sameKey a b = sameKey b a := by
  have h : sameKey a b = true ↔ sameKey b a = true := by
    simp only [sameKey, decide_eq_true_eq]
    omega
  exact Bool.eq_iff_iff.2 h
theorem FnAhead : ∀ (l0 : List Int), (l0.length ≤ 9223372036854775807) → ∃ k, laws_FnAhead.f k l0 = some true := by
  intro xs hm
  refine ev_ex ?_
  unfold laws_FnAhead.f laws_big.f
  simp only [Option.bind_some]
  refine ev_ite (fun _ => Ev.now _) (fun h => ?_)
  have hx : xs.length ≤ 9223372036854775000 := by rw [decide_eq_true_eq] at h; omega
  obtain ⟨a, b, hT, la, lb⟩ := spec_l04Two_ex xs hx
  have hD : Ev (fun k => spec_DrawBefore.f k xs) (a.f0, a.f1, a.f2, a.f3, a.f4, a.f5, a.f6, a.f7, b.f0, b.f1, b.f2, b.f3, b.f4, b.f5, b.f6, b.f7) := Ev.bind hT (Ev.now _)
  obtain ⟨r, hs, hi, hr⟩ := sameBody_ev a b (by omega)
  have hrefl := impl_SameBody_refl a (by omega)
  have k1 := impl_Before_eq a b
  have k2 := impl_Before_eq b a
  have k3 := impl_SameKey_eq a b
  have k4 := impl_SameKey_eq b a
  have k5 := spec_Before_eq a b
  rw [← sameKey_comm a b] at k4
  have e1 := ahead_not_both a b
  have e2 := ahead_key a b
  generalize beforeB a b = x at *
  generalize beforeB b a = y at *
  generalize sameKey a b = q at *
  have hj : Ev (fun k => laws_FnAhead.j0 k x false a.f0 a.f1 a.f2 a.f3 a.f4 a.f5 a.f6 a.f7 b.f0 b.f1 b.f2 b.f3 b.f4 b.f5 b.f6 b.f7) true := by
    refine ev_succ ?_
    simp only [laws_FnAhead.j0]
    refine ev_neg (by decide) (Ev.bind hi (Ev.bind hs (ev_pos (by simp) ?_)))
    rw [k5]
    simp only [Option.bind_some, beq_self_eq_true]
    exact Ev.now _
  refine Ev.bind hD ?_
  simp only [k1, k2, k3, k4, Option.bind_some]
  have tail : Ev (fun k => (impl_SameBody.f k a.f0 a.f1 a.f2 a.f3 a.f4 a.f5 a.f6 a.f7 b.f0 b.f1 b.f2 b.f3 b.f4 b.f5 b.f6 b.f7).bind fun t => (if t = true then (if q = true then ((impl_SameBody.f k a.f0 a.f1 a.f2 a.f3 a.f4 a.f5 a.f6 a.f7 a.f0 a.f1 a.f2 a.f3 a.f4 a.f5 a.f6 a.f7).bind fun t' => (laws_FnAhead.j0 k x (!t') a.f0 a.f1 a.f2 a.f3 a.f4 a.f5 a.f6 a.f7 b.f0 b.f1 b.f2 b.f3 b.f4 b.f5 b.f6 b.f7)) else (laws_FnAhead.j0 k x true a.f0 a.f1 a.f2 a.f3 a.f4 a.f5 a.f6 a.f7 b.f0 b.f1 b.f2 b.f3 b.f4 b.f5 b.f6 b.f7)) else ((impl_SameBody.f k a.f0 a.f1 a.f2 a.f3 a.f4 a.f5 a.f6 a.f7 a.f0 a.f1 a.f2 a.f3 a.f4 a.f5 a.f6 a.f7).bind fun t' => (laws_FnAhead.j0 k x (!t') a.f0 a.f1 a.f2 a.f3 a.f4 a.f5 a.f6 a.f7 b.f0 b.f1 b.f2 b.f3 b.f4 b.f5 b.f6 b.f7)))) true := by
    refine Ev.bind hi ?_
    cases r with
    | true => exact ev_pos rfl (ev_pos (hr rfl) (Ev.bind hrefl hj))
    | false => exact ev_neg (by decide) (Ev.bind hrefl hj)
  cases x with
  | true =>
    have hy : y = false := e1 rfl
    have hq : q = false := by rw [hy] at e2; simpa using e2
    subst hy hq
    exact ev_pos rfl (ev_neg (by simp) (ev_neg (by simp) (ev_neg (by simp) tail)))
  | false =>
    have hq : (y == q) = false := by cases y <;> cases q <;> simp_all
    exact ev_neg (by simp) (ev_neg (by simp [hq]) (ev_neg (by simp) tail))

end Go.Proofs.Ythjmdiggglkeaaa.Pure
