import Derived.Test.YthjmdiggglkeaaaXFnStoresQlawsFnStores
/- Proved: the pure statement of the law FnStores, for every input that its statement lets in. -/

set_option linter.unusedVariables false
set_option linter.unusedSimpArgs false
namespace Go.Proofs.Ythjmdiggglkeaaa.Pure
open Go.RowKit Go.Proofs.Ythjmdiggglkeaaa.Q Go.Proofs.YthjmdiggglkeaaaW.PrintWords Go.Proofs.YthjmdiggglkeaaaW.PrintLast

theorem w64 {x : Int} (h0 : -9223372036854775808 ≤ x) (h1 : x ≤ 9223372036854775807) : wrap64 x = x := by unfold wrap64; omega
theorem tmodp {x m : Int} (h : 0 ≤ x) : Int.tmod x m = x % m := Int.tmod_eq_emod_of_nonneg h
/-- The bytes of a text, as numbers. -/
def B (s : ByteArray) : List Int := s.data.toList.map fun u => (u.toNat : Int)
theorem ev_ex {α : Type} {g : Nat → Option α} {r : α} (h : Ev g r) : ∃ k, g k = some r := h.rounds

theorem and255 (x : Int) : 0 ≤ Go.bits .and .i64 x 255 ∧ Go.bits .and .i64 x 255 < 256 := by
  have h : ((BitVec.ofInt 64 x) &&& (BitVec.ofInt 64 255)).toNat ≤ 255 := by
    rw [BitVec.toNat_and]
    exact Nat.le_trans Nat.and_le_right (by decide)
  have e : Go.bits .and .i64 x 255 = IntKind.i64.wrap ((((BitVec.ofInt 64 x) &&& (BitVec.ofInt 64 255)).toNat : Nat) : Int) := rfl
  rw [e, IntKind.wrap_i64]
  omega

theorem ev_ite {α : Type} {c : Prop} [Decidable c] {g f : Nat → Option α} {r : α} (h : c → Ev g r) (k : ¬ c → Ev f r) : Ev (fun n => if c then g n else f n) r := by
  by_cases hc : c
  · exact Ev.congr (fun n => by rw [if_pos hc]) (h hc)
  · exact Ev.congr (fun n => by rw [if_neg hc]) (k hc)
theorem ev_pos {α : Type} {c : Prop} [Decidable c] {g f : Nat → Option α} {r : α} (hc : c) (h : Ev g r) : Ev (fun n => if c then g n else f n) r := Ev.congr (fun n => by rw [if_pos hc]) h
theorem ev_neg {α : Type} {c : Prop} [Decidable c] {g f : Nat → Option α} {r : α} (hc : ¬ c) (h : Ev f r) : Ev (fun n => if c then g n else f n) r := Ev.congr (fun n => by rw [if_neg hc]) h
theorem ev_some {α : Type} {x r : α} (h : x = r) : Ev (fun _ => some x) r := by rw [h]; exact Ev.now _
theorem ev_succ {α : Type} {g : Nat → Option α} {r : α} (h : Ev (fun k => g (k + 1)) r) : Ev g r := Ev.step (fun _ => rfl) h
theorem ev_to {α : Type} {g : Nat → Option α} {r r' : α} (h : Ev g r) (e : r = r') : Ev g r' := e ▸ h

theorem drop_at {α : Type} (l : List α) (z : α) (i : Nat) (h : i < l.length) : l.drop i = l.getD i z :: l.drop (i + 1) := by
  rw [List.drop_eq_getElem_cons h, List.getD_eq_getElem?_getD, List.getElem?_eq_getElem h]
  rfl
/-- What is drawn: the place in the bytes stays at 0 or more, what comes is in its bounds. -/
theorem spec_l01Byte_ex (xs : List Int) (p s : Int) (hp : 0 ≤ p) (hx : xs.length ≤ 9223372036854775000) : ∃ v p' s', spec_l01Byte.f xs p s = some (v, p', s') ∧ 0 ≤ v ∧ v < 256 ∧ 0 ≤ p' := by
  unfold spec_l01Byte.f
  by_cases h : p < (xs.length : Int)
  · rw [if_pos h, if_pos hp]
    refine ⟨_, _, _, rfl, (and255 _).1, (and255 _).2, ?_⟩
    rw [w64 (by omega) (by omega)]
    omega
  · rw [if_neg h]
    exact ⟨_, _, _, rfl, (and255 _).1, (and255 _).2, hp⟩
theorem spec_l01Below_ex (xs : List Int) (p s n : Int) (hp : 0 ≤ p) (hx : xs.length ≤ 9223372036854775000) (h1 : 1 ≤ n) (h2 : n ≤ 256) : ∃ v p' s', spec_l01Below.f xs p s n = some (v, p', s') ∧ 0 ≤ v ∧ v < n ∧ 0 ≤ p' := by
  obtain ⟨v, p', s', h, h3, h4, h5⟩ := spec_l01Byte_ex xs p s hp hx
  unfold spec_l01Below.f
  rw [if_neg (by omega), if_pos h2, h, Option.bind_some, if_neg (by omega)]
  refine ⟨_, _, _, rfl, ?_, ?_, h5⟩
  · rw [tmodp h3]; exact Int.emod_nonneg _ (by omega)
  · rw [tmodp h3]; exact Int.emod_lt_of_pos _ (by omega)
theorem spec_l01Once_ex (xs : List Int) (p s n : Int) (hp : 0 ≤ p) (hx : xs.length ≤ 9223372036854775000) (h1 : 1 ≤ n) (h2 : n ≤ 256) : ∃ b p' s', spec_l01Once.f xs p s n = some (b, p', s') ∧ 0 ≤ p' := by
  obtain ⟨v, p', s', h, _, _, h5⟩ := spec_l01Below_ex xs p s n hp hx h1 h2
  unfold spec_l01Once.f
  rw [h, Option.bind_some]
  exact ⟨_, _, _, rfl, h5⟩
theorem spec_l01New_l0_ex (xs : List Int) (hx : xs.length ≤ 9223372036854775000) (d : Nat) : ∀ (i : Nat) (s : Int), i + d = xs.length → ∃ s', Ev (fun k => spec_l01New.l0 k xs s i) (xs, 0, s') := by
  induction d with
  | zero =>
    intro i s hi
    refine ⟨s, ev_succ ?_⟩
    simp only [spec_l01New.l0]
    exact ev_neg (by omega) (Ev.now _)
  | succ d ih =>
    intro i s hi
    obtain ⟨s', h⟩ := ih (i + 1) _ (by omega)
    by_cases h4 : (i : Int) < 4000
    · refine ⟨s', ev_succ ?_⟩
      simp only [spec_l01New.l0]
      rw [w64 (x := (i : Int) + 1) (by omega) (by omega)]
      exact ev_pos (by omega) (ev_pos h4 (ev_pos (by omega) h))
    · refine ⟨s, ev_succ ?_⟩
      simp only [spec_l01New.l0]
      exact ev_pos (by omega) (ev_neg h4 (Ev.now _))
theorem spec_l01New_ex (xs : List Int) (hx : xs.length ≤ 9223372036854775000) : ∃ s', Ev (fun k => spec_l01New.f k xs) (xs, 0, s') := spec_l01New_l0_ex xs hx xs.length 0 _ (by omega)

theorem impl_in_eq (a b c : Int) : impl_in.f a b c = some (decide (b ≤ a ∧ a ≤ c)) := by
  unfold impl_in.f
  by_cases h : a ≥ b
  · rw [if_pos h]; congr 1; simp; omega
  · rw [if_neg h]; congr 1; simp; omega

/-- What is near ascends, and is right; the one before, if there is one. -/
def nearGo (ow : Int) : Option Int → List S127 → Bool
  | _, [] => true
  | p, x :: xs => decide (1 ≤ x.f0 ∧ x.f0 ≤ 6) && !decide (x.f0 = ow) && decide (1 ≤ x.f1 ∧ x.f1 ≤ 1000) && p.all (fun y => decide (y < x.f0)) && nearGo ow (some x.f0) xs
def nearB (ow : Int) (l : List S127) : Bool := nearGo ow none l
def pvN (l : List S127) (i : Nat) : Option Int := if i = 0 then none else some (l.getD (i - 1) z127).f0
theorem pvN_succ (l : List S127) (i : Nat) : pvN l (i + 1) = some (l.getD i z127).f0 := by simp [pvN]
theorem rdNp (l : List S127) (i : Nat) (h : 0 < i) (hl : i < 9223372036854775807) : rd_T127 l (wrap64 ((i : Int) - 1)) = l.getD (i - 1) z127 := by
  rw [w64 (by omega) (by omega), show (i : Int) - 1 = ((i - 1 : Nat) : Int) by omega]
  rfl

/-- Is what a record holds right for its kind? -/
def recK (ar ki ow ke : Int) (l : List S127) (co : Int) (fa : Bool) : Bool :=
  if ki = 1 then decide (0 ≤ ar ∧ ar ≤ 2) && decide (ke = 0) && nearB ow l && decide (co = 0) && !fa
  else if ki = 2 then decide (0 ≤ ar ∧ ar ≤ 2) && decide (1 ≤ ke ∧ ke ≤ 6) && decide (l.length = 0) && decide (0 ≤ co ∧ co ≤ 60000) && !fa
  else if ki = 3 then decide (ar = 9) && decide (1 ≤ ke ∧ ke ≤ 9) && decide (l.length = 0) && (decide (1 ≤ co ∧ co ≤ 1000) || (co == 60000))
  else false
def recB (ar ki ow ke se : Int) (l : List S127) (co : Int) (fa : Bool) : Bool := decide (1 ≤ ow ∧ ow ≤ 6) && decide (1 ≤ se ∧ se ≤ 100000) && recK ar ki ow ke l co fa

-- toNear
/-! Near: lists -/
/-- No list of a record is longer than can be counted. -/
def Lens (s : List S61) : Prop := s.length ≤ 9223372036854775000 ∧ ∀ x ∈ s, x.f5.length ≤ 9223372036854775000
theorem getD_mem {α : Type} (l : List α) (z : α) (i : Nat) (h : i < l.length) : l.getD i z ∈ l := by
  rw [List.getD_eq_getElem?_getD, List.getElem?_eq_getElem h]
  exact List.getElem_mem h
theorem spec_l01PickInt_in (xs : List Int) (p s : Int) (l : List Int) (hp : 0 ≤ p) (hx : xs.length ≤ 9223372036854775000) (h1 : 1 ≤ l.length) (h2 : l.length ≤ 256) : ∃ v p' s', spec_l01PickInt.f xs p s l = some (v, p', s') ∧ v ∈ l ∧ 0 ≤ p' := by
  obtain ⟨v, p', s', h, h3, h4, h5⟩ := spec_l01Below_ex xs p s l.length hp hx (by omega) (by omega)
  unfold spec_l01PickInt.f
  rw [h, Option.bind_some, if_pos h3, if_pos h4]
  exact ⟨_, _, _, rfl, getD_mem l 0 v.toNat (by omega), h5⟩
theorem nearGo_snoc (ow : Int) (x : S127) (h1 : 1 ≤ x.f0 ∧ x.f0 ≤ 6) (h2 : x.f0 ≠ ow) (h3 : 1 ≤ x.f1 ∧ x.f1 ≤ 1000) (l : List S127) : ∀ p, nearGo ow p l = true → (∀ y ∈ l, y.f0 < x.f0) → (∀ q, p = some q → q < x.f0) → nearGo ow p (l ++ [x]) = true := by
  induction l with
  | nil =>
    intro p _ _ hp
    simp only [List.nil_append, nearGo, Bool.and_true]
    rw [decide_eq_true h1, decide_eq_false h2, decide_eq_true h3]
    cases p with
    | none => rfl
    | some q => simp [hp q rfl]
  | cons y ys ih =>
    intro p h hy hp
    simp only [List.cons_append, nearGo, Bool.and_eq_true] at h ⊢
    exact ⟨h.1, ih _ h.2 (fun z hz => hy z (by simp [hz])) (fun q hq => by cases hq; exact hy y (by simp))⟩
theorem spec_l04Record_l0_ok (xs : List Int) (hx : xs.length ≤ 9223372036854775000) (a b c e f g : Int) (fl : Bool) (d : Nat) : ∀ (i : Nat) (p s : Int) (nr : List S127), i + d = 7 → 1 ≤ i → nr.length ≤ i → 0 ≤ p → nearB c nr = true → (∀ y ∈ nr, y.f0 < (i : Int)) →
    ∃ nr' p' s', Ev (fun k => spec_l04Record.l0 k i xs p s a b c e f nr g fl) (a, b, c, e, f, nr', g, fl, p', s') ∧ nearB c nr' = true ∧ nr'.length ≤ 7 ∧ 0 ≤ p' := by
  induction d with
  | zero =>
    intro i p s nr hi h1 hn hp hb hy
    refine ⟨nr, p, s, ev_succ ?_, hb, by omega, hp⟩
    simp only [spec_l04Record.l0]
    exact ev_neg (by omega) (Ev.now _)
  | succ d ih =>
    intro i p s nr hi h1 hn hp hb hy
    have hy' : ∀ y ∈ nr, y.f0 < ((i + 1 : Nat) : Int) := fun y hy1 => by have := hy y hy1; omega
    by_cases hc : (i : Int) = c
    · obtain ⟨nr', p', s', h, h2, h3, h4⟩ := ih (i + 1) p s nr (by omega) (by omega) (by omega) hp hb hy'
      refine ⟨nr', p', s', ev_succ ?_, h2, h3, h4⟩
      simp only [spec_l04Record.l0]
      rw [w64 (x := (i : Int) + 1) (by omega) (by omega)]
      exact ev_pos (by omega) (ev_pos hc h)
    · obtain ⟨y, p1, s1, h5, hp1⟩ := spec_l01Once_ex xs p s 3 hp hx (by omega) (by omega)
      by_cases hy1 : y = true
      · obtain ⟨v, p2, s2, h6, v0, v1, hp2⟩ := spec_l01Below_ex xs p1 s1 4 hp1 hx (by omega) (by omega)
        have hw : wrap64 (1 + v) = 1 + v := w64 (by omega) (by omega)
        have hb2 : nearB c (nr ++ [⟨(i : Int), wrap64 (1 + v)⟩]) = true := nearGo_snoc c ⟨(i : Int), wrap64 (1 + v)⟩ (by simp only; omega) hc (by simp only [hw]; omega) nr none hb hy (fun q hq => by cases hq)
        obtain ⟨nr', p', s', h, h2, h3, h4⟩ := ih (i + 1) p2 s2 (nr ++ [⟨(i : Int), wrap64 (1 + v)⟩]) (by omega) (by omega) (by simp; omega) hp2 hb2
          (fun z hz => by
            rcases List.mem_append.1 hz with hz | hz
            · exact hy' z hz
            · rw [List.mem_singleton] at hz
              subst hz
              simp only
              omega)
        refine ⟨nr', p', s', ev_succ ?_, h2, h3, h4⟩
        simp only [spec_l04Record.l0, h5, h6, Option.bind_some]
        rw [w64 (x := (i : Int) + 1) (by omega) (by omega)]
        exact ev_pos (by omega) (ev_neg hc (ev_pos hy1 (ev_pos (by omega) h)))
      · obtain ⟨nr', p', s', h, h2, h3, h4⟩ := ih (i + 1) p1 s1 nr (by omega) (by omega) (by omega) hp1 hb hy'
        refine ⟨nr', p', s', ev_succ ?_, h2, h3, h4⟩
        simp only [spec_l04Record.l0, h5, Option.bind_some]
        rw [w64 (x := (i : Int) + 1) (by omega) (by omega)]
        exact ev_pos (by omega) (ev_neg hc (ev_neg hy1 h))
/-- A drawn record is right. -/
theorem spec_l04Record_ok (xs : List Int) (p s : Int) (hp : 0 ≤ p) (hx : xs.length ≤ 9223372036854775000) : ∃ (r : S61) (p' s' : Int), Ev (fun k => spec_l04Record.f k xs p s) (r.f0, r.f1, r.f2, r.f3, r.f4, r.f5, r.f6, r.f7, p', s') ∧ recB r.f0 r.f1 r.f2 r.f3 r.f4 r.f5 r.f6 r.f7 = true ∧ r.f5.length ≤ 7 ∧ 0 ≤ p' := by
  obtain ⟨v1, p1, s1, h1, a1, b1, hp1⟩ := spec_l01Below_ex xs p s 3 hp hx (by omega) (by omega)
  obtain ⟨v2, p2, s2, h2, a2, b2, hp2⟩ := spec_l01Below_ex xs p1 s1 4 hp1 hx (by omega) (by omega)
  obtain ⟨v3, p3, s3, h3, a3, b3, hp3⟩ := spec_l01Below_ex xs p2 s2 3 hp2 hx (by omega) (by omega)
  obtain ⟨v4, p4, s4, h4, a4, b4, hp4⟩ := spec_l01Below_ex xs p3 s3 5 hp3 hx (by omega) (by omega)
  have w1 : wrap64 (1 + v1) = 1 + v1 := w64 (by omega) (by omega)
  have w2 : wrap64 (1 + v2) = 1 + v2 := w64 (by omega) (by omega)
  have w4 : wrap64 (1 + v4) = 1 + v4 := w64 (by omega) (by omega)
  have ho : decide (1 ≤ 1 + v2 ∧ 1 + v2 ≤ 6) = true := decide_eq_true (by omega)
  have hs : decide (1 ≤ 1 + v4 ∧ 1 + v4 ≤ 100000) = true := decide_eq_true (by omega)
  have ha : decide (0 ≤ v3 ∧ v3 ≤ 2) = true := decide_eq_true (by omega)
  unfold spec_l04Record.f
  simp only [h1, h2, h3, h4, Option.bind_some, w1, w2, w4]
  by_cases c1 : 1 + v1 = 1
  · obtain ⟨nr', p', s', h, h5, h6, h7⟩ := spec_l04Record_l0_ok xs hx v3 (1 + v1) (1 + v2) 0 (1 + v4) 0 false 6 1 p4 s4 [] (by omega) (by omega) (by simp) hp4 rfl (fun y hy => by cases hy)
    refine ⟨⟨v3, 1 + v1, 1 + v2, 0, 1 + v4, nr', 0, false⟩, p', s', ev_pos c1 h, ?_, h6, h7⟩
    simp only [recB, recK, ho, hs, ha, if_pos c1, h5]
    rfl
  · by_cases c2 : 1 + v1 = 2
    · obtain ⟨v5, p5, s5, h5, a5, b5, hp5⟩ := spec_l01Below_ex xs p4 s4 5 hp4 hx (by omega) (by omega)
      obtain ⟨v6, p6, s6, h6, hm, hp6⟩ := spec_l01PickInt_in xs p5 s5 [0, 1, 2, 5, 60000] hp5 hx (by decide) (by decide)
      have w5 : wrap64 (1 + v5) = 1 + v5 := w64 (by omega) (by omega)
      simp only [h5, h6, Option.bind_some, w5]
      refine ⟨⟨v3, 1 + v1, 1 + v2, 1 + v5, 1 + v4, [], v6, false⟩, p6, s6, ev_neg c1 (ev_pos c2 (Ev.now _)), ?_, by simp, hp6⟩
      have hk : decide (1 ≤ 1 + v5 ∧ 1 + v5 ≤ 6) = true := decide_eq_true (by omega)
      have hcst : decide (0 ≤ v6 ∧ v6 ≤ 60000) = true := decide_eq_true (by simp only [List.mem_cons, List.not_mem_nil, or_false] at hm; omega)
      simp only [recB, recK, ho, hs, ha, hk, hcst, if_neg c1, if_pos c2]
      rfl
    · have c3 : 1 + v1 = 3 := by omega
      obtain ⟨v5, p5, s5, h5, a5, b5, hp5⟩ := spec_l01Below_ex xs p4 s4 3 hp4 hx (by omega) (by omega)
      obtain ⟨v6, p6, s6, h6, hm, hp6⟩ := spec_l01PickInt_in xs p5 s5 [1, 2, 5, 60000] hp5 hx (by decide) (by decide)
      obtain ⟨v7, p7, s7, h7, hp7⟩ := spec_l01Once_ex xs p6 s6 2 hp6 hx (by omega) (by omega)
      have w5 : wrap64 (1 + v5) = 1 + v5 := w64 (by omega) (by omega)
      simp only [h5, h6, h7, Option.bind_some, w5]
      refine ⟨⟨9, 1 + v1, 1 + v2, 1 + v5, 1 + v4, [], v6, v7⟩, p7, s7, ev_neg c1 (ev_neg c2 (ev_pos c3 (Ev.now _))), ?_, by simp, hp7⟩
      have hk : decide (1 ≤ 1 + v5 ∧ 1 + v5 ≤ 9) = true := decide_eq_true (by omega)
      have hcst : (decide (1 ≤ v6 ∧ v6 ≤ 1000) || (v6 == 60000)) = true := by
        simp only [List.mem_cons, List.not_mem_nil, or_false] at hm
        rw [Bool.or_eq_true, decide_eq_true_eq, beq_iff_eq]
        omega
      simp only [recB, recK, ho, hs, hk, hcst, if_neg c1, if_neg c2, if_pos c3]
      rfl
/-- Drawn records: all right, fourteen at most. -/
theorem spec_DrawRecords_l0_ok (xs : List Int) (hx : xs.length ≤ 9223372036854775000) (d : Nat) : ∀ (i : Nat) (p s : Int) (st : List S61), i + d = 14 → st.length ≤ i → (∀ x ∈ st, recB x.f0 x.f1 x.f2 x.f3 x.f4 x.f5 x.f6 x.f7 = true ∧ x.f5.length ≤ 7) → 0 ≤ p →
    ∃ st', Ev (fun k => spec_DrawRecords.l0 k st i xs p s) st' ∧ st'.length ≤ 14 ∧ ∀ x ∈ st', recB x.f0 x.f1 x.f2 x.f3 x.f4 x.f5 x.f6 x.f7 = true ∧ x.f5.length ≤ 7 := by
  induction d with
  | zero =>
    intro i p s st hi hl hg hp
    obtain ⟨v, p1, s1, h1, _, hv, hp1⟩ := spec_l01Below_ex xs p s 14 hp hx (by omega) (by omega)
    refine ⟨st, ev_succ ?_, by omega, hg⟩
    simp only [spec_DrawRecords.l0, h1, Option.bind_some]
    exact ev_neg (by omega) (Ev.now _)
  | succ d ih =>
    intro i p s st hi hl hg hp
    obtain ⟨v, p1, s1, h1, _, hv, hp1⟩ := spec_l01Below_ex xs p s 14 hp hx (by omega) (by omega)
    by_cases hc : (i : Int) < v
    · obtain ⟨r, p2, s2, h2, hr, hn, hp2⟩ := spec_l04Record_ok xs p1 s1 hp1 hx
      obtain ⟨st', h, h3, h4⟩ := ih (i + 1) p2 s2 (st ++ [r]) (by omega) (by simp; omega) (fun x hx1 => by
        rcases List.mem_append.1 hx1 with hx1 | hx1
        · exact hg x hx1
        · rw [List.mem_singleton] at hx1
          subst hx1
          exact ⟨hr, hn⟩) hp2
      refine ⟨st', ev_succ ?_, h3, h4⟩
      simp only [spec_DrawRecords.l0, h1, Option.bind_some]
      rw [w64 (x := (i : Int) + 1) (by omega) (by omega)]
      exact ev_pos hc (Ev.bind h2 (ev_pos (by omega) h))
    · refine ⟨st, ev_succ ?_, by omega, hg⟩
      simp only [spec_DrawRecords.l0, h1, Option.bind_some]
      exact ev_neg hc (Ev.now _)
theorem spec_DrawRecords_ok (xs : List Int) (hx : xs.length ≤ 9223372036854775000) : ∃ l, Ev (fun k => spec_DrawRecords.f k xs) l ∧ l.length ≤ 14 ∧ ∀ x ∈ l, recB x.f0 x.f1 x.f2 x.f3 x.f4 x.f5 x.f6 x.f7 = true ∧ x.f5.length ≤ 7 := by
  obtain ⟨s, h⟩ := spec_l01New_ex xs hx
  obtain ⟨l, h1, h2, h3⟩ := spec_DrawRecords_l0_ok xs hx 14 0 0 s [] (by omega) (by simp) (fun x hx => by cases hx) (by omega)
  exact ⟨l, Ev.bind h h1, h2, h3⟩

def sameKey (a b : S61) : Bool := decide (a.f0 = b.f0 ∧ a.f1 = b.f1 ∧ a.f2 = b.f2 ∧ a.f3 = b.f3)
def beforeB (a b : S61) : Bool := decide (a.f0 < b.f0 ∨ a.f0 = b.f0 ∧ (a.f1 < b.f1 ∨ a.f1 = b.f1 ∧ (a.f2 < b.f2 ∨ a.f2 = b.f2 ∧ a.f3 < b.f3)))
/-- The place of a key from place i on, -1 without one. -/
def keyGo (r : S61) : List S61 → Int → Int
  | [], _ => -1
  | x :: xs, i => if sameKey x r = true then i else keyGo r xs (i + 1)
def keyB (s : List S61) (r : S61) : Int := keyGo r s 0
theorem keyGo_cases (r : S61) (xs : List S61) : ∀ i : Int, (keyGo r xs i = -1 ∧ ∀ x ∈ xs, sameKey x r = false) ∨ (∃ j : Nat, j < xs.length ∧ keyGo r xs i = i + j ∧ sameKey (xs.getD j z61) r = true ∧ ∀ q : Nat, q < j → sameKey (xs.getD q z61) r = false) := by
  induction xs with
  | nil => intro i; exact .inl ⟨rfl, by simp⟩
  | cons x xs ih =>
    intro i
    by_cases h : sameKey x r = true
    · refine .inr ⟨0, by simp, ?_, h, fun q hq => by omega⟩
      rw [keyGo, if_pos h]; omega
    · rw [keyGo, if_neg h]
      rcases ih (i + 1) with ⟨h1, h2⟩ | ⟨j, h1, h2, h3, h4⟩
      · refine .inl ⟨h1, fun y hy => ?_⟩
        rcases List.mem_cons.1 hy with rfl | hy
        · simpa using h
        · exact h2 y hy
      · refine .inr ⟨j + 1, by simp only [List.length_cons]; omega, by rw [h2]; omega, h3, fun q hq => ?_⟩
        cases q with
        | zero => simpa using h
        | succ q => exact h4 q (by omega)
theorem keyB_cases (s : List S61) (r : S61) : (keyB s r = -1 ∧ ∀ x ∈ s, sameKey x r = false) ∨ (∃ j : Nat, j < s.length ∧ keyB s r = j ∧ sameKey (s.getD j z61) r = true ∧ ∀ q : Nat, q < j → sameKey (s.getD q z61) r = false) := by
  rcases keyGo_cases r s 0 with h | ⟨j, h1, h2, h3⟩
  · exact .inl h
  · exact .inr ⟨j, h1, by rw [keyB, h2]; omega, h3⟩
theorem keyB_lt (t : List S61) (x : S61) : keyB t x < (t.length : Int) := by
  rcases keyB_cases t x with ⟨h, _⟩ | ⟨j, h1, h2, _⟩
  · omega
  · omega

def recR (r : S61) : Bool := recB r.f0 r.f1 r.f2 r.f3 r.f4 r.f5 r.f6 r.f7
/-- Right records, one ahead of the other; the one before, if there is one. -/
def storeGo : Option S61 → List S61 → Bool
  | _, [] => true
  | p, x :: xs => recR x && p.all (fun y => beforeB y x) && storeGo (some x) xs
def storeB (s : List S61) : Bool := decide (s.length ≤ 150) && storeGo none s
def pvR (l : List S61) (i : Nat) : Option S61 := if i = 0 then none else some (l.getD (i - 1) z61)
theorem pvR_succ (l : List S61) (i : Nat) : pvR l (i + 1) = some (l.getD i z61) := by simp [pvR]
theorem rdRp (l : List S61) (i : Nat) (h : 0 < i) (hl : i < 9223372036854775807) : rd_T61 l (wrap64 ((i : Int) - 1)) = l.getD (i - 1) z61 := by
  rw [w64 (by omega) (by omega), show (i : Int) - 1 = ((i - 1 : Nat) : Int) by omega]
  rfl

-- asc
/-! Records in the order of their keys. -/
def Asc (s : List S61) : Prop := s.Pairwise (fun a b => beforeB a b = true)
theorem before_tri (a b : S61) : beforeB a b = true ∨ sameKey a b = true ∨ beforeB b a = true := by
  unfold beforeB sameKey
  simp only [decide_eq_true_eq]
  omega
theorem before_anti {a b : S61} (h : beforeB a b = true) : beforeB b a = false ∧ sameKey a b = false ∧ sameKey b a = false := by
  unfold beforeB sameKey at *
  simp only [decide_eq_true_eq, decide_eq_false_iff_not] at *
  omega
theorem before_trans {a b c : S61} (h : beforeB a b = true) (k : beforeB b c = true) : beforeB a c = true := by
  unfold beforeB at *
  simp only [decide_eq_true_eq] at *
  omega
theorem same_before {a b c : S61} (h : sameKey a b = true) : (beforeB a c = true ↔ beforeB b c = true) ∧ (beforeB c a = true ↔ beforeB c b = true) := by
  unfold beforeB sameKey at *
  simp only [decide_eq_true_eq] at *
  omega
theorem same_not {a b : S61} (h : sameKey a b = true) : beforeB a b = false ∧ beforeB b a = false := by
  unfold beforeB sameKey at *
  simp only [decide_eq_true_eq, decide_eq_false_iff_not] at *
  omega
theorem storeGo_asc (xs : List S61) : ∀ p : Option S61, storeGo p xs = true → (∀ y, p = some y → ∀ x ∈ xs, beforeB y x = true) ∧ (∀ x ∈ xs, recR x = true) ∧ Asc xs := by
  induction xs with
  | nil => intro p _; exact ⟨by simp, by simp, List.Pairwise.nil⟩
  | cons x xs ih =>
    intro p h
    rw [storeGo, Bool.and_eq_true, Bool.and_eq_true] at h
    obtain ⟨⟨h1, h2⟩, h3⟩ := h
    obtain ⟨h4, h5, h6⟩ := ih (some x) h3
    refine ⟨fun y hy z hz => ?_, fun z hz => ?_, List.pairwise_cons.2 ⟨h4 x rfl, h6⟩⟩
    · subst hy
      have h2' : beforeB y x = true := by simpa using h2
      rcases List.mem_cons.1 hz with rfl | hz
      · exact h2'
      · exact before_trans h2' (h4 x rfl z hz)
    · rcases List.mem_cons.1 hz with rfl | hz
      · exact h1
      · exact h5 z hz
theorem storeGo_of (xs : List S61) : ∀ p : Option S61, (∀ y, p = some y → ∀ x ∈ xs, beforeB y x = true) → (∀ x ∈ xs, recR x = true) → Asc xs → storeGo p xs = true := by
  induction xs with
  | nil => intro p _ _ _; rfl
  | cons x xs ih =>
    intro p h1 h2 h3
    obtain ⟨h4, h5⟩ := List.pairwise_cons.1 h3
    rw [storeGo, h2 x (by simp), ih (some x) (fun y hy => by injection hy with hy; subst hy; exact h4) (fun z hz => h2 z (by simp [hz])) h5]
    cases p with
    | none => rfl
    | some y => simp [h1 y rfl x (by simp)]
theorem storeB_iff (s : List S61) : storeB s = true ↔ s.length ≤ 150 ∧ (∀ x ∈ s, recR x = true) ∧ Asc s := by
  unfold storeB
  rw [Bool.and_eq_true, decide_eq_true_eq]
  constructor
  · rintro ⟨h, k⟩
    exact ⟨h, (storeGo_asc s none k).2⟩
  · rintro ⟨h, k, l⟩
    exact ⟨h, storeGo_of s none (fun y hy => by cases hy) k l⟩
/-- A record in its place among those in order: those ahead of it, it, those behind it. -/
def putL (s : List S61) (r : S61) : List S61 := s.filter (fun x => beforeB x r) ++ r :: s.filter (fun x => beforeB r x)
def behind (r : S61) : List S61 → List S61
  | [] => []
  | x :: xs => if sameKey x r = true then xs else x :: xs
theorem putL_split (p q : List S61) (r : S61) (hA : Asc (p ++ q)) (hp : ∀ x ∈ p, beforeB x r = true) (hq : ∀ x, q.head? = some x → beforeB x r = false) : putL (p ++ q) r = p ++ r :: behind r q := by
  obtain ⟨h1, h2, h3⟩ := List.pairwise_append.1 hA
  have e1 : p.filter (fun x => beforeB x r) = p := List.filter_eq_self.2 hp
  have e2 : p.filter (fun x => beforeB r x) = [] := List.filter_eq_nil_iff.2 (fun x hx => by rw [(before_anti (hp x hx)).1]; exact Bool.false_ne_true)
  unfold putL
  rw [List.filter_append, List.filter_append, e1, e2, List.nil_append]
  cases q with
  | nil => simp [behind]
  | cons x xs =>
    obtain ⟨h4, h5⟩ := List.pairwise_cons.1 h2
    have hx := hq x rfl
    have e3 : (x :: xs).filter (fun y => beforeB y r) = [] := List.filter_eq_nil_iff.2 (fun y hy => by
      rcases List.mem_cons.1 hy with rfl | hy
      · rw [hx]; exact Bool.false_ne_true
      · intro hc
        rw [before_trans (h4 y hy) hc] at hx
        cases hx)
    rw [e3, List.append_nil]
    simp only [behind]
    by_cases hk : sameKey x r = true
    · rw [if_pos hk]
      have e4 : xs.filter (fun y => beforeB r y) = xs := List.filter_eq_self.2 (fun y hy => (same_before hk).1.1 (h4 y hy))
      rw [List.filter_cons_of_neg (by rw [(same_not hk).2]; exact Bool.false_ne_true), e4]
    · rw [if_neg hk]
      have hrx : beforeB r x = true := by
        rcases before_tri x r with h | h | h
        · rw [hx] at h; cases h
        · exact absurd h hk
        · exact h
      have e4 : (x :: xs).filter (fun y => beforeB r y) = x :: xs := List.filter_eq_self.2 (fun y hy => by
        rcases List.mem_cons.1 hy with rfl | hy
        · exact hrx
        · exact before_trans hrx (h4 y hy))
      rw [e4]
theorem mem_putL {s : List S61} {r x : S61} (h : x ∈ putL s r) : x = r ∨ x ∈ s := by
  unfold putL at h
  rcases List.mem_append.1 h with h | h
  · exact .inr (List.mem_filter.1 h).1
  · rcases List.mem_cons.1 h with h | h
    · exact .inl h
    · exact .inr (List.mem_filter.1 h).1
theorem putL_asc (s : List S61) (r : S61) (h : Asc s) : Asc (putL s r) := by
  unfold putL
  refine List.pairwise_append.2 ⟨List.Pairwise.sublist List.filter_sublist h, List.pairwise_cons.2 ⟨fun x hx => (List.mem_filter.1 hx).2, List.Pairwise.sublist List.filter_sublist h⟩, fun a ha b hb => ?_⟩
  have h1 := (List.mem_filter.1 ha).2
  rcases List.mem_cons.1 hb with rfl | hb
  · exact h1
  · exact before_trans h1 (List.mem_filter.1 hb).2
theorem putL_length (s : List S61) (r : S61) : (putL s r).length ≤ s.length + 1 ∧ ((∃ x ∈ s, sameKey x r = true) → (putL s r).length ≤ s.length) := by
  induction s with
  | nil => exact ⟨by simp [putL], by simp⟩
  | cons y s ih =>
    obtain ⟨h1, h2⟩ := ih
    unfold putL at *
    simp only [List.length_append, List.length_cons, List.filter_cons] at *
    rcases before_tri y r with h | h | h
    · obtain ⟨h3, h4, _⟩ := before_anti h
      rw [if_pos h, if_neg (by rw [h3]; exact Bool.false_ne_true)]
      simp only [List.length_cons]
      refine ⟨by omega, fun ⟨x, hx, hk⟩ => ?_⟩
      rcases List.mem_cons.1 hx with rfl | hx
      · rw [h4] at hk; cases hk
      · have := h2 ⟨x, hx, hk⟩; omega
    · obtain ⟨h3, h4⟩ := same_not h
      rw [if_neg (by rw [h3]; exact Bool.false_ne_true), if_neg (by rw [h4]; exact Bool.false_ne_true)]
      exact ⟨by omega, fun _ => by omega⟩
    · obtain ⟨h3, _, h4⟩ := before_anti h
      rw [if_neg (by rw [h3]; exact Bool.false_ne_true), if_pos h]
      simp only [List.length_cons]
      refine ⟨by omega, fun ⟨x, hx, hk⟩ => ?_⟩
      rcases List.mem_cons.1 hx with rfl | hx
      · rw [h4] at hk; cases hk
      · have := h2 ⟨x, hx, hk⟩; omega
/-- Is a record newer than what there is of its key, or is there room for it? -/
def newB (s : List S61) (r : S61) : Bool := if 0 ≤ keyB s r then decide ((s.getD (keyB s r).toNat z61).f4 < r.f4) else decide (s.length < 150)
theorem newB_key {s : List S61} {r : S61} (h : 0 ≤ keyB s r) : newB s r = decide ((s.getD (keyB s r).toNat z61).f4 < r.f4) := by unfold newB; rw [if_pos h]
theorem newB_none {s : List S61} {r : S61} (h : ¬ 0 ≤ keyB s r) : newB s r = decide (s.length < 150) := by unfold newB; rw [if_neg h]
def instB (s : List S61) (r : S61) : Bool := recR r && newB s r
theorem putL_store {s : List S61} {r : S61} (hs : storeB s = true) (hr : instB s r = true) : storeB (putL s r) = true := by
  obtain ⟨h1, h2, h3⟩ := (storeB_iff s).1 hs
  obtain ⟨h4, h5⟩ := (Bool.and_eq_true _ _).mp hr
  refine (storeB_iff _).2 ⟨?_, fun x hx => ?_, putL_asc s r h3⟩
  · obtain ⟨h6, h7⟩ := putL_length s r
    unfold newB at h5
    rcases keyB_cases s r with ⟨h8, _⟩ | ⟨j, h8, h9, h10, _⟩
    · rw [if_neg (by omega), decide_eq_true_eq] at h5
      omega
    · have := h7 ⟨_, by
        rw [List.getD_eq_getElem?_getD, List.getElem?_eq_getElem h8] at h10
        exact List.getElem_mem h8, by
        rw [List.getD_eq_getElem?_getD, List.getElem?_eq_getElem h8] at h10
        exact h10⟩
      omega
  · rcases mem_putL hx with rfl | hx
    · exact h4
    · exact h2 x hx

theorem impl_SameKey_eq (a b : S61) : impl_SameKey.f a.f0 a.f1 a.f2 a.f3 a.f4 a.f5 a.f6 a.f7 b.f0 b.f1 b.f2 b.f3 b.f4 b.f5 b.f6 b.f7 = some (sameKey a b) := by
  unfold impl_SameKey.f sameKey
  by_cases h0 : a.f0 = b.f0
  · by_cases h1 : a.f1 = b.f1
    · by_cases h2 : a.f2 = b.f2
      · rw [if_pos h0, if_pos h1, if_pos h2]
        congr 1
        rw [Bool.eq_iff_iff]
        simp [h0, h1, h2]
      · rw [if_pos h0, if_pos h1, if_neg h2, decide_eq_false (by omega)]
    · rw [if_pos h0, if_neg h1, decide_eq_false (by omega)]
  · rw [if_neg h0, decide_eq_false (by omega)]

theorem impl_keyAt_l0_ev (r : S61) (l : List S61) (hl : l.length ≤ 9223372036854775000) (d : Nat) : ∀ i : Nat, i + d = l.length →
    Ev (fun k => impl_keyAt.l0 k l (l.length : Int) i r.f0 r.f1 r.f2 r.f3 r.f4 r.f5 r.f6 r.f7) (keyGo r (l.drop i) i) := by
  induction d with
  | zero =>
    intro i hi
    rw [List.drop_eq_nil_of_le (by omega)]
    apply ev_succ
    simp only [impl_keyAt.l0]
    exact ev_neg (by omega) (ev_some rfl)
  | succ d ih =>
    intro i hi
    have hr := ih (i + 1) (by omega)
    have hr' := hr
    obtain ⟨x, hx⟩ : ∃ x, rd_T61 l (i : Int) = x := ⟨_, rfl⟩
    have hx2 : l.getD i z61 = x := hx
    rw [drop_at l z61 i (by omega), hx2]
    apply ev_succ
    simp only [impl_keyAt.l0, hx, impl_SameKey_eq, Option.bind_some]
    rw [w64 (by omega) (by omega), keyGo]
    refine ev_pos (by omega) (ev_pos (by omega) (ev_pos (by omega) ?_))
    refine ev_ite (fun h => ev_some (by rw [if_pos h])) (fun h => ?_)
    rw [if_neg h]
    exact hr
theorem impl_keyAt_ev (l : List S61) (r : S61) (hl : l.length ≤ 9223372036854775000) : Ev (fun k => impl_keyAt.f k l r.f0 r.f1 r.f2 r.f3 r.f4 r.f5 r.f6 r.f7) (keyB l r) :=
  impl_keyAt_l0_ev r l hl l.length 0 (by omega)

def Small (s : List S61) : Prop := s.length ≤ 8388608 ∧ ∀ x ∈ s, x.f5.length ≤ 1048576
theorem Small.lens {s : List S61} (h : Small s) : Lens s := ⟨by have := h.1; omega, fun x hx => by have := h.2 x hx; omega⟩
theorem impl_copyRecord_eq (x : S61) (h : x.f5.length ≤ 1048576) : impl_copyRecord.f x.f0 x.f1 x.f2 x.f3 x.f4 x.f5 x.f6 x.f7 = some (x.f0, x.f1, x.f2, x.f3, x.f4, x.f5, x.f6, x.f7) := by
  unfold impl_copyRecord.f
  rw [if_pos (by simp; omega)]
  simp

theorem spec_SameKey_eq (a b : S61) : spec_SameKey.f a.f0 a.f1 a.f2 a.f3 a.f4 a.f5 a.f6 a.f7 b.f0 b.f1 b.f2 b.f3 b.f4 b.f5 b.f6 b.f7 = some (sameKey a b) := by
  unfold spec_SameKey.f sameKey
  by_cases h0 : a.f0 = b.f0
  · by_cases h1 : a.f1 = b.f1
    · by_cases h2 : a.f2 = b.f2
      · rw [if_pos h0, if_pos h1, if_pos h2]
        congr 1
        rw [Bool.eq_iff_iff]
        simp [h0, h1, h2]
      · rw [if_pos h0, if_pos h1, if_neg h2, decide_eq_false (by omega)]
    · rw [if_pos h0, if_neg h1, decide_eq_false (by omega)]
  · rw [if_neg h0, decide_eq_false (by omega)]

theorem asc_inj {s : List S61} (h : Asc s) : ∀ x ∈ s, ∀ y ∈ s, sameKey x y = true → x = y := by
  have hb : ∀ a b : S61, beforeB a b = true → sameKey a b = false ∧ sameKey b a = false := by
    intro a b h
    simp only [beforeB, sameKey, decide_eq_true_eq, decide_eq_false_iff_not] at *
    omega
  induction s with
  | nil => intro x hx; cases hx
  | cons a t ih =>
    obtain ⟨h1, h2⟩ := List.pairwise_cons.1 h
    intro x hx y hy hk
    rcases List.mem_cons.1 hx with hx1 | hx1
    · rcases List.mem_cons.1 hy with hy1 | hy1
      · rw [hx1, hy1]
      · subst hx1; rw [(hb _ _ (h1 y hy1)).1] at hk; cases hk
    · rcases List.mem_cons.1 hy with hy1 | hy1
      · subst hy1; rw [(hb _ _ (h1 x hx1)).2] at hk; cases hk
      · exact ih h2 x hx1 y hy1 hk
/-- Records put into a store, one behind the other, where each is newer; and those that were. -/
def learnL : List S61 → List S61 → List S61 → List S61 × List S61
  | s, f, [] => (s, f)
  | s, f, r :: t => if instB s r = true then learnL (putL s r) (f ++ [r]) t else learnL s f t
theorem store_small {s : List S61} (h : storeB s = true) (hn : ∀ x ∈ s, x.f5.length ≤ 1048576) : Small s := ⟨by have := ((storeB_iff s).1 h).1; omega, hn⟩
theorem putL_near {s : List S61} {r : S61} (hn : ∀ x ∈ s, x.f5.length ≤ 1048576) (hr : r.f5.length ≤ 1048576) : ∀ x ∈ putL s r, x.f5.length ≤ 1048576 := by
  intro x hx
  rcases mem_putL hx with rfl | hx
  · exact hr
  · exact hn x hx
theorem learnL_small (t : List S61) : ∀ s f, storeB s = true → (∀ x ∈ s, x.f5.length ≤ 1048576) → (∀ x ∈ t, x.f5.length ≤ 1048576) → (∀ x ∈ f, x.f5.length ≤ 1048576) →
    storeB (learnL s f t).1 = true ∧ Small (learnL s f t).1 ∧ (learnL s f t).2.length ≤ f.length + t.length ∧ ∀ x ∈ (learnL s f t).2, x.f5.length ≤ 1048576 := by
  induction t with
  | nil => intro s f h1 h2 _ h4; exact ⟨h1, store_small h1 h2, by simp [learnL], h4⟩
  | cons r t ih =>
    intro s f h1 h2 h3 h4
    have hr := h3 r (by simp)
    have ht : ∀ x ∈ t, x.f5.length ≤ 1048576 := fun x hx => h3 x (by simp [hx])
    rw [learnL]
    by_cases hi : instB s r = true
    · rw [if_pos hi]
      obtain ⟨a, b, c, d⟩ := ih (putL s r) (f ++ [r]) (putL_store h1 hi) (putL_near h2 hr) ht (fun x hx => by
        rcases List.mem_append.1 hx with hx | hx
        · exact h4 x hx
        · rw [List.mem_singleton] at hx; rw [hx]; exact hr)
      refine ⟨a, b, ?_, d⟩
      simp only [List.length_append, List.length_cons, List.length_nil] at c ⊢
      omega
    · rw [if_neg hi]
      obtain ⟨a, b, c, d⟩ := ih s f h1 h2 ht h4
      exact ⟨a, b, by simp only [List.length_cons]; omega, d⟩
def mergeL (s t : List S61) : List S61 := if storeB s = true then (learnL s [] t).1 else s
-- spec_RecordOk
/-! spec_RecordOk -/
/-- A store that learned: what it was told by is in it, or what is as new. -/
def AsNew (m : List S61) (x : S61) : Prop := ∃ y ∈ m, sameKey y x = true ∧ x.f4 ≤ y.f4
theorem key_symm {a b : S61} (h : sameKey a b = true) : sameKey b a = true := by
  simp only [sameKey, decide_eq_true_eq] at *
  omega
theorem key_trans {a b c : S61} (h : sameKey a b = true) (k : sameKey b c = true) : sameKey a c = true := by
  simp only [sameKey, decide_eq_true_eq] at *
  omega
theorem key_refl (a : S61) : sameKey a a = true := by simp [sameKey]
theorem AsNew.trans {m : List S61} {x y : S61} (h : AsNew m y) (hk : sameKey y x = true) (hs : x.f4 ≤ y.f4) : AsNew m x := by
  obtain ⟨z, hz, h1, h2⟩ := h
  exact ⟨z, hz, key_trans h1 hk, by omega⟩
theorem putL_mem_self (s : List S61) (r : S61) : r ∈ putL s r := by simp [putL]
theorem putL_keeps {s : List S61} {r x : S61} (hx : x ∈ s) (hk : sameKey x r = false) : x ∈ putL s r := by
  unfold putL
  rcases before_tri x r with h | h | h
  · exact List.mem_append.2 (.inl (List.mem_filter.2 ⟨hx, h⟩))
  · rw [hk] at h; cases h
  · exact List.mem_append.2 (.inr (List.mem_cons.2 (.inr (List.mem_filter.2 ⟨hx, h⟩))))
theorem learnL_asNew (t : List S61) : ∀ s f, storeB s = true → s.length + t.length ≤ 150 → (∀ x ∈ t, recR x = true) →
    (∀ x ∈ s, AsNew (learnL s f t).1 x) ∧ (∀ x ∈ t, AsNew (learnL s f t).1 x) ∧ (∀ y ∈ (learnL s f t).1, y ∈ s ∨ y ∈ t) := by
  induction t with
  | nil => intro s f h1 h2 h3; exact ⟨fun x hx => ⟨x, hx, key_refl x, Int.le_refl _⟩, (fun x hx => by cases hx), fun y hy => .inl hy⟩
  | cons r t ih =>
    intro s f h1 h2 h3
    simp only [List.length_cons] at h2
    have hA := ((storeB_iff s).1 h1).2.2
    rw [learnL]
    by_cases hi : instB s r = true
    · rw [if_pos hi]
      have hlen := (putL_length s r).1
      obtain ⟨a1, a2, a3⟩ := ih (putL s r) (f ++ [r]) (putL_store h1 hi) (by omega) (fun x hx => h3 x (by simp [hx]))
      have hr := a1 r (putL_mem_self s r)
      refine ⟨fun x hx => ?_, fun x hx => ?_, fun y hy => ?_⟩
      · by_cases hk : sameKey x r = true
        · have hn : newB s r = true := ((Bool.and_eq_true _ _).mp hi).2
          refine hr.trans (key_symm hk) ?_
          rcases keyB_cases s r with ⟨_, h⟩ | ⟨j, j1, j2, j3, _⟩
          · rw [h x hx] at hk; cases hk
          · have hm : s.getD j z61 ∈ s := getD_mem s _ j j1
            have e := asc_inj hA _ hm _ hx (key_trans j3 (key_symm hk))
            rw [newB_key (by omega), j2, Int.toNat_natCast, e, decide_eq_true_eq] at hn
            omega
        · exact a1 x (putL_keeps hx (Bool.eq_false_iff.2 hk))
      · rcases List.mem_cons.1 hx with rfl | hx
        · exact hr
        · exact a2 x hx
      · rcases a3 y hy with h | h
        · rcases mem_putL h with rfl | h
          · exact .inr (by simp)
          · exact .inl h
        · exact .inr (by simp [h])
    · rw [if_neg hi]
      obtain ⟨a1, a2, a3⟩ := ih s f h1 (by omega) (fun x hx => h3 x (by simp [hx]))
      refine ⟨a1, fun x hx => ?_, fun y hy => ?_⟩
      · rcases List.mem_cons.1 hx with rfl | hx
        · have hn : newB s x = false := by
            have h4 := h3 x (by simp)
            rw [instB, h4, Bool.true_and, Bool.not_eq_true] at hi
            exact hi
          rcases keyB_cases s x with ⟨j2, _⟩ | ⟨j, j1, j2, j3, _⟩
          · rw [newB_none (by omega), decide_eq_false_iff_not] at hn
            omega
          · have hm : s.getD j z61 ∈ s := getD_mem s _ j j1
            rw [newB_key (by omega), j2, Int.toNat_natCast, decide_eq_false_iff_not] at hn
            exact (a1 _ hm).trans j3 (by omega)
        · exact a2 x hx
      · rcases a3 y hy with h | h
        · exact .inl h
        · exact .inr (by simp [h])
/-- The newest of a key. -/
def nwGo (r : S61) : Int → List S61 → Int
  | v, [] => v
  | v, x :: xs => nwGo r (if sameKey x r = true then (if x.f4 > v then x.f4 else v) else v) xs
theorem nwGo_spec (r : S61) (xs : List S61) : ∀ v, v ≤ nwGo r v xs ∧ (∀ x ∈ xs, sameKey x r = true → x.f4 ≤ nwGo r v xs) ∧ (nwGo r v xs = v ∨ ∃ x ∈ xs, sameKey x r = true ∧ x.f4 = nwGo r v xs) := by
  induction xs with
  | nil => intro v; exact ⟨Int.le_refl _, (fun x hx => by cases hx), .inl rfl⟩
  | cons y ys ih =>
    intro v
    rw [nwGo]
    obtain ⟨h1, h2, h3⟩ := ih (if sameKey y r = true then (if y.f4 > v then y.f4 else v) else v)
    generalize hw : (if sameKey y r = true then (if y.f4 > v then y.f4 else v) else v) = w at *
    have hv : v ≤ w ∧ (sameKey y r = true → y.f4 ≤ w) ∧ (w = v ∨ (sameKey y r = true ∧ y.f4 = w)) := by
      by_cases hk : sameKey y r = true
      · rw [if_pos hk] at hw
        by_cases h : y.f4 > v
        · rw [if_pos h] at hw; exact ⟨by omega, fun _ => by omega, .inr ⟨hk, hw⟩⟩
        · rw [if_neg h] at hw; exact ⟨by omega, fun _ => by omega, .inl (by omega)⟩
      · rw [if_neg hk] at hw; exact ⟨by omega, fun h => absurd h hk, .inl (by omega)⟩
    obtain ⟨a1, a2, a3⟩ := hv
    refine ⟨by omega, fun x hx hk => ?_, ?_⟩
    · rcases List.mem_cons.1 hx with hx1 | hx1
      · subst hx1; have := a2 hk; omega
      · exact h2 x hx1 hk
    · rcases h3 with h | ⟨x, hx, hk, he⟩
      · rcases a3 with h' | ⟨hk, he⟩
        · exact .inl (by omega)
        · exact .inr ⟨y, by simp, hk, by omega⟩
      · exact .inr ⟨x, by simp [hx], hk, he⟩
theorem laws_newest_l0_ev (r : S61) (l : List S61) (hl : l.length ≤ 9223372036854775000) (d : Nat) : ∀ (i : Nat) (v : Int), i + d = l.length →
    Ev (fun k => laws_newest.l0 k l v i r.f0 r.f1 r.f2 r.f3 r.f4 r.f5 r.f6 r.f7) (nwGo r v (l.drop i)) := by
  induction d with
  | zero =>
    intro i v hi
    rw [List.drop_eq_nil_of_le (by omega)]
    apply ev_succ
    simp only [laws_newest.l0]
    exact ev_neg (by omega) (Ev.now _)
  | succ d ih =>
    intro i v hi
    obtain ⟨x, hx⟩ : ∃ x, rd_T61 l (i : Int) = x := ⟨_, rfl⟩
    have hx2 : l.getD i z61 = x := hx
    rw [drop_at l z61 i (by omega), hx2, nwGo]
    apply ev_succ
    simp only [laws_newest.l0, hx, spec_SameKey_eq x r, Option.bind_some]
    rw [w64 (x := (i : Int) + 1) (by omega) (by omega)]
    refine ev_pos (by omega) (ev_pos (by omega) (ev_ite (fun h1 => ev_ite (fun h2 => ?_) (fun h2 => ?_)) (fun h1 => ?_)))
    · rw [if_pos h1, if_pos h2]; exact ih (i + 1) _ (by omega)
    · rw [if_pos h1, if_neg h2]; exact ih (i + 1) _ (by omega)
    · rw [if_neg h1]; exact ih (i + 1) _ (by omega)
theorem laws_newest_ev (l : List S61) (r : S61) (hl : l.length ≤ 9223372036854775000) : Ev (fun k => laws_newest.f k l r.f0 r.f1 r.f2 r.f3 r.f4 r.f5 r.f6 r.f7) (nwGo r 0 l) := laws_newest_l0_ev r l hl l.length 0 0 (by omega)
theorem laws_same_l0_refl (a0 a1 a2 a3 a4 a6 : Int) (a7 : Bool) (l : List S127) (hl : l.length ≤ 9223372036854775000) (d : Nat) : ∀ i : Nat, i + d = l.length →
    Ev (fun k => laws_same.l0 k i a0 a1 a2 a3 a4 l a6 a7 a0 a1 a2 a3 a4 l a6 a7) true := by
  induction d with
  | zero =>
    intro i hi
    apply ev_succ
    simp only [laws_same.l0]
    exact ev_neg (by omega) (Ev.now _)
  | succ d ih =>
    intro i hi
    apply ev_succ
    simp only [laws_same.l0]
    rw [w64 (x := (i : Int) + 1) (by omega) (by omega)]
    exact ev_pos (by omega) (ev_pos (by omega) (ev_pos (by omega) (ev_neg (by simp) (ih (i + 1) (by omega)))))
theorem laws_same_refl (a0 a1 a2 a3 a4 a6 : Int) (a7 : Bool) (l : List S127) (hl : l.length ≤ 9223372036854775000) :
    Ev (fun k => laws_same.f k a0 a1 a2 a3 a4 l a6 a7 a0 a1 a2 a3 a4 l a6 a7) true := by
  unfold laws_same.f
  simp only [if_true]
  refine ev_neg (by simp) (ev_succ ?_)
  simp only [laws_same.j0]
  exact ev_neg (by simp) (laws_same_l0_refl a0 a1 a2 a3 a4 a6 a7 l hl l.length 0 (by omega))
theorem laws_sameStore_l0_refl (l : List S61) (hs : Small l) (d : Nat) : ∀ i : Nat, i + d = l.length → Ev (fun k => laws_sameStore.l0 k l l i) true := by
  have hl1 := hs.1
  induction d with
  | zero =>
    intro i hi
    apply ev_succ
    simp only [laws_sameStore.l0]
    exact ev_neg (by omega) (Ev.now _)
  | succ d ih =>
    intro i hi
    obtain ⟨x, hx⟩ : ∃ x, rd_T61 l (i : Int) = x := ⟨_, rfl⟩
    have hx2 : l.getD i z61 = x := hx
    have hm : x ∈ l := by rw [← hx2]; exact getD_mem l _ i (by omega)
    have hn := hs.2 x hm
    apply ev_succ
    simp only [laws_sameStore.l0, hx]
    rw [w64 (x := (i : Int) + 1) (by omega) (by omega)]
    exact ev_pos (by omega) (ev_pos (by omega) (ev_pos (by omega) (Ev.bind (laws_same_refl _ _ _ _ _ _ _ x.f5 (by omega)) (ev_pos rfl (ih (i + 1) (by omega))))))
theorem laws_sameStore_refl (l : List S61) (hs : Small l) : Ev (fun k => laws_sameStore.f k l l) true := by
  unfold laws_sameStore.f
  exact ev_pos (by first | trivial | rfl) (laws_sameStore_l0_refl l hs l.length 0 (by omega))

theorem before_key {a b : S61} (h : beforeB a b = true) : sameKey a b = false ∧ sameKey b a = false := by
  simp only [beforeB, sameKey, decide_eq_true_eq, decide_eq_false_iff_not] at *
  omega
theorem before_asym {a b c d : S61} (h1 : beforeB a b = true) (h2 : sameKey b c = true) (h3 : beforeB c d = true) (h4 : sameKey d a = true) : False := by
  simp only [beforeB, sameKey, decide_eq_true_eq] at *
  omega
/-- Two stores with the same keys have them in the same places. -/
theorem asc_keys (a : List S61) : ∀ b : List S61, Asc a → Asc b → (∀ x ∈ a, ∃ y ∈ b, sameKey y x = true) → (∀ y ∈ b, ∃ x ∈ a, sameKey x y = true) →
    a.length = b.length ∧ ∀ i : Nat, i < a.length → sameKey (a.getD i z61) (b.getD i z61) = true := by
  induction a with
  | nil =>
    intro b _ _ _ hb
    cases b with
    | nil => exact ⟨rfl, fun i hi => by simp at hi⟩
    | cons y b' => obtain ⟨x, hx, _⟩ := hb y (by simp); cases hx
  | cons x a' ih =>
    intro b hA hB ha hb
    cases b with
    | nil => obtain ⟨y, hy, _⟩ := ha x (by simp); cases hy
    | cons y b' =>
      obtain ⟨a1, a2⟩ := List.pairwise_cons.1 hA
      obtain ⟨b1, b2⟩ := List.pairwise_cons.1 hB
      have hk : sameKey x y = true := by
        obtain ⟨y1, hy1, k1⟩ := ha x (by simp)
        obtain ⟨x1, hx1, k2⟩ := hb y (by simp)
        rcases List.mem_cons.1 hy1 with e | hy2
        · subst e; exact key_symm k1
        · rcases List.mem_cons.1 hx1 with e | hx2
          · subst e; exact k2
          · exact (before_asym (b1 y1 hy2) k1 (a1 x1 hx2) k2).elim
      have hta : ∀ x' ∈ a', ∃ y' ∈ b', sameKey y' x' = true := by
        intro x' hx'
        obtain ⟨y', hy', k⟩ := ha x' (by simp [hx'])
        rcases List.mem_cons.1 hy' with e | hy2
        · subst e
          have := (before_key (a1 x' hx')).1
          rw [key_trans hk k] at this
          cases this
        · exact ⟨y', hy2, k⟩
      have htb : ∀ y' ∈ b', ∃ x' ∈ a', sameKey x' y' = true := by
        intro y' hy'
        obtain ⟨x', hx', k⟩ := hb y' (by simp [hy'])
        rcases List.mem_cons.1 hx' with e | hx2
        · subst e
          have := (before_key (b1 y' hy')).1
          rw [key_trans (key_symm hk) k] at this
          cases this
        · exact ⟨x', hx2, k⟩
      obtain ⟨h1, h2⟩ := ih b' a2 b2 hta htb
      refine ⟨by simp [h1], fun i hi => ?_⟩
      cases i with
      | zero => exact hk
      | succ j => exact h2 j (by simpa using hi)
theorem impl_Find_ev (s : List S61) (r : S61) (hs : Small s) (hA : Asc s) (hr : r ∈ s) :
    Ev (fun k => impl_Find.f k s r.f0 r.f1 r.f2 r.f3 r.f4 r.f5 r.f6 r.f7) (r.f0, r.f1, r.f2, r.f3, r.f4, r.f5, r.f6, r.f7, true) := by
  unfold impl_Find.f
  refine Ev.bind (impl_keyAt_ev s r hs.lens.1) ?_
  rcases keyB_cases s r with ⟨_, h⟩ | ⟨j, j1, j2, j3, _⟩
  · have := h r hr; rw [key_refl r] at this; cases this
  · have hm : s.getD j z61 ∈ s := getD_mem s _ j j1
    have e := asc_inj hA _ hm _ hr j3
    have hrd : rd_T61 s (j : Int) = r := e
    rw [j2]
    simp only [hrd, impl_copyRecord_eq r (hs.2 r hr), Option.bind_some]
    exact ev_neg (by omega) (ev_pos (by omega) (ev_pos (by omega) (Ev.now _)))

theorem recR_seq {y : S61} (h : recR y = true) : 1 ≤ y.f4 ∧ (y.f0 = 0 ∨ y.f0 = 1 ∨ y.f0 = 2 ∨ y.f0 = 9) := by
  have e : recR y = (decide (1 ≤ y.f2 ∧ y.f2 ≤ 6) && decide (1 ≤ y.f4 ∧ y.f4 ≤ 100000) && recK y.f0 y.f1 y.f2 y.f3 y.f5 y.f6 y.f7) := rfl
  rw [e] at h
  simp only [Bool.and_eq_true, decide_eq_true_eq] at h
  refine ⟨h.1.2.1, ?_⟩
  replace h := h.2
  unfold recK at h
  by_cases h1 : y.f1 = 1
  · rw [if_pos h1] at h
    simp only [Bool.and_eq_true, decide_eq_true_eq] at h
    have := h.1.1.1.1
    omega
  · rw [if_neg h1] at h
    by_cases h2 : y.f1 = 2
    · rw [if_pos h2] at h
      simp only [Bool.and_eq_true, decide_eq_true_eq] at h
      have := h.1.1.1.1
      omega
    · rw [if_neg h2] at h
      by_cases h3 : y.f1 = 3
      · rw [if_pos h3] at h
        simp only [Bool.and_eq_true, decide_eq_true_eq] at h
        have := h.1.1.1
        omega
      · rw [if_neg h3] at h
        cases h

theorem learnL_snoc (t : List S61) (r : S61) : ∀ s f, (learnL s f (t ++ [r])).1 = if instB (learnL s f t).1 r = true then putL (learnL s f t).1 r else (learnL s f t).1 := by
  induction t with
  | nil =>
    intro s f
    show (learnL s f [r]).1 = if instB s r = true then putL s r else s
    rw [learnL]
    by_cases h : instB s r = true
    · rw [if_pos h, if_pos h]; rfl
    · rw [if_neg h, if_neg h]; rfl
  | cons y t ih =>
    intro s f
    show (learnL s f (y :: (t ++ [r]))).1 = if instB (learnL s f (y :: t)).1 r = true then putL (learnL s f (y :: t)).1 r else (learnL s f (y :: t)).1
    rw [learnL, learnL]
    by_cases h : instB s y = true
    · rw [if_pos h, if_pos h]; exact ih _ _
    · rw [if_neg h, if_neg h]; exact ih _ _
/-- What comes in is what is newer than the newest of its key. -/
theorem inst_newest {a : List S61} {x : S61} (ha : storeB a = true) (hl : a.length < 150) (hx : recR x = true) : instB a x = decide (nwGo x 0 a < x.f4) := by
  obtain ⟨_, h2, h3⟩ := (storeB_iff a).1 ha
  obtain ⟨_, n2, n3⟩ := nwGo_spec x a 0
  have hx1 := (recR_seq hx).1
  rw [instB, hx, Bool.true_and]
  rcases keyB_cases a x with ⟨j2, h⟩ | ⟨j, j1, j2, j3, _⟩
  · rw [newB_none (by omega), decide_eq_true hl]
    rcases n3 with e | ⟨y, hy, hk, _⟩
    · rw [e, decide_eq_true (by omega)]
    · rw [h y hy] at hk; cases hk
  · have hm : a.getD j z61 ∈ a := getD_mem a _ j j1
    rw [newB_key (by omega), j2, Int.toNat_natCast]
    have u := n2 _ hm j3
    have hf := (recR_seq (h2 _ hm)).1
    rcases n3 with e | ⟨y, hy, hk, e⟩
    · omega
    · have e2 := asc_inj h3 _ hm _ hy (key_trans j3 (key_symm hk))
      rw [e2, e]

theorem impl_copyRecords_l0_ev (l : List S61) (hs : Small l) (d : Nat) : ∀ (i : Nat) (acc : List S61), i + d = l.length → acc.length ≤ i →
    Ev (fun k => impl_copyRecords.l0 k acc l (l.length : Int) i) (acc ++ l.drop i) := by
  have hl1 := hs.1
  induction d with
  | zero =>
    intro i acc hi ha
    rw [List.drop_eq_nil_of_le (by omega)]
    apply ev_succ
    simp only [impl_copyRecords.l0]
    exact ev_neg (by omega) (ev_some (by simp))
  | succ d ih =>
    intro i acc hi ha
    obtain ⟨x, hx⟩ : ∃ x, rd_T61 l (i : Int) = x := ⟨_, rfl⟩
    have hx2 : l.getD i z61 = x := hx
    have hm : x ∈ l := by rw [← hx2]; exact getD_mem l _ i (by omega)
    have hn := hs.2 x hm
    have hr1 := ih (i + 1) (acc ++ [x]) (by omega) (by simp; omega)
    rw [drop_at l z61 i (by omega), hx2]
    apply ev_succ
    simp only [impl_copyRecords.l0, hx, impl_copyRecord_eq x hn, Option.bind_some]
    rw [w64 (x := (i : Int) + 1) (by omega) (by omega)]
    exact ev_pos (by omega) (ev_pos (by omega) (ev_pos (by omega) (ev_pos (by omega) (ev_to hr1 (by simp)))))
theorem impl_copyRecords_ev (l : List S61) (hs : Small l) : Ev (fun k => impl_copyRecords.f k l) l := ev_to (impl_copyRecords_l0_ev l hs l.length 0 [] (by omega) (by simp)) (by simp)

theorem impl_Before_eq (a b : S61) : impl_Before.f a.f0 a.f1 a.f2 a.f3 a.f4 a.f5 a.f6 a.f7 b.f0 b.f1 b.f2 b.f3 b.f4 b.f5 b.f6 b.f7 = some (beforeB a b) := by
  unfold impl_Before.f beforeB
  by_cases h0 : a.f0 = b.f0
  · by_cases h1 : a.f1 = b.f1
    · by_cases h2 : a.f2 = b.f2
      · rw [if_pos h0, if_pos h1, if_pos h2]
        congr 1
        rw [Bool.eq_iff_iff, decide_eq_true_eq, decide_eq_true_eq]
        omega
      · rw [if_pos h0, if_pos h1, if_neg h2]
        congr 1
        rw [Bool.eq_iff_iff, decide_eq_true_eq, decide_eq_true_eq]
        omega
    · rw [if_pos h0, if_neg h1]
      congr 1
      rw [Bool.eq_iff_iff, decide_eq_true_eq, decide_eq_true_eq]
      omega
  · rw [if_neg h0]
    congr 1
    rw [Bool.eq_iff_iff, decide_eq_true_eq, decide_eq_true_eq]
    omega

theorem Small.take {s : List S61} (h : Small s) (i : Nat) : Small (s.take i) := ⟨by have := h.1; rw [List.length_take]; omega, fun x hx => h.2 x (List.mem_of_mem_take hx)⟩
theorem Small.drop {s : List S61} (h : Small s) (i : Nat) : Small (s.drop i) := ⟨by have := h.1; rw [List.length_drop]; omega, fun x hx => h.2 x (List.mem_of_mem_drop hx)⟩
theorem impl_put_j1_ev (s : List S61) (r : S61) (hs : Small s) (hr : r.f5.length ≤ 1048576) (hA : Asc s) (i : Nat) (hi : i ≤ s.length) (hp : ∀ x ∈ s.take i, beforeB x r = true) (hq : ∀ x, (s.drop i).head? = some x → beforeB x r = false) :
    Ev (fun k => impl_put.j1 k s i r.f0 r.f1 r.f2 r.f3 r.f4 r.f5 r.f6 r.f7) (putL s r) := by
  have hl1 := hs.1
  have hsp := putL_split (s.take i) (s.drop i) r (by rw [List.take_append_drop]; exact hA) hp hq
  rw [List.take_append_drop] at hsp
  rw [hsp]
  have hT := impl_copyRecords_ev (s.take i) (hs.take i)
  have hlt : (s.take i).length = i := by rw [List.length_take]; omega
  apply ev_succ
  simp only [impl_put.j1, impl_copyRecord_eq r hr, Option.bind_some, Int.toNat_natCast]
  refine ev_pos (by omega) (ev_pos (by omega) (Ev.bind hT (ev_pos (by omega) ?_)))
  refine ev_ite (fun h1 => ?_) (fun h1 => ?_)
  · obtain ⟨x, hx⟩ : ∃ x, rd_T61 s (i : Int) = x := ⟨_, rfl⟩
    have hx2 : s.getD i z61 = x := hx
    have hd : s.drop i = x :: s.drop (i + 1) := by rw [drop_at s z61 i (by omega), hx2]
    simp only [hx, impl_SameKey_eq, Option.bind_some]
    rw [w64 (x := (i : Int) + 1) (by omega) (by omega)]
    refine ev_ite (fun h2 => ?_) (fun h2 => ?_)
    · have hD := impl_copyRecords_ev (s.drop (i + 1)) (hs.drop (i + 1))
      have hld : (s.drop (i + 1)).length ≤ s.length := by rw [List.length_drop]; omega
      rw [show ((i : Int) + 1).toNat = i + 1 by omega]
      refine ev_pos (by omega) (ev_pos (by omega) (Ev.bind hD (ev_pos (by simp only [List.length_append, List.length_cons, List.length_nil]; omega) (ev_some ?_))))
      rw [hd, behind, if_pos h2]
      simp
    · have hD := impl_copyRecords_ev (s.drop i) (hs.drop i)
      have hld : (s.drop i).length ≤ s.length := by rw [List.length_drop]; omega
      refine Ev.bind hD (ev_pos (by simp only [List.length_append, List.length_cons, List.length_nil]; omega) (ev_some ?_))
      rw [hd, behind, if_neg h2]
      simp
  · have hD := impl_copyRecords_ev (s.drop i) (hs.drop i)
    have hld : (s.drop i).length ≤ s.length := by rw [List.length_drop]; omega
    refine Ev.bind hD (ev_pos (by simp only [List.length_append, List.length_cons, List.length_nil]; omega) (ev_some ?_))
    rw [List.drop_eq_nil_of_le (by omega)]
    simp [behind]
theorem impl_put_l0_ev (s : List S61) (r : S61) (hs : Small s) (hr : r.f5.length ≤ 1048576) (hA : Asc s) (d : Nat) : ∀ i : Nat, i + d = s.length → (∀ x ∈ s.take i, beforeB x r = true) →
    Ev (fun k => impl_put.l0 k s i r.f0 r.f1 r.f2 r.f3 r.f4 r.f5 r.f6 r.f7) (putL s r) := by
  have hl1 := hs.1
  induction d with
  | zero =>
    intro i hi hp
    apply ev_succ
    simp only [impl_put.l0]
    refine ev_neg (by omega) (impl_put_j1_ev s r hs hr hA i (by omega) hp ?_)
    rw [List.drop_eq_nil_of_le (by omega)]
    intro x hx
    cases hx
  | succ d ih =>
    intro i hi hp
    obtain ⟨x, hx⟩ : ∃ x, rd_T61 s (i : Int) = x := ⟨_, rfl⟩
    have hx2 : s.getD i z61 = x := hx
    have hd : s.drop i = x :: s.drop (i + 1) := by rw [drop_at s z61 i (by omega), hx2]
    apply ev_succ
    simp only [impl_put.l0, hx, impl_Before_eq, Option.bind_some]
    rw [w64 (x := (i : Int) + 1) (by omega) (by omega)]
    refine ev_pos (by omega) (ev_pos (by omega) (ev_ite (fun h1 => ?_) (fun h1 => ?_)))
    · refine ih (i + 1) (by omega) (fun y hy => ?_)
      rw [List.take_succ_eq_append_getElem (by omega)] at hy
      rcases List.mem_append.1 hy with hy | hy
      · exact hp y hy
      · have hy2 : y = x := by
          rw [List.mem_singleton] at hy
          rw [hy, ← hx2, List.getD_eq_getElem?_getD, List.getElem?_eq_getElem (by omega)]
          rfl
        rw [hy2]; exact h1
    · refine impl_put_j1_ev s r hs hr hA i (by omega) hp (fun y hy => ?_)
      rw [hd] at hy
      have hy2 : x = y := by simpa using hy
      rw [← hy2]
      simpa using h1
theorem impl_put_ev (s : List S61) (r : S61) (hs : Small s) (hr : r.f5.length ≤ 1048576) (hA : Asc s) : Ev (fun k => impl_put.f k s r.f0 r.f1 r.f2 r.f3 r.f4 r.f5 r.f6 r.f7) (putL s r) :=
  impl_put_l0_ev s r hs hr hA s.length 0 (by omega) (by simp)

theorem impl_nearOk_l0_ev (q0 q1 ow q3 q4 q6 : Int) (q7 : Bool) (l : List S127) (hl : l.length ≤ 9223372036854775807) (d : Nat) : ∀ i : Nat, i + d = l.length →
    Ev (fun k => impl_nearOk.l0 k l (l.length : Int) i q0 q1 ow q3 q4 l q6 q7) (nearGo ow (pvN l i) (l.drop i)) := by
  induction d with
  | zero =>
    intro i hi
    rw [List.drop_eq_nil_of_le (by omega)]
    apply ev_succ
    simp only [impl_nearOk.l0]
    exact ev_neg (by omega) (ev_some rfl)
  | succ d ih =>
    intro i hi
    have hr := ih (i + 1) (by omega)
    obtain ⟨x, hx⟩ : ∃ x, rd_T127 l (i : Int) = x := ⟨_, rfl⟩
    have hx2 : l.getD i z127 = x := hx
    rw [pvN_succ, hx2] at hr
    rw [drop_at l z127 i (by omega), hx2]
    apply ev_succ
    simp only [impl_nearOk.l0, impl_in_eq, Option.bind_some, decide_eq_true_eq, hx]
    rw [nearGo]
    refine ev_pos (by omega) (ev_pos (by omega) (ev_pos (by omega) ?_))
    refine ev_ite (fun h1 => ?_) (fun h1 => ev_some (by rw [decide_eq_false h1]; rfl))
    refine ev_ite (fun h2 => ev_some (by rw [decide_eq_true h1, decide_eq_true h2]; rfl)) (fun h2 => ?_)
    refine ev_ite (fun h3 => ?_) (fun h3 => ev_some (by rw [decide_eq_true h1, decide_eq_false h2, decide_eq_false h3]; rfl))
    refine ev_ite (fun h4 => ?_) (fun h4 => ?_)
    · have h0 : 0 < i := by omega
      refine ev_pos (by rw [w64 (by omega) (by omega)]; omega) (ev_pos (by rw [w64 (by omega) (by omega)]; omega) ?_)
      have hp : pvN l i = some (l.getD (i - 1) z127).f0 := by unfold pvN; rw [if_neg (by omega)]
      rw [hp, rdNp l i h0 (by omega)]
      refine ev_ite (fun h5 => ev_some ?_) (fun h5 => ?_)
      · have h6 : ¬ ((l.getD (i - 1) z127).f0 < x.f0) := by omega
        simp only [Option.all_some, decide_eq_false h6, Bool.and_false, Bool.false_and]
      · have h6 : (l.getD (i - 1) z127).f0 < x.f0 := by omega
        rw [w64 (by omega) (by omega)]
        refine ev_to hr ?_
        simp only [Option.all_some, decide_eq_true h6, decide_eq_true h1, decide_eq_false h2, decide_eq_true h3, Bool.true_and, Bool.not_false]
    · have h0 : i = 0 := by omega
      have hp : pvN l i = none := by rw [h0]; rfl
      rw [hp, w64 (by omega) (by omega)]
      refine ev_to hr ?_
      simp only [Option.all_none, decide_eq_true h1, decide_eq_false h2, decide_eq_true h3, Bool.true_and, Bool.not_false]
theorem impl_nearOk_ev (q0 q1 ow q3 q4 q6 : Int) (q7 : Bool) (l : List S127) (hl : l.length ≤ 9223372036854775807) : Ev (fun k => impl_nearOk.f k q0 q1 ow q3 q4 l q6 q7) (nearB ow l) :=
  impl_nearOk_l0_ev q0 q1 ow q3 q4 q6 q7 l hl l.length 0 (by omega)

-- impl_RecordOk
/-! impl_RecordOk -/
theorem impl_RecordOk_ev (ar ki ow ke se : Int) (l : List S127) (co : Int) (fa : Bool) (hl : l.length ≤ 9223372036854775807) : Ev (fun k => impl_RecordOk.f k ar ki ow ke se l co fa) (recB ar ki ow ke se l co fa) := by
  have hj : ∀ b : Bool, Ev (fun k => impl_RecordOk.j0 k b ar ki ow ke se l co fa) (!b && recK ar ki ow ke l co fa) := by
    intro b
    apply ev_succ
    simp only [impl_RecordOk.j0, impl_in_eq, Option.bind_some, decide_eq_true_eq]
    refine ev_ite (fun hb => ev_some (by simp [hb])) (fun hb => ?_)
    have hb' : b = false := by simpa using hb
    rw [hb']
    unfold recK
    refine ev_ite (fun h1 => ?_) (fun h1 => ?_)
    · rw [if_pos h1]
      refine ev_ite (fun h2 => ?_) (fun h2 => ev_some (by simp [h2]))
      refine ev_ite (fun h3 => ?_) (fun h3 => ev_some (by simp [h3]))
      refine Ev.bind (impl_nearOk_ev ar ki ow ke se co fa l hl) ?_
      refine ev_ite (fun h4 => ?_) (fun h4 => ev_some (by simp [h4]))
      refine ev_ite (fun h5 => ev_some ?_) (fun h5 => ev_some (by simp [h5]))
      simp [h2, h3, h4, h5]
    · rw [if_neg h1]
      refine ev_ite (fun h1 => ?_) (fun h1 => ?_)
      · rw [if_pos h1]
        refine ev_ite (fun h2 => ?_) (fun h2 => ev_some (by simp [h2]))
        refine ev_ite (fun h3 => ?_) (fun h3 => ev_some (by simp [h3]))
        refine ev_ite (fun h4 => ?_) (fun h4 => ev_some ?_)
        · have h4' : l.length = 0 := by omega
          refine ev_ite (fun h5 => ev_some ?_) (fun h5 => ev_some (by simp [h5]))
          simp [h2, h3, h4', h5]
        · have h4' : ¬ l.length = 0 := by omega
          simp [h4']
      · rw [if_neg h1]
        refine ev_ite (fun h1 => ?_) (fun h1 => ?_)
        · rw [if_pos h1]
          refine ev_ite (fun h2 => ?_) (fun h2 => ev_some (by simp [h2]))
          refine ev_ite (fun h3 => ?_) (fun h3 => ev_some (by simp [h3]))
          refine ev_ite (fun h4 => ?_) (fun h4 => ev_some ?_)
          · have h4' : l.length = 0 := by omega
            refine ev_ite (fun h5 => ev_some ?_) (fun h5 => ev_some ?_)
            · simp [h2, h3, h4', h5]
            · simp [h2, h3, h4', h5]
          · have h4' : ¬ l.length = 0 := by omega
            simp [h4']
        · rw [if_neg h1]
          exact ev_some (by simp)
  unfold impl_RecordOk.f
  simp only [impl_in_eq, Option.bind_some, decide_eq_true_eq]
  unfold recB
  refine ev_ite (fun h1 => ?_) (fun h1 => ?_)
  · exact ev_to (hj _) (by simp [h1])
  · exact ev_to (hj _) (by simp [h1])

theorem impl_StoreOk_l0_ev (l : List S61) (hl : Lens l) (d : Nat) : ∀ i : Nat, i + d = l.length →
    Ev (fun k => impl_StoreOk.l0 k l l (l.length : Int) i) (decide (l.length ≤ 150) && storeGo (pvR l i) (l.drop i)) := by
  have hl1 := hl.1
  induction d with
  | zero =>
    intro i hi
    rw [List.drop_eq_nil_of_le (by omega)]
    apply ev_succ
    simp only [impl_StoreOk.l0]
    exact ev_neg (by omega) (ev_some (by rw [storeGo, Bool.and_true]; by_cases h : l.length ≤ 150 <;> simp [h] <;> omega))
  | succ d ih =>
    intro i hi
    have hr := ih (i + 1) (by omega)
    obtain ⟨x, hx⟩ : ∃ x, rd_T61 l (i : Int) = x := ⟨_, rfl⟩
    have hx2 : l.getD i z61 = x := hx
    have hm : x ∈ l := by rw [← hx2]; exact getD_mem l _ i (by omega)
    have hn := hl.2 x hm
    rw [pvR_succ, hx2] at hr
    rw [drop_at l z61 i (by omega), hx2, storeGo]
    apply ev_succ
    simp only [impl_StoreOk.l0, hx]
    rw [w64 (x := (i : Int) + 1) (by omega) (by omega)]
    refine ev_pos (by omega) (ev_pos (by omega) (ev_pos (by omega) ?_))
    refine Ev.bind (impl_RecordOk_ev x.f0 x.f1 x.f2 x.f3 x.f4 x.f5 x.f6 x.f7 (by omega)) ?_
    have hrec : recB x.f0 x.f1 x.f2 x.f3 x.f4 x.f5 x.f6 x.f7 = recR x := rfl
    rw [hrec]
    refine ev_ite (fun h1 => ?_) (fun h1 => ev_some (by simp [h1]))
    refine ev_ite (fun h2 => ?_) (fun h2 => ?_)
    · have h0 : 0 < i := by omega
      have hp : pvR l i = some (l.getD (i - 1) z61) := by unfold pvR; rw [if_neg (by omega)]
      rw [hp]
      simp only [rdRp l i h0 (by omega), impl_Before_eq, Option.bind_some]
      refine ev_pos (by rw [w64 (by omega) (by omega)]; omega) (ev_pos (by rw [w64 (by omega) (by omega)]; omega) ?_)
      refine ev_ite (fun h3 => ?_) (fun h3 => ev_some ?_)
      · refine ev_to hr ?_
        simp only [Option.all_some, h1, h3, Bool.true_and]
      · have h3' : beforeB (l.getD (i - 1) z61) x = false := by simpa using h3
        simp only [Option.all_some, h3', Bool.and_false, Bool.false_and]
    · have h0 : i = 0 := by omega
      have hp : pvR l i = none := by rw [h0]; rfl
      rw [hp]
      refine ev_to hr ?_
      simp [h1]
theorem impl_StoreOk_ev (l : List S61) (hl : Lens l) : Ev (fun k => impl_StoreOk.f k l) (storeB l) :=
  impl_StoreOk_l0_ev l hl l.length 0 (by omega)

theorem impl_Install_j0_ev (s : List S61) (r : S61) (hs : Small s) (hr : r.f5.length ≤ 1048576) (b : Bool) (hb : b = false → Asc s) :
    Ev (fun k => impl_Install.j0 k s b r.f0 r.f1 r.f2 r.f3 r.f4 r.f5 r.f6 r.f7) (if (!b && newB s r) = true then (putL s r, true) else ([], false)) := by
  have hl1 := hs.1
  have hk := keyB_lt s r
  apply ev_succ
  simp only [impl_Install.j0]
  refine ev_ite (fun h1 => ev_some (by simp [h1])) (fun h1 => ?_)
  have h1' : b = false := by simpa using h1
  have hA := hb h1'
  have hP := impl_put_ev s r hs hr hA
  subst h1'
  refine Ev.bind (impl_keyAt_ev s r hs.lens.1) ?_
  simp only [Bool.not_false, Bool.true_and]
  have hrd : rd_T61 s (keyB s r) = s.getD (keyB s r).toNat z61 := rfl
  simp only [hrd]
  refine ev_ite (fun h2 => ?_) (fun h2 => ?_)
  · rw [newB_key (s := s) (r := r) (by omega)]
    refine ev_pos (by omega) (ev_pos hk (ev_ite (fun h3 => ev_some ?_) (fun h3 => ?_)))
    · rw [if_neg (by rw [decide_eq_true_eq]; omega)]
    · refine ev_neg (by omega) ?_
      rw [if_pos (by rw [decide_eq_true_eq]; omega)]
      exact Ev.bind hP (Ev.now _)
  · rw [newB_none (s := s) (r := r) (by omega)]
    refine ev_pos (by omega) (ev_ite (fun h3 => ev_some ?_) (fun h3 => ?_))
    · rw [if_neg (by rw [decide_eq_true_eq]; omega)]
    · rw [if_pos (by rw [decide_eq_true_eq]; omega)]
      exact Ev.bind hP (Ev.now _)
theorem impl_Install_ev (s : List S61) (r : S61) (hs : Small s) (hr : r.f5.length ≤ 1048576) :
    Ev (fun k => impl_Install.f k s r.f0 r.f1 r.f2 r.f3 r.f4 r.f5 r.f6 r.f7) (if (storeB s && instB s r) = true then (putL s r, true) else ([], false)) := by
  unfold impl_Install.f
  refine Ev.bind (impl_StoreOk_ev s hs.lens) (ev_ite (fun h1 => ?_) (fun h1 => ?_))
  · refine Ev.bind (impl_RecordOk_ev r.f0 r.f1 r.f2 r.f3 r.f4 r.f5 r.f6 r.f7 (by omega)) ?_
    refine ev_to (impl_Install_j0_ev s r hs hr _ (fun _ => ((storeB_iff s).1 h1).2.2)) ?_
    rw [h1, Bool.true_and, Bool.not_not]
    rfl
  · refine ev_to (impl_Install_j0_ev s r hs hr true (fun h => by cases h)) ?_
    simp [h1]

def stA (L : List S61) (i : Nat) : List S61 := (learnL [] [] (L.take i)).1
theorem learnL_len (t : List S61) : ∀ s f, (learnL s f t).1.length ≤ s.length + t.length := by
  induction t with
  | nil => intro s f; exact Nat.le_refl _
  | cons y t ih =>
    intro s f
    rw [learnL]
    by_cases h : instB s y = true
    · rw [if_pos h]
      have h1 := ih (putL s y) (f ++ [y])
      have h2 := (putL_length s y).1
      simp only [List.length_cons]
      omega
    · rw [if_neg h]
      have h1 := ih s f
      simp only [List.length_cons]
      omega
theorem stA_ok (L : List S61) (hr : ∀ x ∈ L, x.f5.length ≤ 7) (i : Nat) : storeB (stA L i) = true ∧ Small (stA L i) ∧ (stA L i).length ≤ L.length := by
  obtain ⟨h1, h2, _, _⟩ := learnL_small (L.take i) [] [] (by simp [storeB, storeGo]) (by simp) (fun x hx => by have := hr x (List.mem_of_mem_take hx); omega) (by simp)
  have h3 := learnL_len (L.take i) [] []
  have h4 : (L.take i).length ≤ L.length := List.length_take_le' _ _
  simp only [List.length_nil] at h3
  exact ⟨h1, h2, by unfold stA; omega⟩
theorem stA_succ (L : List S61) (i : Nat) (hi : i < L.length) : stA L (i + 1) = if instB (stA L i) (L.getD i z61) = true then putL (stA L i) (L.getD i z61) else stA L i := by
  have e : L.getD i z61 = L[i] := by
    rw [List.getD_eq_getElem?_getD, List.getElem?_eq_getElem hi]
    rfl
  unfold stA
  rw [List.take_succ_eq_append_getElem hi, learnL_snoc, e]
theorem rev_getD (L : List S61) (i : Nat) (hi : i < L.length) : L.reverse.getD i z61 = L.getD (L.length - 1 - i) z61 := by
  rw [List.getD_eq_getElem?_getD, List.getD_eq_getElem?_getD, List.getElem?_reverse hi]
theorem laws_FnStores_l0_ev (L : List S61) (hn : L.length ≤ 14) (hr : ∀ x ∈ L, recR x = true ∧ x.f5.length ≤ 7)
    (hE : Ev (fun k => laws_FnStores.l0 k L (stA L L.length) (stA L.reverse L.length) L.length) true) (d : Nat) : ∀ i : Nat, i + d = L.length →
    Ev (fun k => laws_FnStores.l0 k L (stA L i) (stA L.reverse i) i) true := by
  induction d with
  | zero =>
    intro i hi
    have e : i = L.length := by omega
    subst e
    exact hE
  | succ d ih =>
    intro i hi
    have hrec := ih (i + 1) (by omega)
    have hm : L.getD i z61 ∈ L := getD_mem L _ i (by omega)
    have hm2 : L.getD (L.length - 1 - i) z61 ∈ L := getD_mem L _ _ (by omega)
    obtain ⟨a1, a2, a3⟩ := stA_ok L (fun x hx => (hr x hx).2) i
    obtain ⟨b1, b2, b3⟩ := stA_ok L.reverse (fun x hx => (hr x (List.mem_reverse.1 hx)).2) i
    rw [List.length_reverse] at b3
    rw [stA_succ L i (by omega), stA_succ L.reverse i (by rw [List.length_reverse]; omega), rev_getD L i (by omega)] at hrec
    have hrd : rd_T61 L (i : Int) = L.getD i z61 := rfl
    have hw : wrap64 (wrap64 ((L.length : Int) - 1) - (i : Int)) = ((L.length - 1 - i : Nat) : Int) := by
      rw [w64 (x := (L.length : Int) - 1) (by omega) (by omega), w64 (by omega) (by omega)]
      omega
    have hrd2 : rd_T61 L ((L.length - 1 - i : Nat) : Int) = L.getD (L.length - 1 - i) z61 := rfl
    have hw2 : wrap64 ((i : Int) + 1) = ((i + 1 : Nat) : Int) := by rw [w64 (by omega) (by omega)]; omega
    generalize L.getD i z61 = x at *
    generalize L.getD (L.length - 1 - i) z61 = y at *
    generalize stA L i = a at *
    generalize stA L.reverse i = b at *
    have I1 := impl_Install_ev a x a2 (by have := (hr x hm).2; omega)
    have I2 := impl_Install_ev b y b2 (by have := (hr y hm2).2; omega)
    rw [a1, Bool.true_and] at I1
    rw [b1, Bool.true_and] at I2
    have hin := inst_newest a1 (by omega) (hr x hm).1
    apply ev_succ
    simp only [laws_FnStores.l0, hrd, hw, hrd2, hw2]
    refine ev_pos (by omega) (ev_pos (by omega) (Ev.bind I1 (Ev.bind (laws_newest_ev a x (by omega)) ?_)))
    by_cases h1 : instB a x = true
    · rw [if_pos h1] at hrec
      rw [if_pos h1]
      refine ev_neg (by rw [← hin, h1]; simp) (ev_pos rfl (ev_pos (by omega) (ev_pos (by omega) (Ev.bind I2 ?_))))
      by_cases h2 : instB b y = true
      · rw [if_pos h2] at hrec
        rw [if_pos h2]
        exact ev_pos rfl hrec
      · rw [if_neg h2] at hrec
        rw [if_neg h2]
        exact ev_neg (by simp) hrec
    · rw [if_neg h1] at hrec
      rw [if_neg h1]
      refine ev_neg (by rw [← hin, Bool.eq_false_iff.2 h1]; simp) (ev_neg (by simp) (ev_pos (by omega) (ev_pos (by omega) (Ev.bind I2 ?_))))
      by_cases h2 : instB b y = true
      · rw [if_pos h2] at hrec
        rw [if_pos h2]
        exact ev_pos rfl hrec
      · rw [if_neg h2] at hrec
        rw [if_neg h2]
        exact ev_neg (by simp) hrec

theorem impl_learned_l0_no (s f t : List S61) (hs : Small s) (ht : Small t) (hn : ¬ storeB s = true) (d : Nat) : ∀ i : Nat, i + d = t.length → Ev (fun k => impl_learned.l0 k s f t (t.length : Int) i) (s, f) := by
  have hl1 := ht.1
  induction d with
  | zero =>
    intro i hi
    apply ev_succ
    simp only [impl_learned.l0]
    exact ev_neg (by omega) (Ev.now _)
  | succ d ih =>
    intro i hi
    obtain ⟨x, hx⟩ : ∃ x, rd_T61 t (i : Int) = x := ⟨_, rfl⟩
    have hx2 : t.getD i z61 = x := hx
    have hm : x ∈ t := by rw [← hx2]; exact getD_mem t _ i (by omega)
    have hI := impl_Install_ev s x hs (ht.2 x hm)
    rw [if_neg (by simp [hn])] at hI
    apply ev_succ
    simp only [impl_learned.l0, hx]
    rw [w64 (x := (i : Int) + 1) (by omega) (by omega)]
    exact ev_pos (by omega) (ev_pos (by omega) (ev_pos (by omega) (Ev.bind hI (ev_neg (by simp) (ih (i + 1) (by omega))))))
theorem impl_learned_l0_ev (t : List S61) (ht : Small t) (d : Nat) : ∀ (i : Nat) (s f : List S61), i + d = t.length → storeB s = true → (∀ x ∈ s, x.f5.length ≤ 1048576) → f.length ≤ i →
    Ev (fun k => impl_learned.l0 k s f t (t.length : Int) i) (learnL s f (t.drop i)) := by
  have hl1 := ht.1
  induction d with
  | zero =>
    intro i s f hi h1 h2 hf
    rw [List.drop_eq_nil_of_le (by omega)]
    apply ev_succ
    simp only [impl_learned.l0]
    exact ev_neg (by omega) (Ev.now _)
  | succ d ih =>
    intro i s f hi h1 h2 hf
    obtain ⟨x, hx⟩ : ∃ x, rd_T61 t (i : Int) = x := ⟨_, rfl⟩
    have hx2 : t.getD i z61 = x := hx
    have hm : x ∈ t := by rw [← hx2]; exact getD_mem t _ i (by omega)
    have hI := impl_Install_ev s x (store_small h1 h2) (ht.2 x hm)
    rw [h1, Bool.true_and] at hI
    rw [drop_at t z61 i (by omega), hx2, learnL]
    apply ev_succ
    simp only [impl_learned.l0, hx, impl_copyRecord_eq x (ht.2 x hm), Option.bind_some]
    rw [w64 (x := (i : Int) + 1) (by omega) (by omega)]
    refine ev_pos (by omega) (ev_pos (by omega) (ev_pos (by omega) (Ev.bind hI ?_)))
    by_cases hi2 : instB s x = true
    · simp only [if_pos hi2]
      exact ev_pos (by trivial) (ev_pos (by omega) (ih (i + 1) (putL s x) (f ++ [x]) (by omega) (putL_store h1 hi2) (putL_near h2 (ht.2 x hm)) (by simp; omega)))
    · simp only [if_neg hi2]
      exact ev_neg (by simp) (ih (i + 1) s f (by omega) h1 h2 (by omega))
theorem impl_learned_ev (s t : List S61) (hs : Small s) (ht : Small t) : Ev (fun k => impl_learned.f k s t) (if storeB s = true then learnL s [] t else (s, [])) := by
  unfold impl_learned.f
  refine Ev.bind (impl_copyRecords_ev s hs) ?_
  split
  · rename_i h
    exact impl_learned_l0_ev t ht t.length 0 s [] (by omega) h hs.2 (by simp)
  · rename_i h
    exact impl_learned_l0_no s [] t hs ht h t.length 0 (by omega)
theorem impl_Merge_ev (s t : List S61) (hs : Small s) (ht : Small t) : Ev (fun k => impl_Merge.f k s t) (mergeL s t) := by
  unfold impl_Merge.f
  refine Ev.bind (impl_learned_ev s t hs ht) (ev_some ?_)
  unfold mergeL
  split <;> rfl

theorem laws_FnStores_l1_ev (L A B : List S61) (hL : Small L) (hA : Asc A) (sA : Small A) (hB : Asc B) (sB : Small B)
    (hlen : A.length = B.length) (hkey : ∀ i : Nat, i < A.length → sameKey (A.getD i z61) (B.getD i z61) = true)
    (hseq : ∀ z ∈ A, ∀ w ∈ B, sameKey z w = true → z.f4 = w.f4) (hnew : ∀ z ∈ A, z.f4 = nwGo z 0 L) (hM : Ev (fun k => impl_Merge.f k ([] : List S61) L) A) (d : Nat) : ∀ i : Nat, i + d = A.length →
    Ev (fun k => laws_FnStores.l1 k L A B i) true := by
  have hl1 := sA.1
  have hl2 := hL.1
  induction d with
  | zero =>
    intro i hi
    apply ev_succ
    simp only [laws_FnStores.l1]
    exact ev_neg (by omega) (Ev.bind hM (Ev.bind (laws_sameStore_refl A sA) (Ev.now _)))
  | succ d ih =>
    intro i hi
    have hr := ih (i + 1) (by omega)
    have hk := hkey i (by omega)
    have hm : A.getD i z61 ∈ A := getD_mem A _ i (by omega)
    have hm2 : B.getD i z61 ∈ B := getD_mem B _ i (by omega)
    have hs := hseq _ hm _ hm2 hk
    have hn := hnew _ hm
    have hrd : rd_T61 A (i : Int) = A.getD i z61 := rfl
    have hrd2 : rd_T61 B (i : Int) = B.getD i z61 := rfl
    have hw2 : wrap64 ((i : Int) + 1) = ((i + 1 : Nat) : Int) := by rw [w64 (by omega) (by omega)]; omega
    generalize A.getD i z61 = z at *
    generalize B.getD i z61 = w at *
    have hz := sA.2 z hm
    apply ev_succ
    simp only [laws_FnStores.l1, hrd, hrd2, hw2, spec_SameKey_eq z w, Option.bind_some]
    exact ev_pos (by omega) (ev_pos (by omega) (Ev.bind (impl_Find_ev A z sA hA hm) (ev_pos rfl (Ev.bind (laws_same_refl _ _ _ _ _ _ _ z.f5 (by omega)) (ev_pos rfl (ev_pos (by omega) (ev_pos hk (ev_pos hs (Ev.bind (laws_newest_ev L z (by omega)) (ev_pos hn hr))))))))))
theorem FnStores : ∀ (l0 : List Int), (l0.length ≤ 9223372036854775807) → ∃ k, laws_FnStores.f k l0 = some true := by
  intro xs hm
  refine ev_ex ?_
  unfold laws_FnStores.f laws_big.f
  simp only [Option.bind_some]
  refine ev_ite (fun _ => Ev.now _) (fun h => ?_)
  obtain ⟨L, hD, hn, hr0⟩ := spec_DrawRecords_ok xs (by rw [decide_eq_true_eq] at h; omega)
  have hr : ∀ x ∈ L, recR x = true ∧ x.f5.length ≤ 7 := hr0
  refine Ev.bind hD ?_
  have hL : Small L := ⟨by omega, fun x hx => by have := (hr x hx).2; omega⟩
  obtain ⟨a1, sA, a3⟩ := stA_ok L (fun x hx => (hr x hx).2) L.length
  obtain ⟨b1, sB, b3⟩ := stA_ok L.reverse (fun x hx => (hr x (List.mem_reverse.1 hx)).2) L.length
  have eA : stA L L.length = (learnL [] [] L).1 := by unfold stA; rw [List.take_length]
  have eB : stA L.reverse L.length = (learnL [] [] L.reverse).1 := by
    unfold stA
    rw [List.take_of_length_le (by rw [List.length_reverse]; exact Nat.le_refl _)]
  have hnil : storeB ([] : List S61) = true := by simp [storeB, storeGo]
  obtain ⟨_, A2, A3⟩ := learnL_asNew L [] [] hnil (by simp only [List.length_nil]; omega) (fun x hx => (hr x hx).1)
  obtain ⟨_, B2, B3⟩ := learnL_asNew L.reverse [] [] hnil (by simp only [List.length_nil, List.length_reverse]; omega) (fun x hx => (hr x (List.mem_reverse.1 hx)).1)
  rw [← eA] at A2 A3
  rw [← eB] at B2 B3
  have hM : Ev (fun k => impl_Merge.f k ([] : List S61) L) (stA L L.length) := by
    have := impl_Merge_ev ([] : List S61) L ⟨by simp, by simp⟩ hL
    rw [mergeL, if_pos hnil, ← eA] at this
    exact this
  have hE : ∀ A B : List S61, A = stA L L.length → B = stA L.reverse L.length → Ev (fun k => laws_FnStores.l0 k L A B L.length) true := by
    intro A B hA0 hB0
    rw [← hA0] at a1 sA a3 A2 A3 hM
    rw [← hB0] at b1 sB b3 B2 B3
    have hA := ((storeB_iff A).1 a1).2.2
    have hB := ((storeB_iff B).1 b1).2.2
    have inA : ∀ y ∈ A, y ∈ L := fun y hy => by
      rcases A3 y hy with h | h
      · cases h
      · exact h
    have inB : ∀ y ∈ B, y ∈ L := fun y hy => by
      rcases B3 y hy with h | h
      · cases h
      · exact List.mem_reverse.1 h
    have B2' : ∀ x ∈ L, AsNew B x := fun x hx => B2 x (List.mem_reverse.2 hx)
    have upA : ∀ z ∈ A, ∀ x ∈ L, sameKey x z = true → x.f4 ≤ z.f4 := by
      intro z hz x hx hk
      obtain ⟨y, hy, h1, h2⟩ := A2 x hx
      have := asc_inj hA _ hy _ hz (key_trans h1 hk)
      rw [this] at h2
      exact h2
    have upB : ∀ w ∈ B, ∀ x ∈ L, sameKey x w = true → x.f4 ≤ w.f4 := by
      intro z hz x hx hk
      obtain ⟨y, hy, h1, h2⟩ := B2' x hx
      have := asc_inj hB _ hy _ hz (key_trans h1 hk)
      rw [this] at h2
      exact h2
    obtain ⟨k1, k2⟩ := asc_keys A B hA hB (fun x hx => by
      obtain ⟨y, hy, h1, _⟩ := B2' x (inA x hx)
      exact ⟨y, hy, h1⟩) (fun y hy => by
      obtain ⟨x, hx, h1, _⟩ := A2 y (inB y hy)
      exact ⟨x, hx, h1⟩)
    have L1 := laws_FnStores_l1_ev L A B hL hA sA hB sB k1 k2 (fun z hz w hw hk => by
      have h1 := upA z hz w (inB w hw) (key_symm hk)
      have h2 := upB w hw z (inA z hz) hk
      omega) (fun z hz => by
      obtain ⟨_, n2, n3⟩ := nwGo_spec z L 0
      have h1 := n2 z (inA z hz) (key_refl z)
      have h0 := (recR_seq (hr z (inA z hz)).1).1
      rcases n3 with e | ⟨x, hx, hk, e⟩
      · omega
      · have := upA z hz x hx hk
        omega) hM A.length 0 (by omega)
    apply ev_succ
    simp only [laws_FnStores.l0]
    refine ev_neg (by omega) (Ev.bind (impl_StoreOk_ev A sA.lens) (ev_pos a1 (ev_succ ?_)))
    simp only [laws_FnStores.j1]
    exact ev_neg (by rw [k1]; simp) L1
  exact laws_FnStores_l0_ev L hn hr (hE _ _ rfl rfl) L.length 0 (by omega)

end Go.Proofs.Ythjmdiggglkeaaa.Pure
