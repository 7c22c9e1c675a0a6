import Derived.Test.YthjmdiggglkeaaaXFnMergesQlawsFnMerges
/- Proved: the pure statement of the law FnMerges, for every input that its statement lets in. -/

set_option linter.unusedVariables false
set_option linter.unusedSimpArgs false
namespace Go.Proofs.Ythjmdiggglkeaaa.Pure
open Go.RowKit Go.Proofs.Ythjmdiggglkeaaa.Q Go.Proofs.YthjmdiggglkeaaaW.PrintWords Go.Proofs.YthjmdiggglkeaaaW.PrintLast

theorem w64 {x : Int} (h0 : -9223372036854775808 ≤ x) (h1 : x ≤ 9223372036854775807) : wrap64 x = x := by unfold wrap64; omega
theorem tmodp {x m : Int} (h : 0 ≤ x) : Int.tmod x m = x % m := Int.tmod_eq_emod_of_nonneg h
theorem ev_ex {α : Type} {g : Nat → Option α} {r : α} (h : Ev g r) : ∃ k, g k = some r := h.rounds

theorem ev_ite {α : Type} {c : Prop} [Decidable c] {g f : Nat → Option α} {r : α} (h : c → Ev g r) (k : ¬ c → Ev f r) : Ev (fun n => if c then g n else f n) r := by
  by_cases hc : c
  · exact Ev.congr (fun n => by rw [if_pos hc]) (h hc)
  · exact Ev.congr (fun n => by rw [if_neg hc]) (k hc)
theorem ev_pos {α : Type} {c : Prop} [Decidable c] {g f : Nat → Option α} {r : α} (hc : c) (h : Ev g r) : Ev (fun n => if c then g n else f n) r := Ev.congr (fun n => by rw [if_pos hc]) h
theorem ev_neg {α : Type} {c : Prop} [Decidable c] {g f : Nat → Option α} {r : α} (hc : ¬ c) (h : Ev f r) : Ev (fun n => if c then g n else f n) r := Ev.congr (fun n => by rw [if_neg hc]) h
theorem ev_some {α : Type} {x r : α} (h : x = r) : Ev (fun _ => some x) r := by rw [h]; exact Ev.now _
theorem ev_succ {α : Type} {g : Nat → Option α} {r : α} (h : Ev (fun k => g (k + 1)) r) : Ev g r := Ev.step (fun _ => rfl) h
theorem ev_to {α : Type} {g : Nat → Option α} {r r' : α} (h : Ev g r) (e : r = r') : Ev g r' := e ▸ h

theorem drop_at {α : Type} (l : List α) (z : α) (i : Nat) (h : i < l.length) : l.drop i = l.getD i z :: l.drop (i + 1) := by
  rw [List.drop_eq_getElem_cons h, List.getD_eq_getElem?_getD, List.getElem?_eq_getElem h]
  rfl
-- toNear
/-! Near: lists -/
/-- No list of a record is longer than can be counted. -/
def Lens (s : List S61) : Prop := s.length ≤ 9223372036854775000 ∧ ∀ x ∈ s, x.f5.length ≤ 9223372036854775000
theorem getD_mem {α : Type} (l : List α) (z : α) (i : Nat) (h : i < l.length) : l.getD i z ∈ l := by
  rw [List.getD_eq_getElem?_getD, List.getElem?_eq_getElem h]
  exact List.getElem_mem h
def sameKey (a b : S61) : Bool := decide (a.f0 = b.f0 ∧ a.f1 = b.f1 ∧ a.f2 = b.f2 ∧ a.f3 = b.f3)
def beforeB (a b : S61) : Bool := decide (a.f0 < b.f0 ∨ a.f0 = b.f0 ∧ (a.f1 < b.f1 ∨ a.f1 = b.f1 ∧ (a.f2 < b.f2 ∨ a.f2 = b.f2 ∧ a.f3 < b.f3)))
/-- The place of a key from place i on, -1 without one. -/
def keyGo (r : S61) : List S61 → Int → Int
  | [], _ => -1
  | x :: xs, i => if sameKey x r = true then i else keyGo r xs (i + 1)
def keyB (s : List S61) (r : S61) : Int := keyGo r s 0
theorem keyGo_cases (r : S61) (xs : List S61) : ∀ i : Int, (keyGo r xs i = -1 ∧ ∀ x ∈ xs, sameKey x r = false) ∨ (∃ j : Nat, j < xs.length ∧ keyGo r xs i = i + j ∧ sameKey (xs.getD j z61) r = true ∧ ∀ q : Nat, q < j → sameKey (xs.getD q z61) r = false) := by
  induction xs with
  | nil => intro i; exact .inl ⟨rfl, by simp⟩
  | cons x xs ih =>
    intro i
    by_cases h : sameKey x r = true
    · refine .inr ⟨0, by simp, ?_, h, fun q hq => by omega⟩
      rw [keyGo, if_pos h]; omega
    · rw [keyGo, if_neg h]
      rcases ih (i + 1) with ⟨h1, h2⟩ | ⟨j, h1, h2, h3, h4⟩
      · refine .inl ⟨h1, fun y hy => ?_⟩
        rcases List.mem_cons.1 hy with rfl | hy
        · simpa using h
        · exact h2 y hy
      · refine .inr ⟨j + 1, by simp only [List.length_cons]; omega, by rw [h2]; omega, h3, fun q hq => ?_⟩
        cases q with
        | zero => simpa using h
        | succ q => exact h4 q (by omega)
theorem keyB_cases (s : List S61) (r : S61) : (keyB s r = -1 ∧ ∀ x ∈ s, sameKey x r = false) ∨ (∃ j : Nat, j < s.length ∧ keyB s r = j ∧ sameKey (s.getD j z61) r = true ∧ ∀ q : Nat, q < j → sameKey (s.getD q z61) r = false) := by
  rcases keyGo_cases r s 0 with h | ⟨j, h1, h2, h3⟩
  · exact .inl h
  · exact .inr ⟨j, h1, by rw [keyB, h2]; omega, h3⟩
theorem keyB_lt (t : List S61) (x : S61) : keyB t x < (t.length : Int) := by
  rcases keyB_cases t x with ⟨h, _⟩ | ⟨j, h1, h2, _⟩
  · omega
  · omega

theorem spec_l01In_eq (a b c : Int) : spec_l01In.f a b c = some (decide (b ≤ a ∧ a ≤ c)) := by
  unfold spec_l01In.f
  by_cases h : a ≥ b
  · rw [if_pos h]; congr 1; simp; omega
  · rw [if_neg h]; congr 1; simp; omega

theorem impl_in_eq (a b c : Int) : impl_in.f a b c = some (decide (b ≤ a ∧ a ≤ c)) := by
  unfold impl_in.f
  by_cases h : a ≥ b
  · rw [if_pos h]; congr 1; simp; omega
  · rw [if_neg h]; congr 1; simp; omega

/-- What is near ascends, and is right; the one before, if there is one. -/
def nearGo (ow : Int) : Option Int → List S127 → Bool
  | _, [] => true
  | p, x :: xs => decide (1 ≤ x.f0 ∧ x.f0 ≤ 6) && !decide (x.f0 = ow) && decide (1 ≤ x.f1 ∧ x.f1 ≤ 1000) && p.all (fun y => decide (y < x.f0)) && nearGo ow (some x.f0) xs
def nearB (ow : Int) (l : List S127) : Bool := nearGo ow none l
def pvN (l : List S127) (i : Nat) : Option Int := if i = 0 then none else some (l.getD (i - 1) z127).f0
theorem pvN_succ (l : List S127) (i : Nat) : pvN l (i + 1) = some (l.getD i z127).f0 := by simp [pvN]
theorem rdNp (l : List S127) (i : Nat) (h : 0 < i) (hl : i < 9223372036854775807) : rd_T127 l (wrap64 ((i : Int) - 1)) = l.getD (i - 1) z127 := by
  rw [w64 (by omega) (by omega), show (i : Int) - 1 = ((i - 1 : Nat) : Int) by omega]
  rfl

/-- Is what a record holds right for its kind? -/
def recK (ar ki ow ke : Int) (l : List S127) (co : Int) (fa : Bool) : Bool :=
  if ki = 1 then decide (0 ≤ ar ∧ ar ≤ 2) && decide (ke = 0) && nearB ow l && decide (co = 0) && !fa
  else if ki = 2 then decide (0 ≤ ar ∧ ar ≤ 2) && decide (1 ≤ ke ∧ ke ≤ 6) && decide (l.length = 0) && decide (0 ≤ co ∧ co ≤ 60000) && !fa
  else if ki = 3 then decide (ar = 9) && decide (1 ≤ ke ∧ ke ≤ 9) && decide (l.length = 0) && (decide (1 ≤ co ∧ co ≤ 1000) || (co == 60000))
  else false
def recB (ar ki ow ke se : Int) (l : List S127) (co : Int) (fa : Bool) : Bool := decide (1 ≤ ow ∧ ow ≤ 6) && decide (1 ≤ se ∧ se ≤ 100000) && recK ar ki ow ke l co fa

def recR (r : S61) : Bool := recB r.f0 r.f1 r.f2 r.f3 r.f4 r.f5 r.f6 r.f7
/-- Right records, one ahead of the other; the one before, if there is one. -/
def storeGo : Option S61 → List S61 → Bool
  | _, [] => true
  | p, x :: xs => recR x && p.all (fun y => beforeB y x) && storeGo (some x) xs
def storeB (s : List S61) : Bool := decide (s.length ≤ 150) && storeGo none s
def pvR (l : List S61) (i : Nat) : Option S61 := if i = 0 then none else some (l.getD (i - 1) z61)
theorem pvR_succ (l : List S61) (i : Nat) : pvR l (i + 1) = some (l.getD i z61) := by simp [pvR]
theorem rdRp (l : List S61) (i : Nat) (h : 0 < i) (hl : i < 9223372036854775807) : rd_T61 l (wrap64 ((i : Int) - 1)) = l.getD (i - 1) z61 := by
  rw [w64 (by omega) (by omega), show (i : Int) - 1 = ((i - 1 : Nat) : Int) by omega]
  rfl

-- asc
/-! Records in the order of their keys. -/
def Asc (s : List S61) : Prop := s.Pairwise (fun a b => beforeB a b = true)
theorem before_tri (a b : S61) : beforeB a b = true ∨ sameKey a b = true ∨ beforeB b a = true := by
  unfold beforeB sameKey
  simp only [decide_eq_true_eq]
  omega
theorem before_anti {a b : S61} (h : beforeB a b = true) : beforeB b a = false ∧ sameKey a b = false ∧ sameKey b a = false := by
  unfold beforeB sameKey at *
  simp only [decide_eq_true_eq, decide_eq_false_iff_not] at *
  omega
theorem before_trans {a b c : S61} (h : beforeB a b = true) (k : beforeB b c = true) : beforeB a c = true := by
  unfold beforeB at *
  simp only [decide_eq_true_eq] at *
  omega
theorem same_before {a b c : S61} (h : sameKey a b = true) : (beforeB a c = true ↔ beforeB b c = true) ∧ (beforeB c a = true ↔ beforeB c b = true) := by
  unfold beforeB sameKey at *
  simp only [decide_eq_true_eq] at *
  omega
theorem same_not {a b : S61} (h : sameKey a b = true) : beforeB a b = false ∧ beforeB b a = false := by
  unfold beforeB sameKey at *
  simp only [decide_eq_true_eq, decide_eq_false_iff_not] at *
  omega
theorem storeGo_asc (xs : List S61) : ∀ p : Option S61, storeGo p xs = true → (∀ y, p = some y → ∀ x ∈ xs, beforeB y x = true) ∧ (∀ x ∈ xs, recR x = true) ∧ Asc xs := by
  induction xs with
  | nil => intro p _; exact ⟨by simp, by simp, List.Pairwise.nil⟩
  | cons x xs ih =>
    intro p h
    rw [storeGo, Bool.and_eq_true, Bool.and_eq_true] at h
    obtain ⟨⟨h1, h2⟩, h3⟩ := h
    obtain ⟨h4, h5, h6⟩ := ih (some x) h3
    refine ⟨fun y hy z hz => ?_, fun z hz => ?_, List.pairwise_cons.2 ⟨h4 x rfl, h6⟩⟩
    · subst hy
      have h2' : beforeB y x = true := by simpa using h2
      rcases List.mem_cons.1 hz with rfl | hz
      · exact h2'
      · exact before_trans h2' (h4 x rfl z hz)
    · rcases List.mem_cons.1 hz with rfl | hz
      · exact h1
      · exact h5 z hz
theorem storeGo_of (xs : List S61) : ∀ p : Option S61, (∀ y, p = some y → ∀ x ∈ xs, beforeB y x = true) → (∀ x ∈ xs, recR x = true) → Asc xs → storeGo p xs = true := by
  induction xs with
  | nil => intro p _ _ _; rfl
  | cons x xs ih =>
    intro p h1 h2 h3
    obtain ⟨h4, h5⟩ := List.pairwise_cons.1 h3
    rw [storeGo, h2 x (by simp), ih (some x) (fun y hy => by injection hy with hy; subst hy; exact h4) (fun z hz => h2 z (by simp [hz])) h5]
    cases p with
    | none => rfl
    | some y => simp [h1 y rfl x (by simp)]
theorem storeB_iff (s : List S61) : storeB s = true ↔ s.length ≤ 150 ∧ (∀ x ∈ s, recR x = true) ∧ Asc s := by
  unfold storeB
  rw [Bool.and_eq_true, decide_eq_true_eq]
  constructor
  · rintro ⟨h, k⟩
    exact ⟨h, (storeGo_asc s none k).2⟩
  · rintro ⟨h, k, l⟩
    exact ⟨h, storeGo_of s none (fun y hy => by cases hy) k l⟩
/-- A record in its place among those in order: those ahead of it, it, those behind it. -/
def putL (s : List S61) (r : S61) : List S61 := s.filter (fun x => beforeB x r) ++ r :: s.filter (fun x => beforeB r x)
def behind (r : S61) : List S61 → List S61
  | [] => []
  | x :: xs => if sameKey x r = true then xs else x :: xs
theorem putL_split (p q : List S61) (r : S61) (hA : Asc (p ++ q)) (hp : ∀ x ∈ p, beforeB x r = true) (hq : ∀ x, q.head? = some x → beforeB x r = false) : putL (p ++ q) r = p ++ r :: behind r q := by
  obtain ⟨h1, h2, h3⟩ := List.pairwise_append.1 hA
  have e1 : p.filter (fun x => beforeB x r) = p := List.filter_eq_self.2 hp
  have e2 : p.filter (fun x => beforeB r x) = [] := List.filter_eq_nil_iff.2 (fun x hx => by rw [(before_anti (hp x hx)).1]; exact Bool.false_ne_true)
  unfold putL
  rw [List.filter_append, List.filter_append, e1, e2, List.nil_append]
  cases q with
  | nil => simp [behind]
  | cons x xs =>
    obtain ⟨h4, h5⟩ := List.pairwise_cons.1 h2
    have hx := hq x rfl
    have e3 : (x :: xs).filter (fun y => beforeB y r) = [] := List.filter_eq_nil_iff.2 (fun y hy => by
      rcases List.mem_cons.1 hy with rfl | hy
      · rw [hx]; exact Bool.false_ne_true
      · intro hc
        rw [before_trans (h4 y hy) hc] at hx
        cases hx)
    rw [e3, List.append_nil]
    simp only [behind]
    by_cases hk : sameKey x r = true
    · rw [if_pos hk]
      have e4 : xs.filter (fun y => beforeB r y) = xs := List.filter_eq_self.2 (fun y hy => (same_before hk).1.1 (h4 y hy))
      rw [List.filter_cons_of_neg (by rw [(same_not hk).2]; exact Bool.false_ne_true), e4]
    · rw [if_neg hk]
      have hrx : beforeB r x = true := by
        rcases before_tri x r with h | h | h
        · rw [hx] at h; cases h
        · exact absurd h hk
        · exact h
      have e4 : (x :: xs).filter (fun y => beforeB r y) = x :: xs := List.filter_eq_self.2 (fun y hy => by
        rcases List.mem_cons.1 hy with rfl | hy
        · exact hrx
        · exact before_trans hrx (h4 y hy))
      rw [e4]
theorem mem_putL {s : List S61} {r x : S61} (h : x ∈ putL s r) : x = r ∨ x ∈ s := by
  unfold putL at h
  rcases List.mem_append.1 h with h | h
  · exact .inr (List.mem_filter.1 h).1
  · rcases List.mem_cons.1 h with h | h
    · exact .inl h
    · exact .inr (List.mem_filter.1 h).1
theorem putL_asc (s : List S61) (r : S61) (h : Asc s) : Asc (putL s r) := by
  unfold putL
  refine List.pairwise_append.2 ⟨List.Pairwise.sublist List.filter_sublist h, List.pairwise_cons.2 ⟨fun x hx => (List.mem_filter.1 hx).2, List.Pairwise.sublist List.filter_sublist h⟩, fun a ha b hb => ?_⟩
  have h1 := (List.mem_filter.1 ha).2
  rcases List.mem_cons.1 hb with rfl | hb
  · exact h1
  · exact before_trans h1 (List.mem_filter.1 hb).2
theorem putL_length (s : List S61) (r : S61) : (putL s r).length ≤ s.length + 1 ∧ ((∃ x ∈ s, sameKey x r = true) → (putL s r).length ≤ s.length) := by
  induction s with
  | nil => exact ⟨by simp [putL], by simp⟩
  | cons y s ih =>
    obtain ⟨h1, h2⟩ := ih
    unfold putL at *
    simp only [List.length_append, List.length_cons, List.filter_cons] at *
    rcases before_tri y r with h | h | h
    · obtain ⟨h3, h4, _⟩ := before_anti h
      rw [if_pos h, if_neg (by rw [h3]; exact Bool.false_ne_true)]
      simp only [List.length_cons]
      refine ⟨by omega, fun ⟨x, hx, hk⟩ => ?_⟩
      rcases List.mem_cons.1 hx with rfl | hx
      · rw [h4] at hk; cases hk
      · have := h2 ⟨x, hx, hk⟩; omega
    · obtain ⟨h3, h4⟩ := same_not h
      rw [if_neg (by rw [h3]; exact Bool.false_ne_true), if_neg (by rw [h4]; exact Bool.false_ne_true)]
      exact ⟨by omega, fun _ => by omega⟩
    · obtain ⟨h3, _, h4⟩ := before_anti h
      rw [if_neg (by rw [h3]; exact Bool.false_ne_true), if_pos h]
      simp only [List.length_cons]
      refine ⟨by omega, fun ⟨x, hx, hk⟩ => ?_⟩
      rcases List.mem_cons.1 hx with rfl | hx
      · rw [h4] at hk; cases hk
      · have := h2 ⟨x, hx, hk⟩; omega
/-- Is a record newer than what there is of its key, or is there room for it? -/
def newB (s : List S61) (r : S61) : Bool := if 0 ≤ keyB s r then decide ((s.getD (keyB s r).toNat z61).f4 < r.f4) else decide (s.length < 150)
theorem newB_key {s : List S61} {r : S61} (h : 0 ≤ keyB s r) : newB s r = decide ((s.getD (keyB s r).toNat z61).f4 < r.f4) := by unfold newB; rw [if_pos h]
theorem newB_none {s : List S61} {r : S61} (h : ¬ 0 ≤ keyB s r) : newB s r = decide (s.length < 150) := by unfold newB; rw [if_neg h]
def instB (s : List S61) (r : S61) : Bool := recR r && newB s r
theorem putL_store {s : List S61} {r : S61} (hs : storeB s = true) (hr : instB s r = true) : storeB (putL s r) = true := by
  obtain ⟨h1, h2, h3⟩ := (storeB_iff s).1 hs
  obtain ⟨h4, h5⟩ := (Bool.and_eq_true _ _).mp hr
  refine (storeB_iff _).2 ⟨?_, fun x hx => ?_, putL_asc s r h3⟩
  · obtain ⟨h6, h7⟩ := putL_length s r
    unfold newB at h5
    rcases keyB_cases s r with ⟨h8, _⟩ | ⟨j, h8, h9, h10, _⟩
    · rw [if_neg (by omega), decide_eq_true_eq] at h5
      omega
    · have := h7 ⟨_, by
        rw [List.getD_eq_getElem?_getD, List.getElem?_eq_getElem h8] at h10
        exact List.getElem_mem h8, by
        rw [List.getD_eq_getElem?_getD, List.getElem?_eq_getElem h8] at h10
        exact h10⟩
      omega
  · rcases mem_putL hx with rfl | hx
    · exact h4
    · exact h2 x hx

theorem impl_SameKey_eq (a b : S61) : impl_SameKey.f a.f0 a.f1 a.f2 a.f3 a.f4 a.f5 a.f6 a.f7 b.f0 b.f1 b.f2 b.f3 b.f4 b.f5 b.f6 b.f7 = some (sameKey a b) := by
  unfold impl_SameKey.f sameKey
  by_cases h0 : a.f0 = b.f0
  · by_cases h1 : a.f1 = b.f1
    · by_cases h2 : a.f2 = b.f2
      · rw [if_pos h0, if_pos h1, if_pos h2]
        congr 1
        rw [Bool.eq_iff_iff]
        simp [h0, h1, h2]
      · rw [if_pos h0, if_pos h1, if_neg h2, decide_eq_false (by omega)]
    · rw [if_pos h0, if_neg h1, decide_eq_false (by omega)]
  · rw [if_neg h0, decide_eq_false (by omega)]

theorem impl_keyAt_l0_ev (r : S61) (l : List S61) (hl : l.length ≤ 9223372036854775000) (d : Nat) : ∀ i : Nat, i + d = l.length →
    Ev (fun k => impl_keyAt.l0 k l (l.length : Int) i r.f0 r.f1 r.f2 r.f3 r.f4 r.f5 r.f6 r.f7) (keyGo r (l.drop i) i) := by
  induction d with
  | zero =>
    intro i hi
    rw [List.drop_eq_nil_of_le (by omega)]
    apply ev_succ
    simp only [impl_keyAt.l0]
    exact ev_neg (by omega) (ev_some rfl)
  | succ d ih =>
    intro i hi
    have hr := ih (i + 1) (by omega)
    have hr' := hr
    obtain ⟨x, hx⟩ : ∃ x, rd_T61 l (i : Int) = x := ⟨_, rfl⟩
    have hx2 : l.getD i z61 = x := hx
    rw [drop_at l z61 i (by omega), hx2]
    apply ev_succ
    simp only [impl_keyAt.l0, hx, impl_SameKey_eq, Option.bind_some]
    rw [w64 (by omega) (by omega), keyGo]
    refine ev_pos (by omega) (ev_pos (by omega) (ev_pos (by omega) ?_))
    refine ev_ite (fun h => ev_some (by rw [if_pos h])) (fun h => ?_)
    rw [if_neg h]
    exact hr
theorem impl_keyAt_ev (l : List S61) (r : S61) (hl : l.length ≤ 9223372036854775000) : Ev (fun k => impl_keyAt.f k l r.f0 r.f1 r.f2 r.f3 r.f4 r.f5 r.f6 r.f7) (keyB l r) :=
  impl_keyAt_l0_ev r l hl l.length 0 (by omega)

def Small (s : List S61) : Prop := s.length ≤ 8388608 ∧ ∀ x ∈ s, x.f5.length ≤ 1048576
theorem Small.lens {s : List S61} (h : Small s) : Lens s := ⟨by have := h.1; omega, fun x hx => by have := h.2 x hx; omega⟩
theorem impl_copyRecord_eq (x : S61) (h : x.f5.length ≤ 1048576) : impl_copyRecord.f x.f0 x.f1 x.f2 x.f3 x.f4 x.f5 x.f6 x.f7 = some (x.f0, x.f1, x.f2, x.f3, x.f4, x.f5, x.f6, x.f7) := by
  unfold impl_copyRecord.f
  rw [if_pos (by simp; omega)]
  simp

/-- What of l has a key that t has not, or is newer than t's. -/
def isNew (t : List S61) (x : S61) : Bool := decide (keyB t x < 0) || decide ((t.getD (keyB t x).toNat z61).f4 < x.f4)
def newerL (l t : List S61) : List S61 := l.filter (isNew t)
theorem impl_Newer_l0_ev (l t : List S61) (hs : Small l) (ht : Small t) (d : Nat) : ∀ (i : Nat) (acc : List S61), i + d = l.length → acc.length ≤ i →
    Ev (fun k => impl_Newer.l0 k t acc l (l.length : Int) i) (acc ++ newerL (l.drop i) t) := by
  have hl1 := hs.1
  induction d with
  | zero =>
    intro i acc hi ha
    rw [List.drop_eq_nil_of_le (by omega)]
    apply ev_succ
    simp only [impl_Newer.l0]
    exact ev_neg (by omega) (ev_some (by simp [newerL]))
  | succ d ih =>
    intro i acc hi ha
    obtain ⟨x, hx⟩ : ∃ x, rd_T61 l (i : Int) = x := ⟨_, rfl⟩
    have hx2 : l.getD i z61 = x := hx
    have hm : x ∈ l := by rw [← hx2]; exact getD_mem l _ i (by omega)
    have hn := hs.2 x hm
    have hr1 := ih (i + 1) (acc ++ [x]) (by omega) (by simp; omega)
    have hr0 := ih (i + 1) acc (by omega) (by omega)
    have hk := keyB_lt t x
    rw [drop_at l z61 i (by omega), hx2]
    apply ev_succ
    simp only [impl_Newer.l0, hx, impl_copyRecord_eq x hn, Option.bind_some]
    rw [w64 (x := (i : Int) + 1) (by omega) (by omega)]
    refine ev_pos (by omega) (ev_pos (by omega) (ev_pos (by omega) (Ev.bind (impl_keyAt_ev t x ht.lens.1) ?_)))
    refine ev_ite (fun h1 => ?_) (fun h1 => ?_)
    · exact ev_pos (by omega) (ev_to hr1 (by simp [newerL, isNew, h1]))
    · refine ev_pos (by omega) (ev_pos hk (ev_ite (fun h2 => ?_) (fun h2 => ?_)))
      · refine ev_pos (by omega) (ev_to hr1 ?_)
        have h2' : (t.getD (keyB t x).toNat z61).f4 < x.f4 := h2
        have e : isNew t x = true := by rw [isNew, decide_eq_true h2', Bool.or_true]
        simp [newerL, e]
      · refine ev_to hr0 ?_
        have h2' : ¬ (t.getD (keyB t x).toNat z61).f4 < x.f4 := h2
        have e : ¬ isNew t x = true := by rw [isNew, decide_eq_false h2', decide_eq_false h1]; simp
        simp [newerL, e]
theorem impl_Newer_ev (l t : List S61) (hs : Small l) (ht : Small t) : Ev (fun k => impl_Newer.f k l t) (newerL l t) := impl_Newer_l0_ev l t hs ht l.length 0 [] (by omega) (by simp)

theorem spec_SameKey_eq (a b : S61) : spec_SameKey.f a.f0 a.f1 a.f2 a.f3 a.f4 a.f5 a.f6 a.f7 b.f0 b.f1 b.f2 b.f3 b.f4 b.f5 b.f6 b.f7 = some (sameKey a b) := by
  unfold spec_SameKey.f sameKey
  by_cases h0 : a.f0 = b.f0
  · by_cases h1 : a.f1 = b.f1
    · by_cases h2 : a.f2 = b.f2
      · rw [if_pos h0, if_pos h1, if_pos h2]
        congr 1
        rw [Bool.eq_iff_iff]
        simp [h0, h1, h2]
      · rw [if_pos h0, if_pos h1, if_neg h2, decide_eq_false (by omega)]
    · rw [if_pos h0, if_neg h1, decide_eq_false (by omega)]
  · rw [if_neg h0, decide_eq_false (by omega)]

theorem spec_l05At_l0_ev (r : S61) (l : List S61) (hl : l.length ≤ 9223372036854775000) (d : Nat) : ∀ i : Nat, i + d = l.length →
    Ev (fun k => spec_l05At.l0 k l i r.f0 r.f1 r.f2 r.f3 r.f4 r.f5 r.f6 r.f7) (keyGo r (l.drop i) i) := by
  induction d with
  | zero =>
    intro i hi
    rw [List.drop_eq_nil_of_le (by omega)]
    apply ev_succ
    simp only [spec_l05At.l0]
    exact ev_neg (by omega) (ev_some rfl)
  | succ d ih =>
    intro i hi
    have hr := ih (i + 1) (by omega)
    have hr' := hr
    obtain ⟨x, hx⟩ : ∃ x, rd_T61 l (i : Int) = x := ⟨_, rfl⟩
    have hx2 : l.getD i z61 = x := hx
    rw [drop_at l z61 i (by omega), hx2]
    apply ev_succ
    simp only [spec_l05At.l0, hx, spec_SameKey_eq, Option.bind_some]
    rw [w64 (by omega) (by omega), keyGo]
    refine ev_pos (by omega) (ev_pos (by omega) ?_)
    refine ev_ite (fun h => ev_some (by rw [if_pos h])) (fun h => ?_)
    rw [if_neg h]
    exact hr
theorem spec_l05At_ev (l : List S61) (r : S61) (hl : l.length ≤ 9223372036854775000) : Ev (fun k => spec_l05At.f k l r.f0 r.f1 r.f2 r.f3 r.f4 r.f5 r.f6 r.f7) (keyB l r) :=
  spec_l05At_l0_ev r l hl l.length 0 (by omega)

theorem asc_inj {s : List S61} (h : Asc s) : ∀ x ∈ s, ∀ y ∈ s, sameKey x y = true → x = y := by
  have hb : ∀ a b : S61, beforeB a b = true → sameKey a b = false ∧ sameKey b a = false := by
    intro a b h
    simp only [beforeB, sameKey, decide_eq_true_eq, decide_eq_false_iff_not] at *
    omega
  induction s with
  | nil => intro x hx; cases hx
  | cons a t ih =>
    obtain ⟨h1, h2⟩ := List.pairwise_cons.1 h
    intro x hx y hy hk
    rcases List.mem_cons.1 hx with hx1 | hx1
    · rcases List.mem_cons.1 hy with hy1 | hy1
      · rw [hx1, hy1]
      · subst hx1; rw [(hb _ _ (h1 y hy1)).1] at hk; cases hk
    · rcases List.mem_cons.1 hy with hy1 | hy1
      · subst hy1; rw [(hb _ _ (h1 x hx1)).2] at hk; cases hk
      · exact ih h2 x hx1 y hy1 hk
theorem isNew_no {t : List S61} {x y : S61} (hA : Asc t) (hy : y ∈ t) (hk : sameKey y x = true) (hs : x.f4 ≤ y.f4) : isNew t x = false := by
  unfold isNew
  rcases keyB_cases t x with ⟨_, h⟩ | ⟨j, h1, h2, h3, _⟩
  · rw [h y hy] at hk; cases hk
  · have hm : t.getD j z61 ∈ t := getD_mem t _ j h1
    have e : t.getD j z61 = y := by
      refine asc_inj hA _ hm _ hy ?_
      simp only [sameKey, decide_eq_true_eq] at *
      omega
    rw [h2, Int.toNat_natCast, e, decide_eq_false (by omega), decide_eq_false (by omega)]
    rfl
theorem newerL_nil {l t : List S61} (h : ∀ x ∈ l, isNew t x = false) : newerL l t = [] := List.filter_eq_nil_iff.2 (fun x hx => by rw [h x hx]; exact Bool.false_ne_true)

/-- Records put into a store, one behind the other, where each is newer; and those that were. -/
def learnL : List S61 → List S61 → List S61 → List S61 × List S61
  | s, f, [] => (s, f)
  | s, f, r :: t => if instB s r = true then learnL (putL s r) (f ++ [r]) t else learnL s f t
theorem store_small {s : List S61} (h : storeB s = true) (hn : ∀ x ∈ s, x.f5.length ≤ 1048576) : Small s := ⟨by have := ((storeB_iff s).1 h).1; omega, hn⟩
theorem putL_near {s : List S61} {r : S61} (hn : ∀ x ∈ s, x.f5.length ≤ 1048576) (hr : r.f5.length ≤ 1048576) : ∀ x ∈ putL s r, x.f5.length ≤ 1048576 := by
  intro x hx
  rcases mem_putL hx with rfl | hx
  · exact hr
  · exact hn x hx
theorem learnL_small (t : List S61) : ∀ s f, storeB s = true → (∀ x ∈ s, x.f5.length ≤ 1048576) → (∀ x ∈ t, x.f5.length ≤ 1048576) → (∀ x ∈ f, x.f5.length ≤ 1048576) →
    storeB (learnL s f t).1 = true ∧ Small (learnL s f t).1 ∧ (learnL s f t).2.length ≤ f.length + t.length ∧ ∀ x ∈ (learnL s f t).2, x.f5.length ≤ 1048576 := by
  induction t with
  | nil => intro s f h1 h2 _ h4; exact ⟨h1, store_small h1 h2, by simp [learnL], h4⟩
  | cons r t ih =>
    intro s f h1 h2 h3 h4
    have hr := h3 r (by simp)
    have ht : ∀ x ∈ t, x.f5.length ≤ 1048576 := fun x hx => h3 x (by simp [hx])
    rw [learnL]
    by_cases hi : instB s r = true
    · rw [if_pos hi]
      obtain ⟨a, b, c, d⟩ := ih (putL s r) (f ++ [r]) (putL_store h1 hi) (putL_near h2 hr) ht (fun x hx => by
        rcases List.mem_append.1 hx with hx | hx
        · exact h4 x hx
        · rw [List.mem_singleton] at hx; rw [hx]; exact hr)
      refine ⟨a, b, ?_, d⟩
      simp only [List.length_append, List.length_cons, List.length_nil] at c ⊢
      omega
    · rw [if_neg hi]
      obtain ⟨a, b, c, d⟩ := ih s f h1 h2 ht h4
      exact ⟨a, b, by simp only [List.length_cons]; omega, d⟩
def mergeL (s t : List S61) : List S61 := if storeB s = true then (learnL s [] t).1 else s
theorem and255 (x : Int) : 0 ≤ Go.bits .and .i64 x 255 ∧ Go.bits .and .i64 x 255 < 256 := by
  have h : ((BitVec.ofInt 64 x) &&& (BitVec.ofInt 64 255)).toNat ≤ 255 := by
    rw [BitVec.toNat_and]
    exact Nat.le_trans Nat.and_le_right (by decide)
  have e : Go.bits .and .i64 x 255 = IntKind.i64.wrap ((((BitVec.ofInt 64 x) &&& (BitVec.ofInt 64 255)).toNat : Nat) : Int) := rfl
  rw [e, IntKind.wrap_i64]
  omega

/-- What is drawn: the place in the bytes stays at 0 or more, what comes is in its bounds. -/
theorem spec_l01Byte_ex (xs : List Int) (p s : Int) (hp : 0 ≤ p) (hx : xs.length ≤ 9223372036854775000) : ∃ v p' s', spec_l01Byte.f xs p s = some (v, p', s') ∧ 0 ≤ v ∧ v < 256 ∧ 0 ≤ p' := by
  unfold spec_l01Byte.f
  by_cases h : p < (xs.length : Int)
  · rw [if_pos h, if_pos hp]
    refine ⟨_, _, _, rfl, (and255 _).1, (and255 _).2, ?_⟩
    rw [w64 (by omega) (by omega)]
    omega
  · rw [if_neg h]
    exact ⟨_, _, _, rfl, (and255 _).1, (and255 _).2, hp⟩
theorem spec_l01Below_ex (xs : List Int) (p s n : Int) (hp : 0 ≤ p) (hx : xs.length ≤ 9223372036854775000) (h1 : 1 ≤ n) (h2 : n ≤ 256) : ∃ v p' s', spec_l01Below.f xs p s n = some (v, p', s') ∧ 0 ≤ v ∧ v < n ∧ 0 ≤ p' := by
  obtain ⟨v, p', s', h, h3, h4, h5⟩ := spec_l01Byte_ex xs p s hp hx
  unfold spec_l01Below.f
  rw [if_neg (by omega), if_pos h2, h, Option.bind_some, if_neg (by omega)]
  refine ⟨_, _, _, rfl, ?_, ?_, h5⟩
  · rw [tmodp h3]; exact Int.emod_nonneg _ (by omega)
  · rw [tmodp h3]; exact Int.emod_lt_of_pos _ (by omega)
theorem spec_l01Once_ex (xs : List Int) (p s n : Int) (hp : 0 ≤ p) (hx : xs.length ≤ 9223372036854775000) (h1 : 1 ≤ n) (h2 : n ≤ 256) : ∃ b p' s', spec_l01Once.f xs p s n = some (b, p', s') ∧ 0 ≤ p' := by
  obtain ⟨v, p', s', h, _, _, h5⟩ := spec_l01Below_ex xs p s n hp hx h1 h2
  unfold spec_l01Once.f
  rw [h, Option.bind_some]
  exact ⟨_, _, _, rfl, h5⟩
theorem spec_l01PickInt_ex (xs : List Int) (p s : Int) (l : List Int) (hp : 0 ≤ p) (hx : xs.length ≤ 9223372036854775000) (h1 : 1 ≤ l.length) (h2 : l.length ≤ 256) : ∃ v p' s', spec_l01PickInt.f xs p s l = some (v, p', s') ∧ 0 ≤ p' := by
  obtain ⟨v, p', s', h, h3, h4, h5⟩ := spec_l01Below_ex xs p s l.length hp hx (by omega) (by omega)
  unfold spec_l01PickInt.f
  rw [h, Option.bind_some, if_pos h3, if_pos h4]
  exact ⟨_, _, _, rfl, h5⟩
theorem spec_l01New_l0_ex (xs : List Int) (hx : xs.length ≤ 9223372036854775000) (d : Nat) : ∀ (i : Nat) (s : Int), i + d = xs.length → ∃ s', Ev (fun k => spec_l01New.l0 k xs s i) (xs, 0, s') := by
  induction d with
  | zero =>
    intro i s hi
    refine ⟨s, ev_succ ?_⟩
    simp only [spec_l01New.l0]
    exact ev_neg (by omega) (Ev.now _)
  | succ d ih =>
    intro i s hi
    obtain ⟨s', h⟩ := ih (i + 1) _ (by omega)
    by_cases h4 : (i : Int) < 4000
    · refine ⟨s', ev_succ ?_⟩
      simp only [spec_l01New.l0]
      rw [w64 (x := (i : Int) + 1) (by omega) (by omega)]
      exact ev_pos (by omega) (ev_pos h4 (ev_pos (by omega) h))
    · refine ⟨s, ev_succ ?_⟩
      simp only [spec_l01New.l0]
      exact ev_pos (by omega) (ev_neg h4 (Ev.now _))
theorem spec_l01New_ex (xs : List Int) (hx : xs.length ≤ 9223372036854775000) : ∃ s', Ev (fun k => spec_l01New.f k xs) (xs, 0, s') := spec_l01New_l0_ex xs hx xs.length 0 _ (by omega)

theorem spec_l04Record_l0_ex (xs : List Int) (hx : xs.length ≤ 9223372036854775000) (a b c e f g : Int) (fl : Bool) (d : Nat) : ∀ (i : Nat) (p s : Int) (nr : List S127), i + d = 7 → nr.length ≤ i → 0 ≤ p →
    ∃ nr' p' s', Ev (fun k => spec_l04Record.l0 k i xs p s a b c e f nr g fl) (a, b, c, e, f, nr', g, fl, p', s') ∧ nr'.length ≤ 7 ∧ 0 ≤ p' := by
  induction d with
  | zero =>
    intro i p s nr hi hn hp
    refine ⟨nr, p, s, ev_succ ?_, by omega, hp⟩
    simp only [spec_l04Record.l0]
    exact ev_neg (by omega) (Ev.now _)
  | succ d ih =>
    intro i p s nr hi hn hp
    by_cases hc : (i : Int) = c
    · obtain ⟨nr', p', s', h, h1, h2⟩ := ih (i + 1) p s nr (by omega) (by omega) hp
      refine ⟨nr', p', s', ev_succ ?_, h1, h2⟩
      simp only [spec_l04Record.l0]
      rw [w64 (x := (i : Int) + 1) (by omega) (by omega)]
      exact ev_pos (by omega) (ev_pos hc h)
    · obtain ⟨y, p1, s1, h1, hp1⟩ := spec_l01Once_ex xs p s 3 hp hx (by omega) (by omega)
      by_cases hy : y = true
      · obtain ⟨v, p2, s2, h2, _, _, hp2⟩ := spec_l01Below_ex xs p1 s1 4 hp1 hx (by omega) (by omega)
        obtain ⟨nr', p', s', h, h3, h4⟩ := ih (i + 1) p2 s2 (nr ++ [⟨(i : Int), wrap64 (1 + v)⟩]) (by omega) (by simp; omega) hp2
        refine ⟨nr', p', s', ev_succ ?_, h3, h4⟩
        simp only [spec_l04Record.l0, h1, h2, Option.bind_some]
        rw [w64 (x := (i : Int) + 1) (by omega) (by omega)]
        exact ev_pos (by omega) (ev_neg hc (ev_pos hy (ev_pos (by omega) h)))
      · obtain ⟨nr', p', s', h, h3, h4⟩ := ih (i + 1) p1 s1 nr (by omega) (by omega) hp1
        refine ⟨nr', p', s', ev_succ ?_, h3, h4⟩
        simp only [spec_l04Record.l0, h1, Option.bind_some]
        rw [w64 (x := (i : Int) + 1) (by omega) (by omega)]
        exact ev_pos (by omega) (ev_neg hc (ev_neg hy h))
theorem spec_l04Record_ex (xs : List Int) (p s : Int) (hp : 0 ≤ p) (hx : xs.length ≤ 9223372036854775000) : ∃ (r : S61) (p' s' : Int), Ev (fun k => spec_l04Record.f k xs p s) (r.f0, r.f1, r.f2, r.f3, r.f4, r.f5, r.f6, r.f7, p', s') ∧ r.f5.length ≤ 7 ∧ 0 ≤ p' := by
  obtain ⟨v1, p1, s1, h1, _, _, hp1⟩ := spec_l01Below_ex xs p s 3 hp hx (by omega) (by omega)
  obtain ⟨v2, p2, s2, h2, _, _, hp2⟩ := spec_l01Below_ex xs p1 s1 4 hp1 hx (by omega) (by omega)
  obtain ⟨v3, p3, s3, h3, _, _, hp3⟩ := spec_l01Below_ex xs p2 s2 3 hp2 hx (by omega) (by omega)
  obtain ⟨v4, p4, s4, h4, _, _, hp4⟩ := spec_l01Below_ex xs p3 s3 5 hp3 hx (by omega) (by omega)
  unfold spec_l04Record.f
  simp only [h1, h2, h3, h4, Option.bind_some]
  by_cases c1 : wrap64 (1 + v1) = 1
  · obtain ⟨nr', p', s', h, h5, h6⟩ := spec_l04Record_l0_ex xs hx v3 (wrap64 (1 + v1)) (wrap64 (1 + v2)) 0 (wrap64 (1 + v4)) 0 false 6 1 p4 s4 [] (by omega) (by simp) hp4
    exact ⟨⟨_, _, _, _, _, nr', _, _⟩, p', s', ev_pos c1 h, h5, h6⟩
  · by_cases c2 : wrap64 (1 + v1) = 2
    · obtain ⟨v5, p5, s5, h5, _, _, hp5⟩ := spec_l01Below_ex xs p4 s4 5 hp4 hx (by omega) (by omega)
      obtain ⟨v6, p6, s6, h6, hp6⟩ := spec_l01PickInt_ex xs p5 s5 [0, 1, 2, 5, 60000] hp5 hx (by decide) (by decide)
      simp only [h5, h6, Option.bind_some]
      exact ⟨⟨_, _, _, _, _, [], _, _⟩, p6, s6, ev_neg c1 (ev_pos c2 (Ev.now _)), by simp, hp6⟩
    · by_cases c3 : wrap64 (1 + v1) = 3
      · obtain ⟨v5, p5, s5, h5, _, _, hp5⟩ := spec_l01Below_ex xs p4 s4 3 hp4 hx (by omega) (by omega)
        obtain ⟨v6, p6, s6, h6, hp6⟩ := spec_l01PickInt_ex xs p5 s5 [1, 2, 5, 60000] hp5 hx (by decide) (by decide)
        obtain ⟨v7, p7, s7, h7, hp7⟩ := spec_l01Once_ex xs p6 s6 2 hp6 hx (by omega) (by omega)
        simp only [h5, h6, h7, Option.bind_some]
        exact ⟨⟨_, _, _, _, _, [], _, _⟩, p7, s7, ev_neg c1 (ev_neg c2 (ev_pos c3 (Ev.now _))), by simp, hp7⟩
      · exact ⟨⟨_, _, _, _, _, [], _, _⟩, p4, s4, ev_neg c1 (ev_neg c2 (ev_neg c3 (Ev.now _))), by simp, hp4⟩

theorem spec_Before_eq (a b : S61) : spec_Before.f a.f0 a.f1 a.f2 a.f3 a.f4 a.f5 a.f6 a.f7 b.f0 b.f1 b.f2 b.f3 b.f4 b.f5 b.f6 b.f7 = some (beforeB a b) := by
  unfold spec_Before.f beforeB
  by_cases h0 : a.f0 = b.f0
  · by_cases h1 : a.f1 = b.f1
    · by_cases h2 : a.f2 = b.f2
      · rw [if_pos h0, if_pos h1, if_pos h2]
        congr 1
        rw [Bool.eq_iff_iff, decide_eq_true_eq, decide_eq_true_eq]
        omega
      · rw [if_pos h0, if_pos h1, if_neg h2]
        congr 1
        rw [Bool.eq_iff_iff, decide_eq_true_eq, decide_eq_true_eq]
        omega
    · rw [if_pos h0, if_neg h1]
      congr 1
      rw [Bool.eq_iff_iff, decide_eq_true_eq, decide_eq_true_eq]
      omega
  · rw [if_neg h0]
    congr 1
    rw [Bool.eq_iff_iff, decide_eq_true_eq, decide_eq_true_eq]
    omega

theorem spec_l05Put_l1_ev (s : List S61) (r : S61) (hs : Small s) (d : Nat) : ∀ (i : Nat) (acc : List S61), i + d = s.length → acc.length ≤ s.length + 1 + i →
    Ev (fun k => spec_l05Put.l1 k s acc i r.f0 r.f1 r.f2 r.f3 r.f4 r.f5 r.f6 r.f7) (acc ++ (s.drop i).filter (fun x => beforeB r x)) := by
  have hl1 := hs.1
  induction d with
  | zero =>
    intro i acc hi ha
    rw [List.drop_eq_nil_of_le (by omega)]
    apply ev_succ
    simp only [spec_l05Put.l1]
    exact ev_neg (by omega) (ev_some (by simp))
  | succ d ih =>
    intro i acc hi ha
    obtain ⟨x, hx⟩ : ∃ x, rd_T61 s (i : Int) = x := ⟨_, rfl⟩
    have hx2 : s.getD i z61 = x := hx
    have hr1 := ih (i + 1) (acc ++ [x]) (by omega) (by simp; omega)
    have hr0 := ih (i + 1) acc (by omega) (by omega)
    rw [drop_at s z61 i (by omega), hx2]
    apply ev_succ
    simp only [spec_l05Put.l1, hx, spec_Before_eq, Option.bind_some]
    rw [w64 (x := (i : Int) + 1) (by omega) (by omega)]
    refine ev_pos (by omega) (ev_pos (by omega) (ev_ite (fun h1 => ?_) (fun h1 => ?_)))
    · exact ev_pos (by omega) (ev_to hr1 (by simp [h1]))
    · exact ev_to hr0 (by simp [h1])
theorem spec_l05Put_l0_ev (s : List S61) (r : S61) (hs : Small s) (d : Nat) : ∀ (i : Nat) (acc : List S61), i + d = s.length → acc.length ≤ i →
    Ev (fun k => spec_l05Put.l0 k s acc i r.f0 r.f1 r.f2 r.f3 r.f4 r.f5 r.f6 r.f7) (acc ++ (s.drop i).filter (fun x => beforeB x r) ++ r :: s.filter (fun x => beforeB r x)) := by
  have hl1 := hs.1
  induction d with
  | zero =>
    intro i acc hi ha
    rw [List.drop_eq_nil_of_le (by omega)]
    apply ev_succ
    simp only [spec_l05Put.l0]
    refine ev_neg (by omega) (ev_pos (by omega) ?_)
    have h := spec_l05Put_l1_ev s r hs s.length 0 (acc ++ [r]) (by omega) (by simp; omega)
    exact ev_to h (by simp)
  | succ d ih =>
    intro i acc hi ha
    obtain ⟨x, hx⟩ : ∃ x, rd_T61 s (i : Int) = x := ⟨_, rfl⟩
    have hx2 : s.getD i z61 = x := hx
    have hr1 := ih (i + 1) (acc ++ [x]) (by omega) (by simp; omega)
    have hr0 := ih (i + 1) acc (by omega) (by omega)
    rw [drop_at s z61 i (by omega), hx2]
    apply ev_succ
    simp only [spec_l05Put.l0, hx, spec_Before_eq, Option.bind_some]
    rw [w64 (x := (i : Int) + 1) (by omega) (by omega)]
    refine ev_pos (by omega) (ev_pos (by omega) (ev_ite (fun h1 => ?_) (fun h1 => ?_)))
    · exact ev_pos (by omega) (ev_to hr1 (by simp [h1]))
    · exact ev_to hr0 (by simp [h1])
theorem spec_l05Put_ev (s : List S61) (r : S61) (hs : Small s) : Ev (fun k => spec_l05Put.f k s r.f0 r.f1 r.f2 r.f3 r.f4 r.f5 r.f6 r.f7) (putL s r) :=
  ev_to (spec_l05Put_l0_ev s r hs s.length 0 [] (by omega) (by simp)) (by simp [putL])

theorem spec_l04Near_l0_ev (q0 q1 ow q3 q4 q6 : Int) (q7 : Bool) (l : List S127) (hl : l.length ≤ 9223372036854775807) (d : Nat) : ∀ i : Nat, i + d = l.length →
    Ev (fun k => spec_l04Near.l0 k i q0 q1 ow q3 q4 l q6 q7) (nearGo ow (pvN l i) (l.drop i)) := by
  induction d with
  | zero =>
    intro i hi
    rw [List.drop_eq_nil_of_le (by omega)]
    apply ev_succ
    simp only [spec_l04Near.l0]
    exact ev_neg (by omega) (ev_some rfl)
  | succ d ih =>
    intro i hi
    have hr := ih (i + 1) (by omega)
    obtain ⟨x, hx⟩ : ∃ x, rd_T127 l (i : Int) = x := ⟨_, rfl⟩
    have hx2 : l.getD i z127 = x := hx
    rw [pvN_succ, hx2] at hr
    rw [drop_at l z127 i (by omega), hx2]
    apply ev_succ
    simp only [spec_l04Near.l0, spec_l01In_eq, Option.bind_some, decide_eq_true_eq, hx]
    rw [nearGo]
    refine ev_pos (by omega) (ev_pos (by omega) ?_)
    refine ev_ite (fun h1 => ?_) (fun h1 => ev_some (by rw [decide_eq_false h1]; rfl))
    refine ev_ite (fun h2 => ev_some (by rw [decide_eq_true h1, decide_eq_true h2]; rfl)) (fun h2 => ?_)
    refine ev_ite (fun h3 => ?_) (fun h3 => ev_some (by rw [decide_eq_true h1, decide_eq_false h2, decide_eq_false h3]; rfl))
    refine ev_ite (fun h4 => ?_) (fun h4 => ?_)
    · have h0 : 0 < i := by omega
      refine ev_pos (by rw [w64 (by omega) (by omega)]; omega) (ev_pos (by rw [w64 (by omega) (by omega)]; omega) ?_)
      have hp : pvN l i = some (l.getD (i - 1) z127).f0 := by unfold pvN; rw [if_neg (by omega)]
      rw [hp, rdNp l i h0 (by omega)]
      refine ev_ite (fun h5 => ev_some ?_) (fun h5 => ?_)
      · have h6 : ¬ ((l.getD (i - 1) z127).f0 < x.f0) := by omega
        simp only [Option.all_some, decide_eq_false h6, Bool.and_false, Bool.false_and]
      · have h6 : (l.getD (i - 1) z127).f0 < x.f0 := by omega
        rw [w64 (by omega) (by omega)]
        refine ev_to hr ?_
        simp only [Option.all_some, decide_eq_true h6, decide_eq_true h1, decide_eq_false h2, decide_eq_true h3, Bool.true_and, Bool.not_false]
    · have h0 : i = 0 := by omega
      have hp : pvN l i = none := by rw [h0]; rfl
      rw [hp, w64 (by omega) (by omega)]
      refine ev_to hr ?_
      simp only [Option.all_none, decide_eq_true h1, decide_eq_false h2, decide_eq_true h3, Bool.true_and, Bool.not_false]
theorem spec_l04Near_ev (q0 q1 ow q3 q4 q6 : Int) (q7 : Bool) (l : List S127) (hl : l.length ≤ 9223372036854775807) : Ev (fun k => spec_l04Near.f k q0 q1 ow q3 q4 l q6 q7) (nearB ow l) :=
  spec_l04Near_l0_ev q0 q1 ow q3 q4 q6 q7 l hl l.length 0 (by omega)

-- spec_RecordOk
/-! spec_RecordOk -/
theorem spec_RecordOk_ev (ar ki ow ke se : Int) (l : List S127) (co : Int) (fa : Bool) (hl : l.length ≤ 9223372036854775807) : Ev (fun k => spec_RecordOk.f k ar ki ow ke se l co fa) (recB ar ki ow ke se l co fa) := by
  have hj : ∀ b : Bool, Ev (fun k => spec_RecordOk.j0 k b ar ki ow ke se l co fa) (!b && recK ar ki ow ke l co fa) := by
    intro b
    apply ev_succ
    simp only [spec_RecordOk.j0, spec_l01In_eq, Option.bind_some, decide_eq_true_eq]
    refine ev_ite (fun hb => ev_some (by simp [hb])) (fun hb => ?_)
    have hb' : b = false := by simpa using hb
    rw [hb']
    unfold recK
    refine ev_ite (fun h1 => ?_) (fun h1 => ?_)
    · rw [if_pos h1]
      refine ev_ite (fun h2 => ?_) (fun h2 => ev_some (by simp [h2]))
      refine ev_ite (fun h3 => ?_) (fun h3 => ev_some (by simp [h3]))
      refine Ev.bind (spec_l04Near_ev ar ki ow ke se co fa l hl) ?_
      refine ev_ite (fun h4 => ?_) (fun h4 => ev_some (by simp [h4]))
      refine ev_ite (fun h5 => ev_some ?_) (fun h5 => ev_some (by simp [h5]))
      simp [h2, h3, h4, h5]
    · rw [if_neg h1]
      refine ev_ite (fun h1 => ?_) (fun h1 => ?_)
      · rw [if_pos h1]
        refine ev_ite (fun h2 => ?_) (fun h2 => ev_some (by simp [h2]))
        refine ev_ite (fun h3 => ?_) (fun h3 => ev_some (by simp [h3]))
        refine ev_ite (fun h4 => ?_) (fun h4 => ev_some ?_)
        · have h4' : l.length = 0 := by omega
          refine ev_ite (fun h5 => ev_some ?_) (fun h5 => ev_some (by simp [h5]))
          simp [h2, h3, h4', h5]
        · have h4' : ¬ l.length = 0 := by omega
          simp [h4']
      · rw [if_neg h1]
        refine ev_ite (fun h1 => ?_) (fun h1 => ?_)
        · rw [if_pos h1]
          refine ev_ite (fun h2 => ?_) (fun h2 => ev_some (by simp [h2]))
          refine ev_ite (fun h3 => ?_) (fun h3 => ev_some (by simp [h3]))
          refine ev_ite (fun h4 => ?_) (fun h4 => ev_some ?_)
          · have h4' : l.length = 0 := by omega
            refine ev_ite (fun h5 => ev_some ?_) (fun h5 => ev_some ?_)
            · simp [h2, h3, h4', h5]
            · simp [h2, h3, h4', h5]
          · have h4' : ¬ l.length = 0 := by omega
            simp [h4']
        · rw [if_neg h1]
          exact ev_some (by simp)
  unfold spec_RecordOk.f
  simp only [spec_l01In_eq, Option.bind_some, decide_eq_true_eq]
  unfold recB
  refine ev_ite (fun h1 => ?_) (fun h1 => ?_)
  · exact ev_to (hj _) (by simp [h1])
  · exact ev_to (hj _) (by simp [h1])

theorem spec_l05Install_ev (s : List S61) (r : S61) (hs : Small s) (hr : r.f5.length ≤ 1048576) :
    Ev (fun k => spec_l05Install.f k s r.f0 r.f1 r.f2 r.f3 r.f4 r.f5 r.f6 r.f7) (if instB s r = true then (putL s r, true) else (s, false)) := by
  have hl1 := hs.1
  have hk := keyB_lt s r
  have hP := spec_l05Put_ev s r hs
  have hrec : recB r.f0 r.f1 r.f2 r.f3 r.f4 r.f5 r.f6 r.f7 = recR r := rfl
  unfold spec_l05Install.f instB
  refine Ev.bind (spec_l05At_ev s r hs.lens.1) (Ev.bind (spec_RecordOk_ev r.f0 r.f1 r.f2 r.f3 r.f4 r.f5 r.f6 r.f7 (by omega)) ?_)
  rw [hrec]
  refine ev_ite (fun h1 => ?_) (fun h1 => ev_some (by simp [h1]))
  rw [h1, Bool.true_and]
  have hrd : rd_T61 s (keyB s r) = s.getD (keyB s r).toNat z61 := rfl
  simp only [hrd]
  refine ev_ite (fun h2 => ?_) (fun h2 => ?_)
  · rw [newB_key (s := s) (r := r) (by omega)]
    refine ev_pos (by omega) (ev_pos hk (ev_ite (fun h3 => ev_some ?_) (fun h3 => ?_)))
    · rw [if_neg (by rw [decide_eq_true_eq]; omega)]
    · refine ev_neg (by omega) ?_
      rw [if_pos (by rw [decide_eq_true_eq]; omega)]
      exact Ev.bind hP (Ev.now _)
  · rw [newB_none (s := s) (r := r) (by omega)]
    refine ev_pos (by omega) (ev_ite (fun h3 => ev_some ?_) (fun h3 => ?_))
    · rw [if_neg (by rw [decide_eq_true_eq]; omega)]
    · rw [if_pos (by rw [decide_eq_true_eq]; omega)]
      exact Ev.bind hP (Ev.now _)

def Good (s : List S61) : Prop := storeB s = true ∧ ∀ x ∈ s, x.f5.length ≤ 1048576
theorem Good.small {s : List S61} (h : Good s) : Small s := store_small h.1 h.2
theorem spec_l05Store_l0_ex (xs : List Int) (hx : xs.length ≤ 9223372036854775000) (d : Nat) : ∀ (i : Nat) (p s : Int) (st : List S61), i + d = 12 → Good st → st.length ≤ i → 0 ≤ p →
    ∃ st' p' s', Ev (fun k => spec_l05Store.l0 k st i xs p s) (st', p', s') ∧ (Good st' ∧ st'.length ≤ 12) ∧ 0 ≤ p' := by
  induction d with
  | zero =>
    intro i p s st hi hg hn0 hp
    obtain ⟨v, p1, s1, h1, _, hv, hp1⟩ := spec_l01Below_ex xs p s 12 hp hx (by omega) (by omega)
    refine ⟨st, p1, s1, ev_succ ?_, ⟨hg, by omega⟩, hp1⟩
    simp only [spec_l05Store.l0, h1, Option.bind_some]
    exact ev_neg (by omega) (Ev.now _)
  | succ d ih =>
    intro i p s st hi hg hn0 hp
    obtain ⟨v, p1, s1, h1, _, hv, hp1⟩ := spec_l01Below_ex xs p s 12 hp hx (by omega) (by omega)
    by_cases hc : (i : Int) < v
    · obtain ⟨r, p2, s2, h2, hn, hp2⟩ := spec_l04Record_ex xs p1 s1 hp1 hx
      have h3 := spec_l05Install_ev st r hg.small (by omega)
      have hg2 : Good (if instB st r = true then (putL st r, true) else (st, false)).1 := by
        by_cases hi2 : instB st r = true
        · rw [if_pos hi2]
          exact ⟨putL_store hg.1 hi2, putL_near hg.2 (by omega)⟩
        · rw [if_neg hi2]
          exact hg
      have hn2 : (if instB st r = true then (putL st r, true) else (st, false)).1.length ≤ i + 1 := by
        by_cases hi2 : instB st r = true
        · rw [if_pos hi2]
          have := (putL_length st r).1
          simp only
          omega
        · rw [if_neg hi2]
          simp only
          omega
      obtain ⟨st', p', s', h, h4, h5⟩ := ih (i + 1) p2 s2 _ (by omega) hg2 hn2 hp2
      refine ⟨st', p', s', ev_succ ?_, h4, h5⟩
      simp only [spec_l05Store.l0, h1, Option.bind_some]
      rw [w64 (x := (i : Int) + 1) (by omega) (by omega)]
      exact ev_pos hc (Ev.bind h2 (Ev.bind h3 h))
    · refine ⟨st, p1, s1, ev_succ ?_, ⟨hg, by omega⟩, hp1⟩
      simp only [spec_l05Store.l0, h1, Option.bind_some]
      exact ev_neg hc (Ev.now _)
theorem spec_DrawStores_ex (xs : List Int) (hx : xs.length ≤ 9223372036854775000) : ∃ a b, Ev (fun k => spec_DrawStores.f k xs) (a, b) ∧ (Good a ∧ a.length ≤ 12) ∧ Good b ∧ b.length ≤ 12 := by
  have hn : Good [] := ⟨by simp [storeB, storeGo], by simp⟩
  obtain ⟨s, h⟩ := spec_l01New_ex xs hx
  obtain ⟨a, p1, s1, h1, g1, hp1⟩ := spec_l05Store_l0_ex xs hx 12 0 0 s [] (by omega) hn (by simp) (by omega)
  obtain ⟨b, p2, s2, h2, g2, hp2⟩ := spec_l05Store_l0_ex xs hx 12 0 p1 s1 [] (by omega) hn (by simp) hp1
  exact ⟨a, b, Ev.bind h (Ev.bind h1 (Ev.bind h2 (Ev.now _))), g1, g2⟩

/-- A store that learned: what it was told by is in it, or what is as new. -/
def AsNew (m : List S61) (x : S61) : Prop := ∃ y ∈ m, sameKey y x = true ∧ x.f4 ≤ y.f4
theorem key_symm {a b : S61} (h : sameKey a b = true) : sameKey b a = true := by
  simp only [sameKey, decide_eq_true_eq] at *
  omega
theorem key_trans {a b c : S61} (h : sameKey a b = true) (k : sameKey b c = true) : sameKey a c = true := by
  simp only [sameKey, decide_eq_true_eq] at *
  omega
theorem key_refl (a : S61) : sameKey a a = true := by simp [sameKey]
theorem AsNew.trans {m : List S61} {x y : S61} (h : AsNew m y) (hk : sameKey y x = true) (hs : x.f4 ≤ y.f4) : AsNew m x := by
  obtain ⟨z, hz, h1, h2⟩ := h
  exact ⟨z, hz, key_trans h1 hk, by omega⟩
theorem putL_mem_self (s : List S61) (r : S61) : r ∈ putL s r := by simp [putL]
theorem putL_keeps {s : List S61} {r x : S61} (hx : x ∈ s) (hk : sameKey x r = false) : x ∈ putL s r := by
  unfold putL
  rcases before_tri x r with h | h | h
  · exact List.mem_append.2 (.inl (List.mem_filter.2 ⟨hx, h⟩))
  · rw [hk] at h; cases h
  · exact List.mem_append.2 (.inr (List.mem_cons.2 (.inr (List.mem_filter.2 ⟨hx, h⟩))))
theorem learnL_asNew (t : List S61) : ∀ s f, storeB s = true → s.length + t.length ≤ 150 → (∀ x ∈ t, recR x = true) →
    (∀ x ∈ s, AsNew (learnL s f t).1 x) ∧ (∀ x ∈ t, AsNew (learnL s f t).1 x) ∧ (∀ y ∈ (learnL s f t).1, y ∈ s ∨ y ∈ t) := by
  induction t with
  | nil => intro s f h1 h2 h3; exact ⟨fun x hx => ⟨x, hx, key_refl x, Int.le_refl _⟩, (fun x hx => by cases hx), fun y hy => .inl hy⟩
  | cons r t ih =>
    intro s f h1 h2 h3
    simp only [List.length_cons] at h2
    have hA := ((storeB_iff s).1 h1).2.2
    rw [learnL]
    by_cases hi : instB s r = true
    · rw [if_pos hi]
      have hlen := (putL_length s r).1
      obtain ⟨a1, a2, a3⟩ := ih (putL s r) (f ++ [r]) (putL_store h1 hi) (by omega) (fun x hx => h3 x (by simp [hx]))
      have hr := a1 r (putL_mem_self s r)
      refine ⟨fun x hx => ?_, fun x hx => ?_, fun y hy => ?_⟩
      · by_cases hk : sameKey x r = true
        · have hn : newB s r = true := ((Bool.and_eq_true _ _).mp hi).2
          refine hr.trans (key_symm hk) ?_
          rcases keyB_cases s r with ⟨_, h⟩ | ⟨j, j1, j2, j3, _⟩
          · rw [h x hx] at hk; cases hk
          · have hm : s.getD j z61 ∈ s := getD_mem s _ j j1
            have e := asc_inj hA _ hm _ hx (key_trans j3 (key_symm hk))
            rw [newB_key (by omega), j2, Int.toNat_natCast, e, decide_eq_true_eq] at hn
            omega
        · exact a1 x (putL_keeps hx (Bool.eq_false_iff.2 hk))
      · rcases List.mem_cons.1 hx with rfl | hx
        · exact hr
        · exact a2 x hx
      · rcases a3 y hy with h | h
        · rcases mem_putL h with rfl | h
          · exact .inr (by simp)
          · exact .inl h
        · exact .inr (by simp [h])
    · rw [if_neg hi]
      obtain ⟨a1, a2, a3⟩ := ih s f h1 (by omega) (fun x hx => h3 x (by simp [hx]))
      refine ⟨a1, fun x hx => ?_, fun y hy => ?_⟩
      · rcases List.mem_cons.1 hx with rfl | hx
        · have hn : newB s x = false := by
            have h4 := h3 x (by simp)
            rw [instB, h4, Bool.true_and, Bool.not_eq_true] at hi
            exact hi
          rcases keyB_cases s x with ⟨j2, _⟩ | ⟨j, j1, j2, j3, _⟩
          · rw [newB_none (by omega), decide_eq_false_iff_not] at hn
            omega
          · have hm : s.getD j z61 ∈ s := getD_mem s _ j j1
            rw [newB_key (by omega), j2, Int.toNat_natCast, decide_eq_false_iff_not] at hn
            exact (a1 _ hm).trans j3 (by omega)
        · exact a2 x hx
      · rcases a3 y hy with h | h
        · exact .inl h
        · exact .inr (by simp [h])
theorem AsNew.no {m : List S61} {x : S61} (hA : Asc m) (h : AsNew m x) : isNew m x = false := by
  obtain ⟨y, hy, h1, h2⟩ := h
  exact isNew_no hA hy h1 h2
theorem AsNew.inst {m : List S61} {x : S61} (hA : Asc m) (h : AsNew m x) : instB m x = false := by
  have h1 := h.no hA
  have hl := keyB_cases m x
  rw [isNew, Bool.or_eq_false_iff, decide_eq_false_iff_not, decide_eq_false_iff_not] at h1
  rw [instB, newB_key (by omega), decide_eq_false h1.2, Bool.and_false]
theorem learnL_same (t : List S61) : ∀ m f, (∀ x ∈ t, instB m x = false) → (learnL m f t).1 = m := by
  induction t with
  | nil => intro m f _; rfl
  | cons r t ih =>
    intro m f h
    rw [learnL, if_neg (by rw [h r (by simp)]; exact Bool.false_ne_true)]
    exact ih m f (fun x hx => h x (by simp [hx]))
/-- The newest of a key. -/
def nwGo (r : S61) : Int → List S61 → Int
  | v, [] => v
  | v, x :: xs => nwGo r (if sameKey x r = true then (if x.f4 > v then x.f4 else v) else v) xs
theorem nwGo_spec (r : S61) (xs : List S61) : ∀ v, v ≤ nwGo r v xs ∧ (∀ x ∈ xs, sameKey x r = true → x.f4 ≤ nwGo r v xs) ∧ (nwGo r v xs = v ∨ ∃ x ∈ xs, sameKey x r = true ∧ x.f4 = nwGo r v xs) := by
  induction xs with
  | nil => intro v; exact ⟨Int.le_refl _, (fun x hx => by cases hx), .inl rfl⟩
  | cons y ys ih =>
    intro v
    rw [nwGo]
    obtain ⟨h1, h2, h3⟩ := ih (if sameKey y r = true then (if y.f4 > v then y.f4 else v) else v)
    generalize hw : (if sameKey y r = true then (if y.f4 > v then y.f4 else v) else v) = w at *
    have hv : v ≤ w ∧ (sameKey y r = true → y.f4 ≤ w) ∧ (w = v ∨ (sameKey y r = true ∧ y.f4 = w)) := by
      by_cases hk : sameKey y r = true
      · rw [if_pos hk] at hw
        by_cases h : y.f4 > v
        · rw [if_pos h] at hw; exact ⟨by omega, fun _ => by omega, .inr ⟨hk, hw⟩⟩
        · rw [if_neg h] at hw; exact ⟨by omega, fun _ => by omega, .inl (by omega)⟩
      · rw [if_neg hk] at hw; exact ⟨by omega, fun h => absurd h hk, .inl (by omega)⟩
    obtain ⟨a1, a2, a3⟩ := hv
    refine ⟨by omega, fun x hx hk => ?_, ?_⟩
    · rcases List.mem_cons.1 hx with hx1 | hx1
      · subst hx1; have := a2 hk; omega
      · exact h2 x hx1 hk
    · rcases h3 with h | ⟨x, hx, hk, he⟩
      · rcases a3 with h' | ⟨hk, he⟩
        · exact .inl (by omega)
        · exact .inr ⟨y, by simp, hk, by omega⟩
      · exact .inr ⟨x, by simp [hx], hk, he⟩
theorem laws_newest_l0_ev (r : S61) (l : List S61) (hl : l.length ≤ 9223372036854775000) (d : Nat) : ∀ (i : Nat) (v : Int), i + d = l.length →
    Ev (fun k => laws_newest.l0 k l v i r.f0 r.f1 r.f2 r.f3 r.f4 r.f5 r.f6 r.f7) (nwGo r v (l.drop i)) := by
  induction d with
  | zero =>
    intro i v hi
    rw [List.drop_eq_nil_of_le (by omega)]
    apply ev_succ
    simp only [laws_newest.l0]
    exact ev_neg (by omega) (Ev.now _)
  | succ d ih =>
    intro i v hi
    obtain ⟨x, hx⟩ : ∃ x, rd_T61 l (i : Int) = x := ⟨_, rfl⟩
    have hx2 : l.getD i z61 = x := hx
    rw [drop_at l z61 i (by omega), hx2, nwGo]
    apply ev_succ
    simp only [laws_newest.l0, hx, spec_SameKey_eq x r, Option.bind_some]
    rw [w64 (x := (i : Int) + 1) (by omega) (by omega)]
    refine ev_pos (by omega) (ev_pos (by omega) (ev_ite (fun h1 => ev_ite (fun h2 => ?_) (fun h2 => ?_)) (fun h1 => ?_)))
    · rw [if_pos h1, if_pos h2]; exact ih (i + 1) _ (by omega)
    · rw [if_pos h1, if_neg h2]; exact ih (i + 1) _ (by omega)
    · rw [if_neg h1]; exact ih (i + 1) _ (by omega)
theorem laws_newest_ev (l : List S61) (r : S61) (hl : l.length ≤ 9223372036854775000) : Ev (fun k => laws_newest.f k l r.f0 r.f1 r.f2 r.f3 r.f4 r.f5 r.f6 r.f7) (nwGo r 0 l) := laws_newest_l0_ev r l hl l.length 0 0 (by omega)
theorem laws_same_l0_refl (a0 a1 a2 a3 a4 a6 : Int) (a7 : Bool) (l : List S127) (hl : l.length ≤ 9223372036854775000) (d : Nat) : ∀ i : Nat, i + d = l.length →
    Ev (fun k => laws_same.l0 k i a0 a1 a2 a3 a4 l a6 a7 a0 a1 a2 a3 a4 l a6 a7) true := by
  induction d with
  | zero =>
    intro i hi
    apply ev_succ
    simp only [laws_same.l0]
    exact ev_neg (by omega) (Ev.now _)
  | succ d ih =>
    intro i hi
    apply ev_succ
    simp only [laws_same.l0]
    rw [w64 (x := (i : Int) + 1) (by omega) (by omega)]
    exact ev_pos (by omega) (ev_pos (by omega) (ev_pos (by omega) (ev_neg (by simp) (ih (i + 1) (by omega)))))
theorem laws_same_refl (a0 a1 a2 a3 a4 a6 : Int) (a7 : Bool) (l : List S127) (hl : l.length ≤ 9223372036854775000) :
    Ev (fun k => laws_same.f k a0 a1 a2 a3 a4 l a6 a7 a0 a1 a2 a3 a4 l a6 a7) true := by
  unfold laws_same.f
  simp only [if_true]
  refine ev_neg (by simp) (ev_succ ?_)
  simp only [laws_same.j0]
  exact ev_neg (by simp) (laws_same_l0_refl a0 a1 a2 a3 a4 a6 a7 l hl l.length 0 (by omega))
theorem laws_sameStore_l0_refl (l : List S61) (hs : Small l) (d : Nat) : ∀ i : Nat, i + d = l.length → Ev (fun k => laws_sameStore.l0 k l l i) true := by
  have hl1 := hs.1
  induction d with
  | zero =>
    intro i hi
    apply ev_succ
    simp only [laws_sameStore.l0]
    exact ev_neg (by omega) (Ev.now _)
  | succ d ih =>
    intro i hi
    obtain ⟨x, hx⟩ : ∃ x, rd_T61 l (i : Int) = x := ⟨_, rfl⟩
    have hx2 : l.getD i z61 = x := hx
    have hm : x ∈ l := by rw [← hx2]; exact getD_mem l _ i (by omega)
    have hn := hs.2 x hm
    apply ev_succ
    simp only [laws_sameStore.l0, hx]
    rw [w64 (x := (i : Int) + 1) (by omega) (by omega)]
    exact ev_pos (by omega) (ev_pos (by omega) (ev_pos (by omega) (Ev.bind (laws_same_refl _ _ _ _ _ _ _ x.f5 (by omega)) (ev_pos rfl (ih (i + 1) (by omega))))))
theorem laws_sameStore_refl (l : List S61) (hs : Small l) : Ev (fun k => laws_sameStore.f k l l) true := by
  unfold laws_sameStore.f
  exact ev_pos (by first | trivial | rfl) (laws_sameStore_l0_refl l hs l.length 0 (by omega))

theorem impl_copyRecords_l0_ev (l : List S61) (hs : Small l) (d : Nat) : ∀ (i : Nat) (acc : List S61), i + d = l.length → acc.length ≤ i →
    Ev (fun k => impl_copyRecords.l0 k acc l (l.length : Int) i) (acc ++ l.drop i) := by
  have hl1 := hs.1
  induction d with
  | zero =>
    intro i acc hi ha
    rw [List.drop_eq_nil_of_le (by omega)]
    apply ev_succ
    simp only [impl_copyRecords.l0]
    exact ev_neg (by omega) (ev_some (by simp))
  | succ d ih =>
    intro i acc hi ha
    obtain ⟨x, hx⟩ : ∃ x, rd_T61 l (i : Int) = x := ⟨_, rfl⟩
    have hx2 : l.getD i z61 = x := hx
    have hm : x ∈ l := by rw [← hx2]; exact getD_mem l _ i (by omega)
    have hn := hs.2 x hm
    have hr1 := ih (i + 1) (acc ++ [x]) (by omega) (by simp; omega)
    rw [drop_at l z61 i (by omega), hx2]
    apply ev_succ
    simp only [impl_copyRecords.l0, hx, impl_copyRecord_eq x hn, Option.bind_some]
    rw [w64 (x := (i : Int) + 1) (by omega) (by omega)]
    exact ev_pos (by omega) (ev_pos (by omega) (ev_pos (by omega) (ev_pos (by omega) (ev_to hr1 (by simp)))))
theorem impl_copyRecords_ev (l : List S61) (hs : Small l) : Ev (fun k => impl_copyRecords.f k l) l := ev_to (impl_copyRecords_l0_ev l hs l.length 0 [] (by omega) (by simp)) (by simp)

theorem impl_Before_eq (a b : S61) : impl_Before.f a.f0 a.f1 a.f2 a.f3 a.f4 a.f5 a.f6 a.f7 b.f0 b.f1 b.f2 b.f3 b.f4 b.f5 b.f6 b.f7 = some (beforeB a b) := by
  unfold impl_Before.f beforeB
  by_cases h0 : a.f0 = b.f0
  · by_cases h1 : a.f1 = b.f1
    · by_cases h2 : a.f2 = b.f2
      · rw [if_pos h0, if_pos h1, if_pos h2]
        congr 1
        rw [Bool.eq_iff_iff, decide_eq_true_eq, decide_eq_true_eq]
        omega
      · rw [if_pos h0, if_pos h1, if_neg h2]
        congr 1
        rw [Bool.eq_iff_iff, decide_eq_true_eq, decide_eq_true_eq]
        omega
    · rw [if_pos h0, if_neg h1]
      congr 1
      rw [Bool.eq_iff_iff, decide_eq_true_eq, decide_eq_true_eq]
      omega
  · rw [if_neg h0]
    congr 1
    rw [Bool.eq_iff_iff, decide_eq_true_eq, decide_eq_true_eq]
    omega

theorem Small.take {s : List S61} (h : Small s) (i : Nat) : Small (s.take i) := ⟨by have := h.1; rw [List.length_take]; omega, fun x hx => h.2 x (List.mem_of_mem_take hx)⟩
theorem Small.drop {s : List S61} (h : Small s) (i : Nat) : Small (s.drop i) := ⟨by have := h.1; rw [List.length_drop]; omega, fun x hx => h.2 x (List.mem_of_mem_drop hx)⟩
theorem impl_put_j1_ev (s : List S61) (r : S61) (hs : Small s) (hr : r.f5.length ≤ 1048576) (hA : Asc s) (i : Nat) (hi : i ≤ s.length) (hp : ∀ x ∈ s.take i, beforeB x r = true) (hq : ∀ x, (s.drop i).head? = some x → beforeB x r = false) :
    Ev (fun k => impl_put.j1 k s i r.f0 r.f1 r.f2 r.f3 r.f4 r.f5 r.f6 r.f7) (putL s r) := by
  have hl1 := hs.1
  have hsp := putL_split (s.take i) (s.drop i) r (by rw [List.take_append_drop]; exact hA) hp hq
  rw [List.take_append_drop] at hsp
  rw [hsp]
  have hT := impl_copyRecords_ev (s.take i) (hs.take i)
  have hlt : (s.take i).length = i := by rw [List.length_take]; omega
  apply ev_succ
  simp only [impl_put.j1, impl_copyRecord_eq r hr, Option.bind_some, Int.toNat_natCast]
  refine ev_pos (by omega) (ev_pos (by omega) (Ev.bind hT (ev_pos (by omega) ?_)))
  refine ev_ite (fun h1 => ?_) (fun h1 => ?_)
  · obtain ⟨x, hx⟩ : ∃ x, rd_T61 s (i : Int) = x := ⟨_, rfl⟩
    have hx2 : s.getD i z61 = x := hx
    have hd : s.drop i = x :: s.drop (i + 1) := by rw [drop_at s z61 i (by omega), hx2]
    simp only [hx, impl_SameKey_eq, Option.bind_some]
    rw [w64 (x := (i : Int) + 1) (by omega) (by omega)]
    refine ev_ite (fun h2 => ?_) (fun h2 => ?_)
    · have hD := impl_copyRecords_ev (s.drop (i + 1)) (hs.drop (i + 1))
      have hld : (s.drop (i + 1)).length ≤ s.length := by rw [List.length_drop]; omega
      rw [show ((i : Int) + 1).toNat = i + 1 by omega]
      refine ev_pos (by omega) (ev_pos (by omega) (Ev.bind hD (ev_pos (by simp only [List.length_append, List.length_cons, List.length_nil]; omega) (ev_some ?_))))
      rw [hd, behind, if_pos h2]
      simp
    · have hD := impl_copyRecords_ev (s.drop i) (hs.drop i)
      have hld : (s.drop i).length ≤ s.length := by rw [List.length_drop]; omega
      refine Ev.bind hD (ev_pos (by simp only [List.length_append, List.length_cons, List.length_nil]; omega) (ev_some ?_))
      rw [hd, behind, if_neg h2]
      simp
  · have hD := impl_copyRecords_ev (s.drop i) (hs.drop i)
    have hld : (s.drop i).length ≤ s.length := by rw [List.length_drop]; omega
    refine Ev.bind hD (ev_pos (by simp only [List.length_append, List.length_cons, List.length_nil]; omega) (ev_some ?_))
    rw [List.drop_eq_nil_of_le (by omega)]
    simp [behind]
theorem impl_put_l0_ev (s : List S61) (r : S61) (hs : Small s) (hr : r.f5.length ≤ 1048576) (hA : Asc s) (d : Nat) : ∀ i : Nat, i + d = s.length → (∀ x ∈ s.take i, beforeB x r = true) →
    Ev (fun k => impl_put.l0 k s i r.f0 r.f1 r.f2 r.f3 r.f4 r.f5 r.f6 r.f7) (putL s r) := by
  have hl1 := hs.1
  induction d with
  | zero =>
    intro i hi hp
    apply ev_succ
    simp only [impl_put.l0]
    refine ev_neg (by omega) (impl_put_j1_ev s r hs hr hA i (by omega) hp ?_)
    rw [List.drop_eq_nil_of_le (by omega)]
    intro x hx
    cases hx
  | succ d ih =>
    intro i hi hp
    obtain ⟨x, hx⟩ : ∃ x, rd_T61 s (i : Int) = x := ⟨_, rfl⟩
    have hx2 : s.getD i z61 = x := hx
    have hd : s.drop i = x :: s.drop (i + 1) := by rw [drop_at s z61 i (by omega), hx2]
    apply ev_succ
    simp only [impl_put.l0, hx, impl_Before_eq, Option.bind_some]
    rw [w64 (x := (i : Int) + 1) (by omega) (by omega)]
    refine ev_pos (by omega) (ev_pos (by omega) (ev_ite (fun h1 => ?_) (fun h1 => ?_)))
    · refine ih (i + 1) (by omega) (fun y hy => ?_)
      rw [List.take_succ_eq_append_getElem (by omega)] at hy
      rcases List.mem_append.1 hy with hy | hy
      · exact hp y hy
      · have hy2 : y = x := by
          rw [List.mem_singleton] at hy
          rw [hy, ← hx2, List.getD_eq_getElem?_getD, List.getElem?_eq_getElem (by omega)]
          rfl
        rw [hy2]; exact h1
    · refine impl_put_j1_ev s r hs hr hA i (by omega) hp (fun y hy => ?_)
      rw [hd] at hy
      have hy2 : x = y := by simpa using hy
      rw [← hy2]
      simpa using h1
theorem impl_put_ev (s : List S61) (r : S61) (hs : Small s) (hr : r.f5.length ≤ 1048576) (hA : Asc s) : Ev (fun k => impl_put.f k s r.f0 r.f1 r.f2 r.f3 r.f4 r.f5 r.f6 r.f7) (putL s r) :=
  impl_put_l0_ev s r hs hr hA s.length 0 (by omega) (by simp)

theorem impl_nearOk_l0_ev (q0 q1 ow q3 q4 q6 : Int) (q7 : Bool) (l : List S127) (hl : l.length ≤ 9223372036854775807) (d : Nat) : ∀ i : Nat, i + d = l.length →
    Ev (fun k => impl_nearOk.l0 k l (l.length : Int) i q0 q1 ow q3 q4 l q6 q7) (nearGo ow (pvN l i) (l.drop i)) := by
  induction d with
  | zero =>
    intro i hi
    rw [List.drop_eq_nil_of_le (by omega)]
    apply ev_succ
    simp only [impl_nearOk.l0]
    exact ev_neg (by omega) (ev_some rfl)
  | succ d ih =>
    intro i hi
    have hr := ih (i + 1) (by omega)
    obtain ⟨x, hx⟩ : ∃ x, rd_T127 l (i : Int) = x := ⟨_, rfl⟩
    have hx2 : l.getD i z127 = x := hx
    rw [pvN_succ, hx2] at hr
    rw [drop_at l z127 i (by omega), hx2]
    apply ev_succ
    simp only [impl_nearOk.l0, impl_in_eq, Option.bind_some, decide_eq_true_eq, hx]
    rw [nearGo]
    refine ev_pos (by omega) (ev_pos (by omega) (ev_pos (by omega) ?_))
    refine ev_ite (fun h1 => ?_) (fun h1 => ev_some (by rw [decide_eq_false h1]; rfl))
    refine ev_ite (fun h2 => ev_some (by rw [decide_eq_true h1, decide_eq_true h2]; rfl)) (fun h2 => ?_)
    refine ev_ite (fun h3 => ?_) (fun h3 => ev_some (by rw [decide_eq_true h1, decide_eq_false h2, decide_eq_false h3]; rfl))
    refine ev_ite (fun h4 => ?_) (fun h4 => ?_)
    · have h0 : 0 < i := by omega
      refine ev_pos (by rw [w64 (by omega) (by omega)]; omega) (ev_pos (by rw [w64 (by omega) (by omega)]; omega) ?_)
      have hp : pvN l i = some (l.getD (i - 1) z127).f0 := by unfold pvN; rw [if_neg (by omega)]
      rw [hp, rdNp l i h0 (by omega)]
      refine ev_ite (fun h5 => ev_some ?_) (fun h5 => ?_)
      · have h6 : ¬ ((l.getD (i - 1) z127).f0 < x.f0) := by omega
        simp only [Option.all_some, decide_eq_false h6, Bool.and_false, Bool.false_and]
      · have h6 : (l.getD (i - 1) z127).f0 < x.f0 := by omega
        rw [w64 (by omega) (by omega)]
        refine ev_to hr ?_
        simp only [Option.all_some, decide_eq_true h6, decide_eq_true h1, decide_eq_false h2, decide_eq_true h3, Bool.true_and, Bool.not_false]
    · have h0 : i = 0 := by omega
      have hp : pvN l i = none := by rw [h0]; rfl
      rw [hp, w64 (by omega) (by omega)]
      refine ev_to hr ?_
      simp only [Option.all_none, decide_eq_true h1, decide_eq_false h2, decide_eq_true h3, Bool.true_and, Bool.not_false]
theorem impl_nearOk_ev (q0 q1 ow q3 q4 q6 : Int) (q7 : Bool) (l : List S127) (hl : l.length ≤ 9223372036854775807) : Ev (fun k => impl_nearOk.f k q0 q1 ow q3 q4 l q6 q7) (nearB ow l) :=
  impl_nearOk_l0_ev q0 q1 ow q3 q4 q6 q7 l hl l.length 0 (by omega)

-- impl_RecordOk
/-! impl_RecordOk -/
theorem impl_RecordOk_ev (ar ki ow ke se : Int) (l : List S127) (co : Int) (fa : Bool) (hl : l.length ≤ 9223372036854775807) : Ev (fun k => impl_RecordOk.f k ar ki ow ke se l co fa) (recB ar ki ow ke se l co fa) := by
  have hj : ∀ b : Bool, Ev (fun k => impl_RecordOk.j0 k b ar ki ow ke se l co fa) (!b && recK ar ki ow ke l co fa) := by
    intro b
    apply ev_succ
    simp only [impl_RecordOk.j0, impl_in_eq, Option.bind_some, decide_eq_true_eq]
    refine ev_ite (fun hb => ev_some (by simp [hb])) (fun hb => ?_)
    have hb' : b = false := by simpa using hb
    rw [hb']
    unfold recK
    refine ev_ite (fun h1 => ?_) (fun h1 => ?_)
    · rw [if_pos h1]
      refine ev_ite (fun h2 => ?_) (fun h2 => ev_some (by simp [h2]))
      refine ev_ite (fun h3 => ?_) (fun h3 => ev_some (by simp [h3]))
      refine Ev.bind (impl_nearOk_ev ar ki ow ke se co fa l hl) ?_
      refine ev_ite (fun h4 => ?_) (fun h4 => ev_some (by simp [h4]))
      refine ev_ite (fun h5 => ev_some ?_) (fun h5 => ev_some (by simp [h5]))
      simp [h2, h3, h4, h5]
    · rw [if_neg h1]
      refine ev_ite (fun h1 => ?_) (fun h1 => ?_)
      · rw [if_pos h1]
        refine ev_ite (fun h2 => ?_) (fun h2 => ev_some (by simp [h2]))
        refine ev_ite (fun h3 => ?_) (fun h3 => ev_some (by simp [h3]))
        refine ev_ite (fun h4 => ?_) (fun h4 => ev_some ?_)
        · have h4' : l.length = 0 := by omega
          refine ev_ite (fun h5 => ev_some ?_) (fun h5 => ev_some (by simp [h5]))
          simp [h2, h3, h4', h5]
        · have h4' : ¬ l.length = 0 := by omega
          simp [h4']
      · rw [if_neg h1]
        refine ev_ite (fun h1 => ?_) (fun h1 => ?_)
        · rw [if_pos h1]
          refine ev_ite (fun h2 => ?_) (fun h2 => ev_some (by simp [h2]))
          refine ev_ite (fun h3 => ?_) (fun h3 => ev_some (by simp [h3]))
          refine ev_ite (fun h4 => ?_) (fun h4 => ev_some ?_)
          · have h4' : l.length = 0 := by omega
            refine ev_ite (fun h5 => ev_some ?_) (fun h5 => ev_some ?_)
            · simp [h2, h3, h4', h5]
            · simp [h2, h3, h4', h5]
          · have h4' : ¬ l.length = 0 := by omega
            simp [h4']
        · rw [if_neg h1]
          exact ev_some (by simp)
  unfold impl_RecordOk.f
  simp only [impl_in_eq, Option.bind_some, decide_eq_true_eq]
  unfold recB
  refine ev_ite (fun h1 => ?_) (fun h1 => ?_)
  · exact ev_to (hj _) (by simp [h1])
  · exact ev_to (hj _) (by simp [h1])

theorem impl_StoreOk_l0_ev (l : List S61) (hl : Lens l) (d : Nat) : ∀ i : Nat, i + d = l.length →
    Ev (fun k => impl_StoreOk.l0 k l l (l.length : Int) i) (decide (l.length ≤ 150) && storeGo (pvR l i) (l.drop i)) := by
  have hl1 := hl.1
  induction d with
  | zero =>
    intro i hi
    rw [List.drop_eq_nil_of_le (by omega)]
    apply ev_succ
    simp only [impl_StoreOk.l0]
    exact ev_neg (by omega) (ev_some (by rw [storeGo, Bool.and_true]; by_cases h : l.length ≤ 150 <;> simp [h] <;> omega))
  | succ d ih =>
    intro i hi
    have hr := ih (i + 1) (by omega)
    obtain ⟨x, hx⟩ : ∃ x, rd_T61 l (i : Int) = x := ⟨_, rfl⟩
    have hx2 : l.getD i z61 = x := hx
    have hm : x ∈ l := by rw [← hx2]; exact getD_mem l _ i (by omega)
    have hn := hl.2 x hm
    rw [pvR_succ, hx2] at hr
    rw [drop_at l z61 i (by omega), hx2, storeGo]
    apply ev_succ
    simp only [impl_StoreOk.l0, hx]
    rw [w64 (x := (i : Int) + 1) (by omega) (by omega)]
    refine ev_pos (by omega) (ev_pos (by omega) (ev_pos (by omega) ?_))
    refine Ev.bind (impl_RecordOk_ev x.f0 x.f1 x.f2 x.f3 x.f4 x.f5 x.f6 x.f7 (by omega)) ?_
    have hrec : recB x.f0 x.f1 x.f2 x.f3 x.f4 x.f5 x.f6 x.f7 = recR x := rfl
    rw [hrec]
    refine ev_ite (fun h1 => ?_) (fun h1 => ev_some (by simp [h1]))
    refine ev_ite (fun h2 => ?_) (fun h2 => ?_)
    · have h0 : 0 < i := by omega
      have hp : pvR l i = some (l.getD (i - 1) z61) := by unfold pvR; rw [if_neg (by omega)]
      rw [hp]
      simp only [rdRp l i h0 (by omega), impl_Before_eq, Option.bind_some]
      refine ev_pos (by rw [w64 (by omega) (by omega)]; omega) (ev_pos (by rw [w64 (by omega) (by omega)]; omega) ?_)
      refine ev_ite (fun h3 => ?_) (fun h3 => ev_some ?_)
      · refine ev_to hr ?_
        simp only [Option.all_some, h1, h3, Bool.true_and]
      · have h3' : beforeB (l.getD (i - 1) z61) x = false := by simpa using h3
        simp only [Option.all_some, h3', Bool.and_false, Bool.false_and]
    · have h0 : i = 0 := by omega
      have hp : pvR l i = none := by rw [h0]; rfl
      rw [hp]
      refine ev_to hr ?_
      simp [h1]
theorem impl_StoreOk_ev (l : List S61) (hl : Lens l) : Ev (fun k => impl_StoreOk.f k l) (storeB l) :=
  impl_StoreOk_l0_ev l hl l.length 0 (by omega)

theorem impl_Install_j0_ev (s : List S61) (r : S61) (hs : Small s) (hr : r.f5.length ≤ 1048576) (b : Bool) (hb : b = false → Asc s) :
    Ev (fun k => impl_Install.j0 k s b r.f0 r.f1 r.f2 r.f3 r.f4 r.f5 r.f6 r.f7) (if (!b && newB s r) = true then (putL s r, true) else ([], false)) := by
  have hl1 := hs.1
  have hk := keyB_lt s r
  apply ev_succ
  simp only [impl_Install.j0]
  refine ev_ite (fun h1 => ev_some (by simp [h1])) (fun h1 => ?_)
  have h1' : b = false := by simpa using h1
  have hA := hb h1'
  have hP := impl_put_ev s r hs hr hA
  subst h1'
  refine Ev.bind (impl_keyAt_ev s r hs.lens.1) ?_
  simp only [Bool.not_false, Bool.true_and]
  have hrd : rd_T61 s (keyB s r) = s.getD (keyB s r).toNat z61 := rfl
  simp only [hrd]
  refine ev_ite (fun h2 => ?_) (fun h2 => ?_)
  · rw [newB_key (s := s) (r := r) (by omega)]
    refine ev_pos (by omega) (ev_pos hk (ev_ite (fun h3 => ev_some ?_) (fun h3 => ?_)))
    · rw [if_neg (by rw [decide_eq_true_eq]; omega)]
    · refine ev_neg (by omega) ?_
      rw [if_pos (by rw [decide_eq_true_eq]; omega)]
      exact Ev.bind hP (Ev.now _)
  · rw [newB_none (s := s) (r := r) (by omega)]
    refine ev_pos (by omega) (ev_ite (fun h3 => ev_some ?_) (fun h3 => ?_))
    · rw [if_neg (by rw [decide_eq_true_eq]; omega)]
    · rw [if_pos (by rw [decide_eq_true_eq]; omega)]
      exact Ev.bind hP (Ev.now _)
theorem impl_Install_ev (s : List S61) (r : S61) (hs : Small s) (hr : r.f5.length ≤ 1048576) :
    Ev (fun k => impl_Install.f k s r.f0 r.f1 r.f2 r.f3 r.f4 r.f5 r.f6 r.f7) (if (storeB s && instB s r) = true then (putL s r, true) else ([], false)) := by
  unfold impl_Install.f
  refine Ev.bind (impl_StoreOk_ev s hs.lens) (ev_ite (fun h1 => ?_) (fun h1 => ?_))
  · refine Ev.bind (impl_RecordOk_ev r.f0 r.f1 r.f2 r.f3 r.f4 r.f5 r.f6 r.f7 (by omega)) ?_
    refine ev_to (impl_Install_j0_ev s r hs hr _ (fun _ => ((storeB_iff s).1 h1).2.2)) ?_
    rw [h1, Bool.true_and, Bool.not_not]
    rfl
  · refine ev_to (impl_Install_j0_ev s r hs hr true (fun h => by cases h)) ?_
    simp [h1]

theorem impl_learned_l0_no (s f t : List S61) (hs : Small s) (ht : Small t) (hn : ¬ storeB s = true) (d : Nat) : ∀ i : Nat, i + d = t.length → Ev (fun k => impl_learned.l0 k s f t (t.length : Int) i) (s, f) := by
  have hl1 := ht.1
  induction d with
  | zero =>
    intro i hi
    apply ev_succ
    simp only [impl_learned.l0]
    exact ev_neg (by omega) (Ev.now _)
  | succ d ih =>
    intro i hi
    obtain ⟨x, hx⟩ : ∃ x, rd_T61 t (i : Int) = x := ⟨_, rfl⟩
    have hx2 : t.getD i z61 = x := hx
    have hm : x ∈ t := by rw [← hx2]; exact getD_mem t _ i (by omega)
    have hI := impl_Install_ev s x hs (ht.2 x hm)
    rw [if_neg (by simp [hn])] at hI
    apply ev_succ
    simp only [impl_learned.l0, hx]
    rw [w64 (x := (i : Int) + 1) (by omega) (by omega)]
    exact ev_pos (by omega) (ev_pos (by omega) (ev_pos (by omega) (Ev.bind hI (ev_neg (by simp) (ih (i + 1) (by omega))))))
theorem impl_learned_l0_ev (t : List S61) (ht : Small t) (d : Nat) : ∀ (i : Nat) (s f : List S61), i + d = t.length → storeB s = true → (∀ x ∈ s, x.f5.length ≤ 1048576) → f.length ≤ i →
    Ev (fun k => impl_learned.l0 k s f t (t.length : Int) i) (learnL s f (t.drop i)) := by
  have hl1 := ht.1
  induction d with
  | zero =>
    intro i s f hi h1 h2 hf
    rw [List.drop_eq_nil_of_le (by omega)]
    apply ev_succ
    simp only [impl_learned.l0]
    exact ev_neg (by omega) (Ev.now _)
  | succ d ih =>
    intro i s f hi h1 h2 hf
    obtain ⟨x, hx⟩ : ∃ x, rd_T61 t (i : Int) = x := ⟨_, rfl⟩
    have hx2 : t.getD i z61 = x := hx
    have hm : x ∈ t := by rw [← hx2]; exact getD_mem t _ i (by omega)
    have hI := impl_Install_ev s x (store_small h1 h2) (ht.2 x hm)
    rw [h1, Bool.true_and] at hI
    rw [drop_at t z61 i (by omega), hx2, learnL]
    apply ev_succ
    simp only [impl_learned.l0, hx, impl_copyRecord_eq x (ht.2 x hm), Option.bind_some]
    rw [w64 (x := (i : Int) + 1) (by omega) (by omega)]
    refine ev_pos (by omega) (ev_pos (by omega) (ev_pos (by omega) (Ev.bind hI ?_)))
    by_cases hi2 : instB s x = true
    · simp only [if_pos hi2]
      exact ev_pos (by trivial) (ev_pos (by omega) (ih (i + 1) (putL s x) (f ++ [x]) (by omega) (putL_store h1 hi2) (putL_near h2 (ht.2 x hm)) (by simp; omega)))
    · simp only [if_neg hi2]
      exact ev_neg (by simp) (ih (i + 1) s f (by omega) h1 h2 (by omega))
theorem impl_learned_ev (s t : List S61) (hs : Small s) (ht : Small t) : Ev (fun k => impl_learned.f k s t) (if storeB s = true then learnL s [] t else (s, [])) := by
  unfold impl_learned.f
  refine Ev.bind (impl_copyRecords_ev s hs) ?_
  split
  · rename_i h
    exact impl_learned_l0_ev t ht t.length 0 s [] (by omega) h hs.2 (by simp)
  · rename_i h
    exact impl_learned_l0_no s [] t hs ht h t.length 0 (by omega)
theorem impl_Merge_ev (s t : List S61) (hs : Small s) (ht : Small t) : Ev (fun k => impl_Merge.f k s t) (mergeL s t) := by
  unfold impl_Merge.f
  refine Ev.bind (impl_learned_ev s t hs ht) (ev_some ?_)
  unfold mergeL
  split <;> rfl

def scopeL (ar : Int) (s : List S61) : List S61 := s.filter fun x => decide (x.f0 = ar) || decide (x.f0 = 9)
theorem impl_Scope_l0_ev (ar : Int) (l : List S61) (hs : Small l) (d : Nat) : ∀ (i : Nat) (acc : List S61), i + d = l.length → acc.length ≤ i →
    Ev (fun k => impl_Scope.l0 k ar acc l (l.length : Int) i) (acc ++ scopeL ar (l.drop i)) := by
  have hl1 := hs.1
  induction d with
  | zero =>
    intro i acc hi ha
    rw [List.drop_eq_nil_of_le (by omega)]
    apply ev_succ
    simp only [impl_Scope.l0]
    exact ev_neg (by omega) (ev_some (by simp [scopeL]))
  | succ d ih =>
    intro i acc hi ha
    obtain ⟨x, hx⟩ : ∃ x, rd_T61 l (i : Int) = x := ⟨_, rfl⟩
    have hx2 : l.getD i z61 = x := hx
    have hm : x ∈ l := by rw [← hx2]; exact getD_mem l _ i (by omega)
    have hn := hs.2 x hm
    have hr1 := ih (i + 1) (acc ++ [x]) (by omega) (by simp; omega)
    have hr0 := ih (i + 1) acc (by omega) (by omega)
    rw [drop_at l z61 i (by omega), hx2]
    apply ev_succ
    simp only [impl_Scope.l0, hx, impl_copyRecord_eq x hn, Option.bind_some]
    rw [w64 (x := (i : Int) + 1) (by omega) (by omega)]
    refine ev_pos (by omega) (ev_pos (by omega) (ev_pos (by omega) (ev_ite (fun h1 => ?_) (fun h1 => ev_ite (fun h2 => ?_) (fun h2 => ?_)))))
    · exact ev_pos (by omega) (ev_to hr1 (by simp [scopeL, h1]))
    · exact ev_pos (by omega) (ev_to hr1 (by simp [scopeL, h2]))
    · exact ev_to hr0 (by simp [scopeL, h1, h2])
theorem impl_Scope_ev (ar : Int) (l : List S61) (hs : Small l) : Ev (fun k => impl_Scope.f k l ar) (scopeL ar l) := impl_Scope_l0_ev ar l hs l.length 0 [] (by omega) (by simp)

def cntL (ar : Int) : List S61 → Int
  | [] => 0
  | x :: xs => (if x.f0 = ar then 1 else 0) + cntL ar xs
theorem cntL_le (ar : Int) (l : List S61) : 0 ≤ cntL ar l ∧ cntL ar l ≤ l.length := by
  induction l with
  | nil => simp [cntL]
  | cons x xs ih =>
    rw [cntL, List.length_cons]
    split <;> omega
theorem cntL_scope (ar : Int) (l : List S61) : cntL ar (scopeL ar l) = cntL ar l := by
  induction l with
  | nil => rfl
  | cons x xs ih =>
    unfold scopeL at ih ⊢
    by_cases h : (decide (x.f0 = ar) || decide (x.f0 = 9)) = true
    · rw [List.filter_cons, if_pos h, cntL, cntL, ih]
    · rw [List.filter_cons, if_neg h, cntL, ih]
      rw [Bool.or_eq_true, decide_eq_true_eq, decide_eq_true_eq] at h
      rw [if_neg (by omega)]
      omega
theorem scope9_len (l : List S61) : ((scopeL 9 l).length : Int) = cntL 9 l := by
  induction l with
  | nil => rfl
  | cons x xs ih =>
    unfold scopeL at ih ⊢
    by_cases h : (decide (x.f0 = 9) || decide (x.f0 = 9)) = true
    · rw [List.filter_cons, if_pos h, cntL, List.length_cons]
      rw [Bool.or_eq_true, decide_eq_true_eq] at h
      rw [if_pos (by omega)]
      omega
    · rw [List.filter_cons, if_neg h, cntL]
      rw [Bool.or_eq_true, decide_eq_true_eq] at h
      rw [if_neg (by omega)]
      omega
theorem cntL_all (l : List S61) (h : ∀ x ∈ l, x.f0 = 0 ∨ x.f0 = 1 ∨ x.f0 = 2 ∨ x.f0 = 9) : cntL 0 l + cntL 1 l + cntL 2 l + cntL 9 l = l.length := by
  induction l with
  | nil => rfl
  | cons x xs ih =>
    have h1 := ih (fun y hy => h y (by simp [hy]))
    simp only [cntL, List.length_cons]
    rcases h x (by simp) with e | e | e | e <;> rw [e] <;> simp <;> omega
theorem recR_seq {y : S61} (h : recR y = true) : 1 ≤ y.f4 ∧ (y.f0 = 0 ∨ y.f0 = 1 ∨ y.f0 = 2 ∨ y.f0 = 9) := by
  have e : recR y = (decide (1 ≤ y.f2 ∧ y.f2 ≤ 6) && decide (1 ≤ y.f4 ∧ y.f4 ≤ 100000) && recK y.f0 y.f1 y.f2 y.f3 y.f5 y.f6 y.f7) := rfl
  rw [e] at h
  simp only [Bool.and_eq_true, decide_eq_true_eq] at h
  refine ⟨h.1.2.1, ?_⟩
  replace h := h.2
  unfold recK at h
  by_cases h1 : y.f1 = 1
  · rw [if_pos h1] at h
    simp only [Bool.and_eq_true, decide_eq_true_eq] at h
    have := h.1.1.1.1
    omega
  · rw [if_neg h1] at h
    by_cases h2 : y.f1 = 2
    · rw [if_pos h2] at h
      simp only [Bool.and_eq_true, decide_eq_true_eq] at h
      have := h.1.1.1.1
      omega
    · rw [if_neg h2] at h
      by_cases h3 : y.f1 = 3
      · rw [if_pos h3] at h
        simp only [Bool.and_eq_true, decide_eq_true_eq] at h
        have := h.1.1.1
        omega
      · rw [if_neg h3] at h
        cases h
theorem laws_FnMerges_l3_ev (b m s : List S61) (ar : Int) (h0 : 0 ≤ ar) (h2 : ar ≤ 2) (hs : s.length ≤ 1000000) (ha : ∀ x ∈ s, x.f0 = ar ∨ x.f0 = 9) (d : Nat) : ∀ (i : Nat) (acc : Int), i + d = s.length → 0 ≤ acc → acc + d ≤ 9000000000000 →
    Ev (fun k => laws_FnMerges.l2 k b m (acc + cntL ar (s.drop i)) (ar + 1)) true → Ev (fun k => laws_FnMerges.l3 k b m acc ar s i) true := by
  induction d with
  | zero =>
    intro i acc hi _ _ h
    rw [List.drop_eq_nil_of_le (by omega), cntL, Int.add_zero] at h
    apply ev_succ
    simp only [laws_FnMerges.l3]
    rw [w64 (x := ar + 1) (by omega) (by omega)]
    exact ev_neg (by omega) h
  | succ d ih =>
    intro i acc hi hc0 hc1 h
    obtain ⟨x, hx⟩ : ∃ x, rd_T61 s (i : Int) = x := ⟨_, rfl⟩
    have hx2 : s.getD i z61 = x := hx
    have hm : x ∈ s := by rw [← hx2]; exact getD_mem s _ i (by omega)
    rw [drop_at s z61 i (by omega), hx2, cntL] at h
    apply ev_succ
    simp only [laws_FnMerges.l3, hx]
    rw [w64 (x := (i : Int) + 1) (by omega) (by omega), w64 (x := acc + 1) (by omega) (by omega)]
    refine ev_pos (by omega) (ev_pos (by omega) (ev_ite (fun h1 => ?_) (fun h1 => ?_)))
    · rw [if_pos h1, ← Int.add_assoc] at h
      exact ih (i + 1) (acc + 1) (by omega) (by omega) (by omega) h
    · rw [if_neg h1, Int.zero_add] at h
      rcases ha x hm with e | e
      · exact absurd e h1
      · exact ev_pos e (ih (i + 1) acc (by omega) (by omega) (by omega) h)
theorem laws_FnMerges_l2_ev (b m : List S61) (hm : storeB m = true) (sm : Small m) (hM : Ev (fun k => impl_Merge.f k m b) m) : Ev (fun k => laws_FnMerges.l2 k b m 0 0) true := by
  have hl := ((storeB_iff m).1 hm).1
  have hall : ∀ x ∈ m, x.f0 = 0 ∨ x.f0 = 1 ∨ x.f0 = 2 ∨ x.f0 = 9 := fun x hx => (recR_seq (((storeB_iff m).1 hm).2.1 x hx)).2
  have ht := cntL_all m hall
  have hF : Ev (fun k => laws_FnMerges.l2 k b m (0 + cntL 0 m + cntL 1 m + cntL 2 m) 3) true := by
    have e := scope9_len m
    have c9 := cntL_le 9 m
    apply ev_succ
    simp only [laws_FnMerges.l2]
    refine ev_neg (by omega) (Ev.bind (impl_Scope_ev 9 m sm) (ev_pos ?_ (Ev.bind hM (Ev.bind (laws_sameStore_refl m sm) (Ev.now _)))))
    rw [w64 (by omega) (by omega)]
    omega
  have step : ∀ (ar acc : Int), 0 ≤ ar → ar ≤ 2 → 0 ≤ acc → acc ≤ 1000000 → Ev (fun k => laws_FnMerges.l2 k b m (acc + cntL ar m) (ar + 1)) true → Ev (fun k => laws_FnMerges.l2 k b m acc ar) true := by
    intro ar acc h0 h2 ha0 ha1 h
    rw [← cntL_scope] at h
    have hlen : (scopeL ar m).length ≤ m.length := List.length_filter_le _ _
    apply ev_succ
    simp only [laws_FnMerges.l2]
    refine ev_pos h2 (Ev.bind (impl_Scope_ev ar m sm) (laws_FnMerges_l3_ev b m (scopeL ar m) ar h0 h2 (by omega) (fun x hx => ?_) (scopeL ar m).length 0 acc (by omega) ha0 (by omega) (by rw [List.drop_zero]; exact h)))
    have := (List.mem_filter.1 hx).2
    simpa using this
  have c0 := cntL_le 0 m
  have c1 := cntL_le 1 m
  have c2 := cntL_le 2 m
  exact step 0 0 (by omega) (by omega) (by omega) (by omega) (step 1 _ (by omega) (by omega) (by omega) (by omega) (step 2 _ (by omega) (by omega) (by omega) (by omega) hF))
theorem laws_FnMerges_l1_ev (a b m n : List S61) (ha : a.length ≤ 9223372036854775000) (hn : n.length ≤ 9223372036854775000) (hall : ∀ x ∈ n, nwGo x 0 a < x.f4) (h2 : Ev (fun k => laws_FnMerges.l2 k b m 0 0) true) (d : Nat) : ∀ i : Nat, i + d = n.length →
    Ev (fun k => laws_FnMerges.l1 k a b m n i) true := by
  induction d with
  | zero =>
    intro i hi
    apply ev_succ
    simp only [laws_FnMerges.l1]
    exact ev_neg (by omega) h2
  | succ d ih =>
    intro i hi
    obtain ⟨x, hx⟩ : ∃ x, rd_T61 n (i : Int) = x := ⟨_, rfl⟩
    have hx2 : n.getD i z61 = x := hx
    have hm : x ∈ n := by rw [← hx2]; exact getD_mem n _ i (by omega)
    have := hall x hm
    apply ev_succ
    simp only [laws_FnMerges.l1, hx]
    rw [w64 (x := (i : Int) + 1) (by omega) (by omega)]
    exact ev_pos (by omega) (ev_pos (by omega) (Ev.bind (laws_newest_ev a x ha) (ev_neg (by omega) (ih (i + 1) (by omega)))))
theorem laws_FnMerges_l0_ev (a b m : List S61) (ha : a.length ≤ 9223372036854775000) (hb : b.length ≤ 9223372036854775000) (hn : m.length ≤ 9223372036854775000)
    (hall : ∀ z ∈ m, (nwGo z 0 b > nwGo z 0 a → z.f4 = nwGo z 0 b) ∧ (¬ nwGo z 0 b > nwGo z 0 a → z.f4 = nwGo z 0 a)) (n : List S61) (hN : Ev (fun k => impl_Newer.f k b a) n) (h1 : Ev (fun k => laws_FnMerges.l1 k a b m n 0) true) (d : Nat) : ∀ i : Nat, i + d = m.length →
    Ev (fun k => laws_FnMerges.l0 k a b m i) true := by
  induction d with
  | zero =>
    intro i hi
    apply ev_succ
    simp only [laws_FnMerges.l0]
    exact ev_neg (by omega) (Ev.bind hN h1)
  | succ d ih =>
    intro i hi
    obtain ⟨x, hx⟩ : ∃ x, rd_T61 m (i : Int) = x := ⟨_, rfl⟩
    have hx2 : m.getD i z61 = x := hx
    have hm : x ∈ m := by rw [← hx2]; exact getD_mem m _ i (by omega)
    obtain ⟨g1, g2⟩ := hall x hm
    apply ev_succ
    simp only [laws_FnMerges.l0, hx]
    rw [w64 (x := (i : Int) + 1) (by omega) (by omega)]
    exact ev_pos (by omega) (ev_pos (by omega) (Ev.bind (laws_newest_ev a x ha) (Ev.bind (laws_newest_ev b x hb) (ev_ite (fun h => ev_pos (g1 h) (ih (i + 1) (by omega))) (fun h => ev_pos (g2 h) (ih (i + 1) (by omega)))))))
theorem FnMerges : ∀ (l0 : List Int), (l0.length ≤ 9223372036854775807) → ∃ k, laws_FnMerges.f k l0 = some true := by
  intro xs hm
  refine ev_ex ?_
  unfold laws_FnMerges.f laws_big.f
  simp only [Option.bind_some]
  refine ev_ite (fun _ => Ev.now _) (fun h => ?_)
  obtain ⟨a, b, hD, ⟨ga, la⟩, gb, lb⟩ := spec_DrawStores_ex xs (by rw [decide_eq_true_eq] at h; omega)
  have hAa := ((storeB_iff a).1 ga.1).2.2
  have e : mergeL a b = (learnL a [] b).1 := by rw [mergeL, if_pos ga.1]
  obtain ⟨sm, Sm, _, _⟩ := learnL_small b a [] ga.1 ga.2 gb.2 (by simp)
  obtain ⟨A1, A2, A3⟩ := learnL_asNew b a [] ga.1 (by omega) ((storeB_iff b).1 gb.1).2.1
  have I := impl_Merge_ev a b ga.small gb.small
  rw [e] at I
  generalize (learnL a [] b).1 = m at I sm Sm A1 A2 A3
  have hAm := ((storeB_iff m).1 sm).2.2
  have hlm := ((storeB_iff m).1 sm).1
  have N1 := impl_Newer_ev a m ga.small Sm
  have N2 := impl_Newer_ev b m gb.small Sm
  rw [newerL_nil (fun x hx => (A1 x hx).no hAm)] at N1
  rw [newerL_nil (fun x hx => (A2 x hx).no hAm)] at N2
  have hM : Ev (fun k => impl_Merge.f k m b) m := by
    have := impl_Merge_ev m b Sm gb.small
    rw [mergeL, if_pos sm, learnL_same b m [] (fun x hx => (A2 x hx).inst hAm)] at this
    exact this
  have L2 := laws_FnMerges_l2_ev b m sm Sm hM
  have hNs : (newerL b a).length ≤ b.length := List.length_filter_le _ _
  have L1 := laws_FnMerges_l1_ev a b m (newerL b a) (by omega) (by omega) (fun x hx => by
    obtain ⟨hxb, hn⟩ := List.mem_filter.1 hx
    have hq := (recR_seq (((storeB_iff b).1 gb.1).2.1 x hxb)).1
    rcases (nwGo_spec x a 0).2.2 with h | ⟨y, hy, hk, he⟩
    · omega
    · rw [isNew, Bool.or_eq_true, decide_eq_true_eq, decide_eq_true_eq] at hn
      rcases keyB_cases a x with ⟨_, h⟩ | ⟨j, j1, j2, j3, _⟩
      · rw [h y hy] at hk; cases hk
      · have hmj : a.getD j z61 ∈ a := getD_mem a _ j j1
        have e2 := asc_inj hAa _ hmj _ hy (key_trans j3 (key_symm hk))
        rw [j2, Int.toNat_natCast, e2] at hn
        omega) L2 (newerL b a).length 0 (by omega)
  have L0 := laws_FnMerges_l0_ev a b m (by omega) (by omega) (by omega) (fun z hz => by
    have up : ∀ x, AsNew m x → sameKey x z = true → x.f4 ≤ z.f4 := by
      intro x ⟨y, hy, h1, h2⟩ hk
      have := asc_inj hAm _ hy _ hz (key_trans h1 hk)
      rw [this] at h2
      exact h2
    obtain ⟨_, a2, a3⟩ := nwGo_spec z a 0
    obtain ⟨_, b2, b3⟩ := nwGo_spec z b 0
    have hz1 := (recR_seq (((storeB_iff m).1 sm).2.1 z hz)).1
    have ua : nwGo z 0 a ≤ z.f4 := by
      rcases a3 with h | ⟨x, hx, hk, he⟩
      · omega
      · have := up x (A1 x hx) hk; omega
    have ub : nwGo z 0 b ≤ z.f4 := by
      rcases b3 with h | ⟨x, hx, hk, he⟩
      · omega
      · have := up x (A2 x hx) hk; omega
    rcases A3 z hz with h | h
    · have := a2 z h (key_refl z); omega
    · have := b2 z h (key_refl z); omega) (newerL b a) (impl_Newer_ev b a gb.small ga.small) L1 m.length 0 (by omega)
  refine Ev.bind hD (Ev.bind I (Ev.bind (impl_StoreOk_ev m Sm.lens) (ev_pos sm (Ev.bind N1 (ev_pos rfl (Ev.bind N2 (ev_succ ?_)))))))
  simp only [laws_FnMerges.j0]
  exact ev_neg (by simp) L0

end Go.Proofs.Ythjmdiggglkeaaa.Pure
