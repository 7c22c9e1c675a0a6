import Derived.Test.YthjmdiggglkeaaaXFindQlawsFnExactFind
/- Proved: for every store and record that the row lets in, the law FnExactFind returns true; there are no other conditions. -/

set_option linter.unusedVariables false
set_option linter.unusedSimpArgs false
namespace Go.Proofs.Ythjmdiggglkeaaa.Pure
open Go.RowKit Go.Proofs.Ythjmdiggglkeaaa.Q Go.Proofs.YthjmdiggglkeaaaW.PrintWords Go.Proofs.YthjmdiggglkeaaaW.PrintLast

theorem w64 {x : Int} (h0 : -9223372036854775808 ≤ x) (h1 : x ≤ 9223372036854775807) : wrap64 x = x := by unfold wrap64; omega
theorem ev_ex {α : Type} {g : Nat → Option α} {r : α} (h : Ev g r) : ∃ k, g k = some r := h.rounds

theorem ev_ite {α : Type} {c : Prop} [Decidable c] {g f : Nat → Option α} {r : α} (h : c → Ev g r) (k : ¬ c → Ev f r) : Ev (fun n => if c then g n else f n) r := by
 by_cases hc : c
 ·exact Ev.congr (fun n => by rw [if_pos hc]) (h hc)
 ·exact Ev.congr (fun n => by rw [if_neg hc]) (k hc)
theorem ev_pos {α : Type} {c : Prop} [Decidable c] {g f : Nat → Option α} {r : α} (hc : c) (h : Ev g r) : Ev (fun n => if c then g n else f n) r := Ev.congr (fun n => by rw [if_pos hc]) h
theorem ev_neg {α : Type} {c : Prop} [Decidable c] {g f : Nat → Option α} {r : α} (hc : ¬ c) (h : Ev f r) : Ev (fun n => if c then g n else f n) r := Ev.congr (fun n => by rw [if_neg hc]) h
theorem ev_some {α : Type} {x r : α} (h : x = r) : Ev (fun _ => some x) r := by rw [h]; exact Ev.now _
theorem ev_succ {α : Type} {g : Nat → Option α} {r : α} (h : Ev (fun k => g (k + 1)) r) : Ev g r := Ev.step (fun _ => rfl) h
theorem ev_to {α : Type} {g : Nat → Option α} {r r' : α} (h : Ev g r) (e : r = r') : Ev g r' := e ▸ h

theorem set_mid {α : Type} (p : List α) (x y : α) (r : List α) (i : Nat) (h : p.length = i) : (p ++ x :: r).set i y = p ++ y :: r := by
 subst h
 simp
theorem drop_at {α : Type} (l : List α) (z : α) (i : Nat) (h : i < l.length) : l.drop i = l.getD i z :: l.drop (i + 1) := by
 rw [List.drop_eq_getElem_cons h, List.getD_eq_getElem?_getD, List.getElem?_eq_getElem h]
 rfl
-- toNear
/-! Near: lists -/
def toNear1 (x : S141) : S127 := ⟨x.f0, x.f1⟩
def toNearL (l : List S141) : List S127 := l.map toNear1
theorem toNearL_len (l : List S141) : (toNearL l).length = l.length := by simp [toNearL]
theorem laws_toNearS_l0_ev (l : List S141) (hl : l.length ≤ 9223372036854775807) (d : Nat) : ∀ i : Nat, i + d = l.length →
  Ev (fun k => laws_toNearS.l0 k l ((toNearL l).take i ++ List.replicate d z127) i) (toNearL l) := by
 induction d with
 | zero =>
  intro i hi
  apply ev_succ
  simp only [laws_toNearS.l0]
  refine ev_neg (by omega) (ev_some ?_)
  rw [List.take_of_length_le (by rw [toNearL_len]; omega)]
  simp
 | succ d ih =>
  intro i hi
  have hr := ih (i + 1) (by omega)
  have hlt : i < (toNearL l).length := by rw [toNearL_len]; omega
  apply ev_succ
  simp only [laws_toNearS.l0, laws_toNear.f, Option.bind_some]
  have hset : ((toNearL l).take i ++ List.replicate (d + 1) z127).set ((i : Int).toNat) (⟨(rd_T141 l i).f0, (rd_T141 l i).f1⟩ : S127) = (toNearL l).take (i + 1) ++ List.replicate d z127 := by
   rw [List.replicate_succ, set_mid _ _ _ _ _ (by rw [List.length_take]; omega), List.take_succ_eq_append_getElem hlt]
   rw [List.append_assoc]
   congr 1
   simp only [List.singleton_append]
   congr 1
   have hli : i < l.length := by omega
   simp [toNearL, toNear1, rd_T141, List.getD_eq_getElem?_getD, hli]
  rw [hset, w64 (by omega) (by omega)]
  refine ev_pos (by omega) (ev_pos (by omega) (ev_pos ?_ hr))
  simp only [List.length_append, List.length_take, List.length_replicate, toNearL_len]
  omega
theorem laws_toNearS_ev (l : List S141) (hl : l.length ≤ 1048576) : Ev (fun k => laws_toNearS.f k l) (toNearL l) := by
 unfold laws_toNearS.f
 refine ev_pos (by omega) (ev_pos (by omega) ?_)
 exact laws_toNearS_l0_ev l (by omega) l.length 0 (by omega)

theorem laws_szNearS_eq (l : List S141) (hl : l.length ≤ 9223372036854775807) (n : Int) (h0 : 0 ≤ n) (h1 : n ≤ 1048576) : laws_szNearS.f l n = some (if n < (l.length : Int) then -1 else n - l.length) := by
 unfold laws_szNearS.f
 rw [w64 (by omega) (by omega)]
 by_cases h : n < (l.length : Int)
 ·rw [if_pos (by omega), if_pos h]
 ·rw [if_neg (by omega), if_neg h]

theorem laws_toRecord_ev (a b c d e : Int) (l : List S141) (f : Int) (g : Bool) (hl : l.length ≤ 1048576) : Ev (fun k => laws_toRecord.f k a b c d e l f g) (a, b, c, d, e, toNearL l, f, g) := by
 unfold laws_toRecord.f
 exact Ev.bind (laws_toNearS_ev l hl) (Ev.now _)
theorem laws_szRecord_eq (a b c d e : Int) (l : List S141) (f : Int) (g : Bool) (hl : l.length ≤ 9223372036854775807) (n : Int) (h0 : 0 ≤ n) (h1 : n ≤ 1048576) :
  laws_szRecord.f a b c d e l f g n = some (if n < (l.length : Int) then -1 else n - l.length) := by
 unfold laws_szRecord.f
 rw [laws_szNearS_eq l hl n h0 h1, Option.bind_some]
 by_cases h : n < (l.length : Int)
 ·rw [if_pos h, if_pos (by omega)]
 ·rw [if_neg h, if_neg (by omega)]

theorem laws_eqNear_refl (a b : Int) : laws_eqNear.f a b a b = some true := by
 unfold laws_eqNear.f
 simp
theorem laws_eqNearS_l0_ev (l : List S127) (hl : l.length ≤ 9223372036854775807) (d : Nat) : ∀ i : Nat, i + d = l.length → Ev (fun k => laws_eqNearS.l0 k l l i) true := by
 induction d with
 | zero =>
  intro i hi
  apply ev_succ
  simp only [laws_eqNearS.l0]
  exact ev_neg (by omega) (Ev.now _)
 | succ d ih =>
  intro i hi
  apply ev_succ
  simp only [laws_eqNearS.l0, laws_eqNear_refl, if_true, Option.bind_some]
  rw [w64 (by omega) (by omega)]
  exact ev_pos (by omega) (ev_pos (by omega) (ev_pos (by omega) (ih (i + 1) (by omega))))
theorem laws_eqNearS_refl (l : List S127) (hl : l.length ≤ 9223372036854775807) : Ev (fun k => laws_eqNearS.f k l l) true := by
 unfold laws_eqNearS.f
 exact ev_pos rfl (laws_eqNearS_l0_ev l hl l.length 0 (by omega))

theorem laws_eqRecord_refl (a b c d e : Int) (l : List S127) (f : Int) (g : Bool) (hl : l.length ≤ 9223372036854775807) : Ev (fun k => laws_eqRecord.f k a b c d e l f g a b c d e l f g) true := by
 unfold laws_eqRecord.f
 simp only [if_true]
 refine Ev.bind (laws_eqNearS_refl l hl) ?_
 simp
 exact Ev.now _

def sameKey (a b : S61) : Bool := decide (a.f0 = b.f0 ∧ a.f1 = b.f1 ∧ a.f2 = b.f2 ∧ a.f3 = b.f3)
/-- The place of a key from place i on, -1 without one. -/
def keyGo (r : S61) : List S61 → Int → Int
 | [], _ => -1
 | x :: xs, i => if sameKey x r = true then i else keyGo r xs (i + 1)
def keyB (s : List S61) (r : S61) : Int := keyGo r s 0
theorem keyGo_cases (r : S61) (xs : List S61) : ∀ i : Int, (keyGo r xs i = -1 ∧ ∀ x ∈ xs, sameKey x r = false) ∨ (∃ j : Nat, j < xs.length ∧ keyGo r xs i = i + j ∧ sameKey (xs.getD j z61) r = true ∧ ∀ q : Nat, q < j → sameKey (xs.getD q z61) r = false) := by
 induction xs with
 | nil => intro i; exact .inl ⟨rfl, by simp⟩
 | cons x xs ih =>
  intro i
  by_cases h : sameKey x r = true
  ·refine .inr ⟨0, by simp, ?_, h, fun q hq => by omega⟩
   rw [keyGo, if_pos h]; omega
  ·rw [keyGo, if_neg h]
   rcases ih (i + 1) with ⟨h1, h2⟩ | ⟨j, h1, h2, h3, h4⟩
   ·refine .inl ⟨h1, fun y hy => ?_⟩
    rcases List.mem_cons.1 hy with rfl | hy
    ·simpa using h
    ·exact h2 y hy
   ·refine .inr ⟨j + 1, by simp only [List.length_cons]; omega, by rw [h2]; omega, h3, fun q hq => ?_⟩
    cases q with
    | zero => simpa using h
    | succ q => exact h4 q (by omega)
theorem keyB_cases (s : List S61) (r : S61) : (keyB s r = -1 ∧ ∀ x ∈ s, sameKey x r = false) ∨ (∃ j : Nat, j < s.length ∧ keyB s r = j ∧ sameKey (s.getD j z61) r = true ∧ ∀ q : Nat, q < j → sameKey (s.getD q z61) r = false) := by
 rcases keyGo_cases r s 0 with h | ⟨j, h1, h2, h3⟩
 ·exact .inl h
 ·exact .inr ⟨j, h1, by rw [keyB, h2]; omega, h3⟩
theorem impl_SameKey_eq (a b : S61) : impl_SameKey.f a.f0 a.f1 a.f2 a.f3 a.f4 a.f5 a.f6 a.f7 b.f0 b.f1 b.f2 b.f3 b.f4 b.f5 b.f6 b.f7 = some (sameKey a b) := by
 unfold impl_SameKey.f sameKey
 by_cases h0 : a.f0 = b.f0
 ·by_cases h1 : a.f1 = b.f1
  ·by_cases h2 : a.f2 = b.f2
   ·rw [if_pos h0, if_pos h1, if_pos h2]
    congr 1
    rw [Bool.eq_iff_iff]
    simp [h0, h1, h2]
   ·rw [if_pos h0, if_pos h1, if_neg h2, decide_eq_false (by omega)]
  ·rw [if_pos h0, if_neg h1, decide_eq_false (by omega)]
 ·rw [if_neg h0, decide_eq_false (by omega)]

theorem impl_keyAt_l0_ev (r : S61) (l : List S61) (hl : l.length ≤ 9223372036854775000) (d : Nat) : ∀ i : Nat, i + d = l.length →
  Ev (fun k => impl_keyAt.l0 k l (l.length : Int) i r.f0 r.f1 r.f2 r.f3 r.f4 r.f5 r.f6 r.f7) (keyGo r (l.drop i) i) := by
 induction d with
 | zero =>
  intro i hi
  rw [List.drop_eq_nil_of_le (by omega)]
  apply ev_succ
  simp only [impl_keyAt.l0]
  exact ev_neg (by omega) (ev_some rfl)
 | succ d ih =>
  intro i hi
  have hr := ih (i + 1) (by omega)
  have hr' := hr; obtain ⟨x, hx⟩ : ∃ x, rd_T61 l (i : Int) = x := ⟨_, rfl⟩
  have hx2 : l.getD i z61 = x := hx
  rw [drop_at l z61 i (by omega), hx2]
  apply ev_succ
  simp only [impl_keyAt.l0, hx, impl_SameKey_eq, Option.bind_some]
  rw [w64 (by omega) (by omega), keyGo]
  refine ev_pos (by omega) (ev_pos (by omega) (ev_pos (by omega) ?_))
  refine ev_ite (fun h => ev_some (by rw [if_pos h])) (fun h => ?_)
  rw [if_neg h]
  exact hr
theorem impl_keyAt_ev (l : List S61) (r : S61) (hl : l.length ≤ 9223372036854775000) : Ev (fun k => impl_keyAt.f k l r.f0 r.f1 r.f2 r.f3 r.f4 r.f5 r.f6 r.f7) (keyB l r) :=
 impl_keyAt_l0_ev r l hl l.length 0 (by omega)

theorem spec_SameKey_eq (a b : S61) : spec_SameKey.f a.f0 a.f1 a.f2 a.f3 a.f4 a.f5 a.f6 a.f7 b.f0 b.f1 b.f2 b.f3 b.f4 b.f5 b.f6 b.f7 = some (sameKey a b) := by
 unfold spec_SameKey.f sameKey
 by_cases h0 : a.f0 = b.f0
 ·by_cases h1 : a.f1 = b.f1
  ·by_cases h2 : a.f2 = b.f2
   ·rw [if_pos h0, if_pos h1, if_pos h2]
    congr 1
    rw [Bool.eq_iff_iff]
    simp [h0, h1, h2]
   ·rw [if_pos h0, if_pos h1, if_neg h2, decide_eq_false (by omega)]
  ·rw [if_pos h0, if_neg h1, decide_eq_false (by omega)]
 ·rw [if_neg h0, decide_eq_false (by omega)]

theorem spec_l05At_l0_ev (r : S61) (l : List S61) (hl : l.length ≤ 9223372036854775000) (d : Nat) : ∀ i : Nat, i + d = l.length →
  Ev (fun k => spec_l05At.l0 k l i r.f0 r.f1 r.f2 r.f3 r.f4 r.f5 r.f6 r.f7) (keyGo r (l.drop i) i) := by
 induction d with
 | zero =>
  intro i hi
  rw [List.drop_eq_nil_of_le (by omega)]
  apply ev_succ
  simp only [spec_l05At.l0]
  exact ev_neg (by omega) (ev_some rfl)
 | succ d ih =>
  intro i hi
  have hr := ih (i + 1) (by omega)
  have hr' := hr; obtain ⟨x, hx⟩ : ∃ x, rd_T61 l (i : Int) = x := ⟨_, rfl⟩
  have hx2 : l.getD i z61 = x := hx
  rw [drop_at l z61 i (by omega), hx2]
  apply ev_succ
  simp only [spec_l05At.l0, hx, spec_SameKey_eq, Option.bind_some]
  rw [w64 (by omega) (by omega), keyGo]
  refine ev_pos (by omega) (ev_pos (by omega) ?_)
  refine ev_ite (fun h => ev_some (by rw [if_pos h])) (fun h => ?_)
  rw [if_neg h]
  exact hr
theorem spec_l05At_ev (l : List S61) (r : S61) (hl : l.length ≤ 9223372036854775000) : Ev (fun k => spec_l05At.f k l r.f0 r.f1 r.f2 r.f3 r.f4 r.f5 r.f6 r.f7) (keyB l r) :=
 spec_l05At_l0_ev r l hl l.length 0 (by omega)

def toRec1 (x : S57) : S61 := ⟨x.f0, x.f1, x.f2, x.f3, x.f4, toNearL x.f5, x.f6, x.f7⟩
def toRecL (l : List S57) : List S61 := l.map toRec1
theorem toRecL_len (l : List S57) : (toRecL l).length = l.length := by simp [toRecL]
/-- No list of a record is longer than can be counted. -/
def Lens (s : List S61) : Prop := s.length ≤ 9223372036854775000 ∧ ∀ x ∈ s, x.f5.length ≤ 9223372036854775000
theorem getD_mem {α : Type} (l : List α) (z : α) (i : Nat) (h : i < l.length) : l.getD i z ∈ l := by
 rw [List.getD_eq_getElem?_getD, List.getElem?_eq_getElem h]
 exact List.getElem_mem h
theorem laws_toRecordS_l0_ev (l : List S57) (hl : l.length ≤ 9223372036854775000) (hx : ∀ x ∈ l, x.f5.length ≤ 1048576) (d : Nat) : ∀ i : Nat, i + d = l.length →
  Ev (fun k => laws_toRecordS.l0 k l ((toRecL l).take i ++ List.replicate d z61) i) (toRecL l) := by
 induction d with
 | zero =>
  intro i hi
  apply ev_succ
  simp only [laws_toRecordS.l0]
  refine ev_neg (by omega) (ev_some ?_)
  rw [List.take_of_length_le (by rw [toRecL_len]; omega)]
  simp
 | succ d ih =>
  intro i hi
  have hr := ih (i + 1) (by omega)
  have hli : i < l.length := by omega
  have hlt : i < (toRecL l).length := by rw [toRecL_len]; omega
  obtain ⟨x, hxe⟩ : ∃ x, rd_T57 l (i : Int) = x := ⟨_, rfl⟩
  have hx2 : l.getD i z57 = x := hxe
  have hm : x ∈ l := by rw [← hx2]; exact getD_mem l _ i hli
  apply ev_succ
  simp only [laws_toRecordS.l0, hxe]
  have hset : ((toRecL l).take i ++ List.replicate (d + 1) z61).set ((i : Int).toNat) (toRec1 x) = (toRecL l).take (i + 1) ++ List.replicate d z61 := by
   rw [List.replicate_succ, set_mid _ _ _ _ _ (by rw [List.length_take]; omega), List.take_succ_eq_append_getElem hlt]
   rw [List.append_assoc]
   congr 1
   simp only [List.singleton_append]
   congr 1
   rw [← hx2]
   simp [toRecL, List.getD_eq_getElem?_getD, hli]
  refine ev_pos (by omega) (ev_pos (by omega) (Ev.bind (laws_toRecord_ev x.f0 x.f1 x.f2 x.f3 x.f4 x.f5 x.f6 x.f7 (hx x hm)) (ev_pos ?_ ?_)))
  ·simp only [List.length_append, List.length_take, List.length_replicate, toRecL_len]
   omega
  ·have hset' : ((toRecL l).take i ++ List.replicate (d + 1) z61).set ((i : Int).toNat) (⟨x.f0, x.f1, x.f2, x.f3, x.f4, toNearL x.f5, x.f6, x.f7⟩ : S61) = (toRecL l).take (i + 1) ++ List.replicate d z61 := hset
   simp only [hset']
   rw [w64 (by omega) (by omega)]
   exact hr
theorem laws_toRecordS_ev (l : List S57) (hl : l.length ≤ 1048576) (hx : ∀ x ∈ l, x.f5.length ≤ 1048576) : Ev (fun k => laws_toRecordS.f k l) (toRecL l) := by
 unfold laws_toRecordS.f
 refine ev_pos (by omega) (ev_pos (by omega) ?_)
 exact laws_toRecordS_l0_ev l (by omega) hx l.length 0 (by omega)
theorem laws_szRecordS_l0 (l : List S57) (hl : l.length ≤ 9223372036854775000) (hx : ∀ x ∈ l, x.f5.length ≤ 9223372036854775807) (d : Nat) : ∀ (i : Nat) (n : Int), i + d = l.length → 0 ≤ n → n ≤ 1048576 →
  (Ev (fun k => laws_szRecordS.l0 k l n i) (-1)) ∨ (∃ t, Ev (fun k => laws_szRecordS.l0 k l n i) t ∧ 0 ≤ t ∧ t ≤ n ∧ ∀ x ∈ l.drop i, x.f5.length ≤ 1048576) := by
 induction d with
 | zero =>
  intro i n hi h0 h1
  refine .inr ⟨n, ?_, h0, by omega, by rw [List.drop_eq_nil_of_le (by omega)]; simp⟩
  apply ev_succ
  simp only [laws_szRecordS.l0]
  exact ev_neg (by omega) (Ev.now _)
 | succ d ih =>
  intro i n hi h0 h1
  have hli : i < l.length := by omega
  obtain ⟨x, hxe⟩ : ∃ x, rd_T57 l (i : Int) = x := ⟨_, rfl⟩
  have hx2 : l.getD i z57 = x := hxe
  have hm : x ∈ l := by rw [← hx2]; exact getD_mem l _ i hli
  have key : ∀ r, (n < (x.f5.length : Int) → r = -1) → (¬ n < (x.f5.length : Int) → Ev (fun k => laws_szRecordS.l0 k l (n - x.f5.length) ((i : Int) + 1)) r) → Ev (fun k => laws_szRecordS.l0 k l n i) r := by
   intro r ha hb
   apply ev_succ
   simp only [laws_szRecordS.l0, hxe]
   rw [laws_szRecord_eq x.f0 x.f1 x.f2 x.f3 x.f4 x.f5 x.f6 x.f7 (hx x hm) n h0 h1, w64 (by omega) (by omega)]
   simp only [Option.bind_some]
   refine ev_pos (by omega) (ev_pos (by omega) ?_)
   by_cases hc : n < (x.f5.length : Int)
   ·rw [if_pos hc]
    rw [ha hc]
    exact ev_pos (by omega) (Ev.now _)
   ·rw [if_neg hc]
    exact ev_neg (by omega) (hb hc)
  by_cases hc : n < (x.f5.length : Int)
  ·exact .inl (key _ (fun _ => rfl) (fun h => absurd hc h))
  ·rcases ih (i + 1) (n - x.f5.length) (by omega) (by omega) (by omega) with h | ⟨t, h, h2, h3, h4⟩
   ·exact .inl (key _ (fun h => absurd h hc) (fun _ => h))
   ·refine .inr ⟨t, key _ (fun h => absurd h hc) (fun _ => h), h2, by omega, fun y hy => ?_⟩
    rw [drop_at l z57 i hli, hx2] at hy
    rcases List.mem_cons.1 hy with rfl | hy
    ·omega
    ·exact h4 y hy
theorem laws_szRecordS_cases (l : List S57) (hl : l.length ≤ 9223372036854775807) (hx : ∀ x ∈ l, x.f5.length ≤ 9223372036854775807) (n : Int) (h0 : 0 ≤ n) (h1 : n ≤ 1048576) :
  (Ev (fun k => laws_szRecordS.f k l n) (-1)) ∨ (∃ t, Ev (fun k => laws_szRecordS.f k l n) t ∧ 0 ≤ t ∧ t ≤ n ∧ l.length ≤ 1048576 ∧ ∀ x ∈ l, x.f5.length ≤ 1048576) := by
 unfold laws_szRecordS.f
 rw [w64 (by omega) (by omega)]
 by_cases hc : n < (l.length : Int)
 ·exact .inl (ev_pos (by omega) (Ev.now _))
 ·rcases laws_szRecordS_l0 l (by omega) hx l.length 0 (n - l.length) (by omega) (by omega) (by omega) with h | ⟨t, h, h2, h3, h4⟩
  ·exact .inl (ev_neg (by omega) h)
  ·exact .inr ⟨t, ev_neg (by omega) h, h2, by omega, by omega, fun x hm => h4 x (by simpa using hm)⟩
theorem laws_eqRecordS_l0_ev (l : List S61) (hl : Lens l) (d : Nat) : ∀ i : Nat, i + d = l.length → Ev (fun k => laws_eqRecordS.l0 k l l i) true := by
 induction d with
 | zero =>
  intro i hi
  apply ev_succ
  simp only [laws_eqRecordS.l0]
  exact ev_neg (by omega) (Ev.now _)
 | succ d ih =>
  intro i hi
  have h1 := hl.1; obtain ⟨x, hxe⟩ : ∃ x, rd_T61 l (i : Int) = x := ⟨_, rfl⟩
  have hx2 : l.getD i z61 = x := hxe
  have hm : x ∈ l := by rw [← hx2]; exact getD_mem l _ i (by omega)
  have h2 := hl.2 x hm
  apply ev_succ
  simp only [laws_eqRecordS.l0, hxe]
  rw [w64 (by omega) (by omega)]
  refine ev_pos (by omega) (ev_pos (by omega) (ev_pos (by omega) (Ev.bind (laws_eqRecord_refl _ _ _ _ _ _ _ _ (by omega)) (ev_pos rfl (ih (i + 1) (by omega))))))
theorem laws_eqRecordS_refl (l : List S61) (hl : Lens l) : Ev (fun k => laws_eqRecordS.f k l l) true := by
 unfold laws_eqRecordS.f
 exact ev_pos rfl (laws_eqRecordS_l0_ev l hl l.length 0 (by omega))

theorem impl_copyRecord_eq (x : S61) (h : x.f5.length ≤ 1048576) : impl_copyRecord.f x.f0 x.f1 x.f2 x.f3 x.f4 x.f5 x.f6 x.f7 = some (x.f0, x.f1, x.f2, x.f3, x.f4, x.f5, x.f6, x.f7) := by
 unfold impl_copyRecord.f
 rw [if_pos (by simp; omega)]
 simp

theorem spec_l04Copy_eq (x : S61) (h : x.f5.length ≤ 1048576) : spec_l04Copy.f x.f0 x.f1 x.f2 x.f3 x.f4 x.f5 x.f6 x.f7 = some (x.f0, x.f1, x.f2, x.f3, x.f4, x.f5, x.f6, x.f7) := by
 unfold spec_l04Copy.f
 simp only [Option.bind_some]
 rw [if_pos (by simp; omega)]
 simp

/-- What is near, marked from m on. -/
def markN : List S127 → Int → List S127
 | [], _ => []
 | _ :: xs, m => ⟨m, m + 1⟩ :: markN xs (m + 2)
theorem rd_mid {α : Type} (p : List α) (x z : α) (r : List α) (i : Nat) (h : p.length = i) : (p ++ x :: r).getD i z = x := by
 subst h
 simp
theorem laws_markNearS_l0 (xs : List S127) : ∀ (p : List S127) (m : Int) (i : Nat), p.length = i → 0 ≤ m → m + 2 * (xs.length : Int) ≤ 4611686018427387904 → (i : Int) + xs.length ≤ 4611686018427387904 →
  Ev (fun k => laws_markNearS.l0 k (p ++ xs) m i) (m + 2 * (xs.length : Int), p ++ markN xs m) := by
 induction xs with
 | nil =>
  intro p m i hp h0 h1 h2
  apply ev_succ
  simp only [laws_markNearS.l0]
  exact ev_neg (by simp; omega) (ev_some (by simp [markN]))
 | cons x xs ih =>
  intro p m i hp h0 h1 h2
  simp only [List.length_cons] at h1 h2
  have hr := ih (p ++ [⟨m, m + 1⟩]) (m + 2) (i + 1) (by simp [hp]) (by omega) (by omega) (by omega)
  apply ev_succ
  simp only [laws_markNearS.l0, Option.bind_some]
  refine ev_pos (by simp; omega) (ev_pos (by omega) ?_)
  rw [w64 (x := m + 1) (by omega) (by omega), w64 (x := m + 1 + 1) (by omega) (by omega), w64 (x := (i : Int) + 1) (by omega) (by omega), Int.toNat_natCast, set_mid _ _ _ _ i hp, set_mid _ _ _ _ i hp]
  have hrd : rd_T127 (p ++ (⟨m, (rd_T127 (p ++ x :: xs) (i : Int)).f1⟩ : S127) :: xs) (i : Int) = ⟨m, (rd_T127 (p ++ x :: xs) (i : Int)).f1⟩ := rd_mid p _ _ xs i hp
  rw [hrd, show m + 1 + 1 = m + 2 by omega]
  have e : p ++ [(⟨m, m + 1⟩ : S127)] ++ xs = p ++ (⟨m, m + 1⟩ : S127) :: xs := by simp
  rw [e] at hr
  refine ev_to hr ?_
  simp only [markN, List.append_assoc, List.cons_append, List.nil_append, List.length_cons, Prod.mk.injEq, and_true]
  push_cast
  omega
theorem laws_markNearS_ev (l : List S127) (m : Int) (h0 : 0 ≤ m) (h1 : m + 2 * (l.length : Int) ≤ 4611686018427387904) :
  Ev (fun k => laws_markNearS.f k l m) (m + 2 * (l.length : Int), markN l m) := laws_markNearS_l0 l [] m 0 rfl h0 h1 (by omega)
theorem laws_heldNearS_l0 (xs : List S127) : ∀ (p : List S127) (m : Int) (i : Nat), p.length = i → 0 ≤ m → m + 2 * (xs.length : Int) ≤ 4611686018427387904 → (i : Int) + xs.length ≤ 4611686018427387904 →
  Ev (fun k => laws_heldNearS.l0 k (p ++ markN xs m) m i) (m + 2 * (xs.length : Int)) := by
 induction xs with
 | nil =>
  intro p m i hp h0 h1 h2
  apply ev_succ
  simp only [laws_heldNearS.l0]
  exact ev_neg (by simp [markN]; omega) (ev_some (by simp))
 | cons x xs ih =>
  intro p m i hp h0 h1 h2
  simp only [List.length_cons] at h1 h2
  have hr := ih (p ++ [⟨m, m + 1⟩]) (m + 2) (i + 1) (by simp [hp]) (by omega) (by omega) (by omega)
  have hrd : rd_T127 (p ++ (⟨m, m + 1⟩ : S127) :: markN xs (m + 2)) (i : Int) = ⟨m, m + 1⟩ := rd_mid p _ _ _ i hp
  apply ev_succ
  simp only [laws_heldNearS.l0, markN, hrd]
  refine ev_pos (by simp; omega) (ev_pos (by omega) (ev_pos (by trivial) ?_))
  rw [w64 (x := m + 1) (by omega) (by omega), w64 (x := m + 1 + 1) (by omega) (by omega), w64 (x := (i : Int) + 1) (by omega) (by omega), show m + 1 + 1 = m + 2 by omega]
  have e : p ++ [(⟨m, m + 1⟩ : S127)] ++ markN xs (m + 2) = p ++ (⟨m, m + 1⟩ : S127) :: markN xs (m + 2) := by simp
  rw [e] at hr
  refine ev_pos rfl (ev_to hr ?_)
  simp only [List.length_cons]
  push_cast
  omega
theorem laws_heldNearS_ev (l : List S127) (m : Int) (h0 : 0 ≤ m) (h1 : m + 2 * (l.length : Int) ≤ 4611686018427387904) :
  Ev (fun k => laws_heldNearS.f k (markN l m) m) (m + 2 * (l.length : Int)) := laws_heldNearS_l0 l [] m 0 rfl h0 h1 (by omega)

/-- Where the marks of records end, and the records marked. -/
def endR : List S61 → Int → Int
 | [], m => m
 | x :: xs, m => endR xs (m + 7 + 2 * (x.f5.length : Int))
def markR : List S61 → Int → List S61
 | [], _ => []
 | x :: xs, m => ⟨m, m + 1, m + 2, m + 3, m + 4, markN x.f5 (m + 5), m + 5 + 2 * (x.f5.length : Int), Int.tmod (m + 6 + 2 * (x.f5.length : Int)) 3 == 0⟩ :: markR xs (m + 7 + 2 * (x.f5.length : Int))
def Small (s : List S61) : Prop := s.length ≤ 8388608 ∧ ∀ x ∈ s, x.f5.length ≤ 1048576
theorem Small.lens {s : List S61} (h : Small s) : Lens s := ⟨by have := h.1; omega, fun x hx => by have := h.2 x hx; omega⟩
theorem toRecL_small (l : List S57) (hl : l.length ≤ 1048576) (hx : ∀ x ∈ l, x.f5.length ≤ 1048576) : Small (toRecL l) := by
 refine ⟨by rw [toRecL_len]; omega, fun x h => ?_⟩
 obtain ⟨y, hy, rfl⟩ := List.mem_map.1 h
 have := hx y hy
 simp only [toRec1, toNearL_len]
 omega
theorem endR_ge (xs : List S61) : ∀ m, m ≤ endR xs m := by
 induction xs with
 | nil => intro m; exact Int.le_refl _
 | cons x xs ih => intro m; have := ih (m + 7 + 2 * (x.f5.length : Int)); simp only [endR]; omega
theorem endR_le (xs : List S61) : ∀ m, (∀ x ∈ xs, x.f5.length ≤ 1048576) → endR xs m ≤ m + 2097159 * (xs.length : Int) := by
 induction xs with
 | nil => intro m _; simp [endR]
 | cons x xs ih =>
  intro m h
  have h1 := h x (by simp)
  have := ih (m + 7 + 2 * (x.f5.length : Int)) (fun y hy => h y (by simp [hy]))
  simp only [endR, List.length_cons]
  push_cast
  omega
theorem Small.end {s : List S61} (h : Small s) {m : Int} (hm : m ≤ 1000000000000000) : endR s m ≤ 100000000000000000 := by
 have := endR_le s m h.2
 have := h.1
 omega
theorem laws_markRecordS_l0 (xs : List S61) : ∀ (p : List S61) (m : Int) (i : Nat), p.length = i → 0 ≤ m → endR xs m ≤ 4611686018427387000 → (i : Int) + xs.length ≤ 4611686018427387904 →
  Ev (fun k => laws_markRecordS.l0 k (p ++ xs) m i) (endR xs m, p ++ markR xs m) := by
 induction xs with
 | nil =>
  intro p m i hp h0 h1 h2
  apply ev_succ
  simp only [laws_markRecordS.l0]
  exact ev_neg (by simp; omega) (ev_some (by simp [markR, endR]))
 | cons x xs ih =>
  intro p m i hp h0 h1 h2
  simp only [List.length_cons, endR] at h1 h2
  have hg := endR_ge xs (m + 7 + 2 * (x.f5.length : Int))
  have hrd : rd_T61 (p ++ x :: xs) (i : Int) = x := rd_mid p _ _ xs i hp
  have hw1 : wrap64 (m + 1) = m + 1 := w64 (by omega) (by omega)
  have hw2 : wrap64 (m + 1 + 1) = m + 2 := by rw [w64 (by omega) (by omega)]; omega
  have hw3 : wrap64 (m + 2 + 1) = m + 3 := by rw [w64 (by omega) (by omega)]; omega
  have hw4 : wrap64 (m + 3 + 1) = m + 4 := by rw [w64 (by omega) (by omega)]; omega
  have hw5 : wrap64 (m + 4 + 1) = m + 5 := by rw [w64 (by omega) (by omega)]; omega
  have hw6 : wrap64 (m + 5 + 2 * (x.f5.length : Int) + 1) = m + 6 + 2 * (x.f5.length : Int) := by rw [w64 (by omega) (by omega)]; omega
  have hw7 : wrap64 (m + 6 + 2 * (x.f5.length : Int) + 1) = m + 7 + 2 * (x.f5.length : Int) := by rw [w64 (by omega) (by omega)]; omega
  have hr := ih (p ++ [⟨m, m + 1, m + 2, m + 3, m + 4, markN x.f5 (m + 5), m + 5 + 2 * (x.f5.length : Int), Int.tmod (m + 6 + 2 * (x.f5.length : Int)) 3 == 0⟩]) (m + 7 + 2 * (x.f5.length : Int)) (i + 1) (by simp [hp]) (by omega) h1 (by omega)
  apply ev_succ
  simp only [laws_markRecordS.l0, hrd, hw1, hw2, hw3, hw4, hw5]
  refine ev_pos (by simp; omega) (ev_pos (by omega) (Ev.bind (laws_markNearS_ev x.f5 (m + 5) (by omega) (by omega)) ?_))
  simp only [hw6, hw7]
  rw [w64 (x := (i : Int) + 1) (by omega) (by omega), Int.toNat_natCast, set_mid _ _ _ _ i hp]
  simp only [List.append_assoc, List.cons_append, List.nil_append] at hr
  exact ev_to hr rfl
theorem laws_markRecordS_ev (l : List S61) (m : Int) (hs : Small l) (h0 : 0 ≤ m) (h1 : m ≤ 1000000000000000) :
  Ev (fun k => laws_markRecordS.f k l m) (endR l m, markR l m) := laws_markRecordS_l0 l [] m 0 rfl h0 (by have := hs.end h1; omega) (by have := hs.1; omega)
theorem find_both (l : List S61) (r : S61) (hs : Small l) : ∃ (x : S61) (ok : Bool), x.f5.length ≤ 1048576 ∧
  Ev (fun k => spec_Find.f k l r.f0 r.f1 r.f2 r.f3 r.f4 r.f5 r.f6 r.f7) (x.f0, x.f1, x.f2, x.f3, x.f4, x.f5, x.f6, x.f7, ok) ∧
  Ev (fun k => impl_Find.f k l r.f0 r.f1 r.f2 r.f3 r.f4 r.f5 r.f6 r.f7) (x.f0, x.f1, x.f2, x.f3, x.f4, x.f5, x.f6, x.f7, ok) := by
 have hl := hs.1
 have hS := spec_l05At_ev l r (by omega)
 have hI := impl_keyAt_ev l r (by omega)
 rcases keyB_cases l r with ⟨h, _⟩ | ⟨j, hj, h, _⟩
 ·rw [h] at hS hI
  refine ⟨⟨0, 0, 0, 0, 0, [], 0, false⟩, false, by simp, ?_, ?_⟩
  ·unfold spec_Find.f
   exact Ev.bind hS (ev_pos (by omega) (Ev.now _))
  ·unfold impl_Find.f
   exact Ev.bind hI (ev_pos (by omega) (Ev.now _))
 ·rw [h] at hS hI
  obtain ⟨x, hx⟩ : ∃ x, rd_T61 l (j : Int) = x := ⟨_, rfl⟩
  have hx2 : l.getD j z61 = x := hx
  have hm : x ∈ l := by
   rw [← hx2, List.getD_eq_getElem?_getD, List.getElem?_eq_getElem hj]
   exact List.getElem_mem hj
  have hn := hs.2 x hm
  refine ⟨x, true, hn, ?_, ?_⟩
  ·unfold spec_Find.f
   refine Ev.bind hS (ev_neg (by omega) (ev_pos (by omega) (ev_pos (by omega) ?_)))
   simp only [hx, spec_l04Copy_eq x hn, Option.bind_some]
   exact Ev.now _
  ·unfold impl_Find.f
   refine Ev.bind hI (ev_neg (by omega) (ev_pos (by omega) (ev_pos (by omega) ?_)))
   simp only [hx, impl_copyRecord_eq x hn, Option.bind_some]
   exact Ev.now _
theorem FnExactFind : ∀ (l0 : List (S57)) (a1_0 : Int) (a1_1 : Int) (a1_2 : Int) (a1_3 : Int) (a1_4 : Int) (l1_5 : List (S141)) (a1_6 : Int) (a1_7 : Bool), (l0.length ≤ 9223372036854775807) → (∀ x ∈ l0, x.f5.length ≤ 9223372036854775807) → (l1_5.length ≤ 9223372036854775807) → ∃ k, laws_FnExactFind.f k l0 a1_0 a1_1 a1_2 a1_3 a1_4 l1_5 a1_6 a1_7 = some true := by
 intro l a b c d e n f g hl hx hn
 refine ev_ex ?_
 unfold laws_FnExactFind.f
 rcases laws_szRecordS_cases l hl hx 1048576 (by omega) (by omega) with h | ⟨t, h, h1, h2, h3, h4⟩
 ·exact Ev.bind h (ev_pos (by omega) (Ev.now _))
 refine Ev.bind h (ev_neg (by omega) ?_)
 rw [laws_szRecord_eq a b c d e n f g hn t (by omega) (by omega)]
 simp only [Option.bind_some]
 refine ev_ite (fun _ => Ev.now _) (fun hs' => ?_)
 have hn2 : n.length ≤ 1048576 := by
  by_cases h : t < (n.length : Int)
  ·rw [if_pos h] at hs'; omega
  ·omega
 have hn3 : (toNearL n).length ≤ 1048576 := by rw [toNearL_len]; exact hn2
 have T := laws_toRecordS_ev l h3 h4; have T' := laws_toRecord_ev a b c d e n f g hn2; have hs := toRecL_small l h3 h4; have hq0 := endR_ge (toRecL l) 1
 have hb' : endR (toRecL l) 1 ≤ 1000000000000000 := by
  have := endR_le (toRecL l) 1 hs.2
  rw [toRecL_len] at this
  omega
 obtain ⟨x, ok, hxl, S, I⟩ := find_both (toRecL l) ⟨a, b, c, d, e, toNearL n, f, g⟩ hs; have E1 := laws_eqRecordS_refl _ hs.lens
 have E2 := laws_eqRecord_refl x.f0 x.f1 x.f2 x.f3 x.f4 x.f5 x.f6 x.f7 (by omega)
 have E3 := laws_eqRecord_refl a b c d e (toNearL n) f g (by omega)
 have M2 : Ev (fun k => laws_markRecord.f k a b c d e (toNearL n) f g (endR (toRecL l) 1)) _ := Ev.bind (laws_markNearS_ev (toNearL n) _ (by omega) (by omega)) (Ev.now _)
 have M3 : Ev (fun k => laws_markRecord.f k x.f0 x.f1 x.f2 x.f3 x.f4 x.f5 x.f6 x.f7 1) (1 + 2 * (x.f5.length : Int), markN x.f5 1) := Ev.bind (laws_markNearS_ev x.f5 1 (by omega) (by omega)) (Ev.now _)
 have H : Ev (fun k => laws_heldRecord.f k x.f0 x.f1 x.f2 x.f3 x.f4 (markN x.f5 1) x.f6 x.f7 1) (1 + 2 * (x.f5.length : Int)) := Ev.bind (laws_heldNearS_ev x.f5 1 (by omega) (by omega)) (ev_neg (by omega) (Ev.now _))
 refine Ev.bind T (Ev.bind T' (Ev.bind S (Ev.bind T (Ev.bind T' (Ev.bind I (Ev.bind E2 (ev_pos rfl (ev_neg (by simp) ?_))))))))
 refine Ev.bind T (Ev.bind E1 (ev_pos rfl (Ev.bind T' (Ev.bind E3 (ev_pos rfl ?_)))))
 refine Ev.bind (laws_markRecordS_ev _ 1 hs (by omega) (by omega)) (Ev.bind M2 (ev_neg (by simp only; omega) (Ev.bind E2 (ev_pos rfl (ev_neg (by simp) ?_)))))
 refine Ev.bind M3 (Ev.bind H (ev_neg (by omega) (ev_pos rfl ?_)))
 exact Ev.bind T (Ev.bind T' (Ev.bind I (Ev.bind E2 (ev_pos rfl (ev_neg (by simp) (Ev.bind H (ev_neg (by omega) (ev_pos rfl (Ev.now _)))))))))

end Go.Proofs.Ythjmdiggglkeaaa.Pure
