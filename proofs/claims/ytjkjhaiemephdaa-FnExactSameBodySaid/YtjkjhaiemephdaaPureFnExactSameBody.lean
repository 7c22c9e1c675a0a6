/- Proved: for all two records that the row lets in, the law FnExactSameBody returns true; there are no other conditions. -/
import Derived.Test.YtjkjhaiemephdaaQlawsFnExactSameBody
set_option linter.unusedVariables false
set_option linter.unusedSimpArgs false
namespace Go.Proofs.Ytjkjhaiemephdaa.Pure
open Go.RowKit Go.Proofs.Ytjkjhaiemephdaa.Q Go.Proofs.YtjkjhaiemephdaaW.PrintWords Go.Proofs.YtjkjhaiemephdaaW.PrintLast

-- base
theorem w64 {x : Int} (h0 : -9223372036854775808 ≤ x) (h1 : x ≤ 9223372036854775807) : wrap64 x = x := by unfold wrap64; omega
theorem bt_b (s : ByteArray) (i : Int) : 0 ≤ bt s i ∧ bt s i < 256 := by have := bt_range s i; omega
theorem wbt (s : ByteArray) (i : Int) : wrap64 (bt s i) = bt s i := by have := bt_range s i; exact w64 (by omega) (by omega)
theorem tmodp {x m : Int} (h : 0 ≤ x) : Int.tmod x m = x % m := Int.tmod_eq_emod_of_nonneg h
theorem tdivp {x m : Int} (h : 0 ≤ x) : Int.tdiv x m = x / m := Int.tdiv_eq_ediv_of_nonneg h
/-- The bytes of a text, as numbers. -/
def B (s : ByteArray) : List Int := s.data.toList.map fun u => (u.toNat : Int)
def Byt (xs : List Int) : Prop := ∀ x ∈ xs, 0 ≤ x ∧ x < 256
theorem B_len (s : ByteArray) : (B s).length = s.size := by simp [B]
theorem B_byt (s : ByteArray) : Byt (B s) := by
  intro x hx
  obtain ⟨u, _, rfl⟩ := List.mem_map.1 hx
  have := u.toNat_lt
  omega
theorem B_str (xs : List Int) (h : Byt xs) : B (strOfNums xs) = xs := by
  simp only [B, strOfNums, List.map_map]
  conv => rhs; rw [← List.map_id xs]
  apply List.map_congr_left
  intro x hx
  have := h x hx
  simp only [Function.comp, UInt8.toNat_ofNat', id]
  omega
theorem str_B (s : ByteArray) : strOfNums (B s) = s := by
  apply Go.WideShapes.bytes_inj
  simp only [B, strOfNums, List.map_map]
  conv => rhs; rw [← List.map_id s.data.toList]
  apply List.map_congr_left
  intro x hx
  simp [Function.comp]
theorem B_inj {s t : ByteArray} (h : B s = B t) : s = t := by rw [← str_B s, ← str_B t, h]
theorem B_append (s t : ByteArray) : B (s ++ t) = B s ++ B t := by simp [B, ByteArray.data_append]
theorem B_extract (s : ByteArray) (a b : Nat) : B (s.extract a b) = ((B s).take b).drop a := by
  simp only [B, ByteArray.data_extract, Array.toList_extract, List.extract_eq_take_drop]
  rw [← List.map_take, ← List.map_drop, List.drop_take]
theorem B_bt (s : ByteArray) (i : Nat) (h : i < s.size) : (B s)[i]? = some (bt s i) := by
  have h' : i < s.data.toList.length := by rw [Array.length_toList]; exact h
  rw [B, List.getElem?_map, List.getElem?_eq_getElem h']
  simp [bt, h, ByteArray.getElem_eq_getElem_data]
theorem B_nil : B (⟨#[]⟩ : ByteArray) = [] := rfl
theorem tl_iff (s t : ByteArray) : s.toList = t.toList ↔ B s = B t := by
  rw [ByteArray.toList_eq, ByteArray.toList_eq]
  constructor
  · intro h; simp [B, h]
  · intro h; rw [B_inj h]
theorem byt_app {xs ys : List Int} (h : Byt xs) (k : Byt ys) : Byt (xs ++ ys) := by
  intro x hx
  rcases List.mem_append.1 hx with hx | hx
  · exact h x hx
  · exact k x hx
theorem wf_u32 {x : Int} (h : (Lit.int .u32 x).wf = true) : 0 ≤ x ∧ x < 4294967296 := by
  simp only [Lit.wf, IntKind.min, IntKind.max, IntKind.signed, IntKind.bits, Bool.and_eq_true, decide_eq_true_eq] at h
  simp at h
  omega
theorem wf_i64 {x : Int} (h : (Lit.int .i64 x).wf = true) : -9223372036854775808 ≤ x ∧ x ≤ 9223372036854775807 := by
  simp only [Lit.wf, IntKind.min, IntKind.max, IntKind.signed, IntKind.bits, Bool.and_eq_true, decide_eq_true_eq] at h
  simp at h
  omega
theorem ev_ex {α : Type} {g : Nat → Option α} {r : α} (h : Ev g r) : ∃ k, g k = some r := h.rounds

-- evtools
theorem ev_ite {α : Type} {c : Prop} [Decidable c] {g f : Nat → Option α} {r : α} (h : c → Ev g r) (k : ¬ c → Ev f r) : Ev (fun n => if c then g n else f n) r := by
  by_cases hc : c
  · exact Ev.congr (fun n => by rw [if_pos hc]) (h hc)
  · exact Ev.congr (fun n => by rw [if_neg hc]) (k hc)
theorem ev_pos {α : Type} {c : Prop} [Decidable c] {g f : Nat → Option α} {r : α} (hc : c) (h : Ev g r) : Ev (fun n => if c then g n else f n) r := Ev.congr (fun n => by rw [if_pos hc]) h
theorem ev_neg {α : Type} {c : Prop} [Decidable c] {g f : Nat → Option α} {r : α} (hc : ¬ c) (h : Ev f r) : Ev (fun n => if c then g n else f n) r := Ev.congr (fun n => by rw [if_neg hc]) h
theorem ev_some {α : Type} {x r : α} (h : x = r) : Ev (fun _ => some x) r := by rw [h]; exact Ev.now _
theorem ev_eq {α : Type} {x : Option α} {r : α} (h : x = some r) : Ev (fun _ => x) r := by rw [h]; exact Ev.now _
theorem ev_succ {α : Type} {g : Nat → Option α} {r : α} (h : Ev (fun k => g (k + 1)) r) : Ev g r := Ev.step (fun _ => rfl) h
theorem ev_to {α : Type} {g : Nat → Option α} {r r' : α} (h : Ev g r) (e : r = r') : Ev g r' := e ▸ h

-- lists
theorem set_mid {α : Type} (p : List α) (x y : α) (r : List α) (i : Nat) (h : p.length = i) : (p ++ x :: r).set i y = p ++ y :: r := by
  subst h
  simp
theorem drop_at {α : Type} (l : List α) (z : α) (i : Nat) (h : i < l.length) : l.drop i = l.getD i z :: l.drop (i + 1) := by
  rw [List.drop_eq_getElem_cons h, List.getD_eq_getElem?_getD, List.getElem?_eq_getElem h]
  rfl
theorem sz_left {n : Int} {len : Nat} {t : Int} (ht : t = if n < (len : Int) then -1 else n - len) (h : ¬ t < 0) (hn : n ≤ 1048576) (hn0 : 0 ≤ n) : len ≤ 1048576 ∧ 0 ≤ t ∧ t ≤ 1048576 ∧ t = n - len := by
  by_cases hc : n < (len : Int)
  · rw [if_pos hc] at ht; omega
  · rw [if_neg hc] at ht; omega

-- toNear
/-! Near: lists -/
def toNear1 (x : S142) : S129 := ⟨x.f0, x.f1⟩
def toNearL (l : List S142) : List S129 := l.map toNear1
theorem toNearL_len (l : List S142) : (toNearL l).length = l.length := by simp [toNearL]
theorem laws_toNearS_l0_ev (l : List S142) (hl : l.length ≤ 9223372036854775807) (d : Nat) : ∀ i : Nat, i + d = l.length →
    Ev (fun k => laws_toNearS.l0 k l ((toNearL l).take i ++ List.replicate d z129) i) (toNearL l) := by
  induction d with
  | zero =>
    intro i hi
    apply ev_succ
    simp only [laws_toNearS.l0]
    refine ev_neg (by omega) (ev_some ?_)
    rw [List.take_of_length_le (by rw [toNearL_len]; omega)]
    simp
  | succ d ih =>
    intro i hi
    have hr := ih (i + 1) (by omega)
    have hlt : i < (toNearL l).length := by rw [toNearL_len]; omega
    apply ev_succ
    simp only [laws_toNearS.l0, laws_toNear.f, Option.bind_some]
    have hset : ((toNearL l).take i ++ List.replicate (d + 1) z129).set ((i : Int).toNat) (⟨(rd_T142 l i).f0, (rd_T142 l i).f1⟩ : S129) = (toNearL l).take (i + 1) ++ List.replicate d z129 := by
      rw [List.replicate_succ, set_mid _ _ _ _ _ (by rw [List.length_take]; omega), List.take_succ_eq_append_getElem hlt]
      rw [List.append_assoc]
      congr 1
      simp only [List.singleton_append]
      congr 1
      have hli : i < l.length := by omega
      simp [toNearL, toNear1, rd_T142, List.getD_eq_getElem?_getD, hli]
    rw [hset, w64 (by omega) (by omega)]
    refine ev_pos (by omega) (ev_pos (by omega) (ev_pos ?_ hr))
    simp only [List.length_append, List.length_take, List.length_replicate, toNearL_len]
    omega
theorem laws_toNearS_ev (l : List S142) (hl : l.length ≤ 1048576) : Ev (fun k => laws_toNearS.f k l) (toNearL l) := by
  unfold laws_toNearS.f
  refine ev_pos (by omega) (ev_pos (by omega) ?_)
  exact laws_toNearS_l0_ev l (by omega) l.length 0 (by omega)

-- szNear
theorem laws_szNearS_eq (l : List S142) (hl : l.length ≤ 9223372036854775807) (n : Int) (h0 : 0 ≤ n) (h1 : n ≤ 1048576) : laws_szNearS.f l n = some (if n < (l.length : Int) then -1 else n - l.length) := by
  unfold laws_szNearS.f
  rw [w64 (by omega) (by omega)]
  by_cases h : n < (l.length : Int)
  · rw [if_pos (by omega), if_pos h]
  · rw [if_neg (by omega), if_neg h]

-- toRecord
theorem laws_toRecord_ev (a b c d e : Int) (l : List S142) (f : Int) (g : Bool) (hl : l.length ≤ 1048576) : Ev (fun k => laws_toRecord.f k a b c d e l f g) (a, b, c, d, e, toNearL l, f, g) := by
  unfold laws_toRecord.f
  exact Ev.bind (laws_toNearS_ev l hl) (Ev.now _)
theorem laws_szRecord_eq (a b c d e : Int) (l : List S142) (f : Int) (g : Bool) (hl : l.length ≤ 9223372036854775807) (n : Int) (h0 : 0 ≤ n) (h1 : n ≤ 1048576) :
    laws_szRecord.f a b c d e l f g n = some (if n < (l.length : Int) then -1 else n - l.length) := by
  unfold laws_szRecord.f
  rw [laws_szNearS_eq l hl n h0 h1, Option.bind_some]
  by_cases h : n < (l.length : Int)
  · rw [if_pos h, if_pos (by omega)]
  · rw [if_neg h, if_neg (by omega)]

-- eqNear
theorem laws_eqNear_refl (a b : Int) : laws_eqNear.f a b a b = some true := by
  unfold laws_eqNear.f
  simp
theorem laws_eqNearS_l0_ev (l : List S129) (hl : l.length ≤ 9223372036854775807) (d : Nat) : ∀ i : Nat, i + d = l.length → Ev (fun k => laws_eqNearS.l0 k l l i) true := by
  induction d with
  | zero =>
    intro i hi
    apply ev_succ
    simp only [laws_eqNearS.l0]
    exact ev_neg (by omega) (Ev.now _)
  | succ d ih =>
    intro i hi
    apply ev_succ
    simp only [laws_eqNearS.l0, laws_eqNear_refl, if_true, Option.bind_some]
    rw [w64 (by omega) (by omega)]
    exact ev_pos (by omega) (ev_pos (by omega) (ev_pos (by omega) (ih (i + 1) (by omega))))
theorem laws_eqNearS_refl (l : List S129) (hl : l.length ≤ 9223372036854775807) : Ev (fun k => laws_eqNearS.f k l l) true := by
  unfold laws_eqNearS.f
  exact ev_pos rfl (laws_eqNearS_l0_ev l hl l.length 0 (by omega))

-- eqRecord
theorem laws_eqRecord_refl (a b c d e : Int) (l : List S129) (f : Int) (g : Bool) (hl : l.length ≤ 9223372036854775807) : Ev (fun k => laws_eqRecord.f k a b c d e l f g a b c d e l f g) true := by
  unfold laws_eqRecord.f
  simp only [if_true]
  refine Ev.bind (laws_eqNearS_refl l hl) ?_
  simp
  exact Ev.now _

-- keys
def sameKey (a b : S50) : Bool := decide (a.f0 = b.f0 ∧ a.f1 = b.f1 ∧ a.f2 = b.f2 ∧ a.f3 = b.f3)
def beforeB (a b : S50) : Bool := decide (a.f0 < b.f0 ∨ a.f0 = b.f0 ∧ (a.f1 < b.f1 ∨ a.f1 = b.f1 ∧ (a.f2 < b.f2 ∨ a.f2 = b.f2 ∧ a.f3 < b.f3)))
/-- The place of a key from place i on, -1 without one. -/
def keyGo (r : S50) : List S50 → Int → Int
  | [], _ => -1
  | x :: xs, i => if sameKey x r = true then i else keyGo r xs (i + 1)
def keyB (s : List S50) (r : S50) : Int := keyGo r s 0
theorem keyGo_cases (r : S50) (xs : List S50) : ∀ i : Int, (keyGo r xs i = -1 ∧ ∀ x ∈ xs, sameKey x r = false) ∨ (∃ j : Nat, j < xs.length ∧ keyGo r xs i = i + j ∧ sameKey (xs.getD j z50) r = true ∧ ∀ q : Nat, q < j → sameKey (xs.getD q z50) r = false) := by
  induction xs with
  | nil => intro i; exact .inl ⟨rfl, by simp⟩
  | cons x xs ih =>
    intro i
    by_cases h : sameKey x r = true
    · refine .inr ⟨0, by simp, ?_, h, fun q hq => by omega⟩
      rw [keyGo, if_pos h]; omega
    · rw [keyGo, if_neg h]
      rcases ih (i + 1) with ⟨h1, h2⟩ | ⟨j, h1, h2, h3, h4⟩
      · refine .inl ⟨h1, fun y hy => ?_⟩
        rcases List.mem_cons.1 hy with rfl | hy
        · simpa using h
        · exact h2 y hy
      · refine .inr ⟨j + 1, by simp only [List.length_cons]; omega, by rw [h2]; omega, h3, fun q hq => ?_⟩
        cases q with
        | zero => simpa using h
        | succ q => exact h4 q (by omega)
theorem keyB_cases (s : List S50) (r : S50) : (keyB s r = -1 ∧ ∀ x ∈ s, sameKey x r = false) ∨ (∃ j : Nat, j < s.length ∧ keyB s r = j ∧ sameKey (s.getD j z50) r = true ∧ ∀ q : Nat, q < j → sameKey (s.getD q z50) r = false) := by
  rcases keyGo_cases r s 0 with h | ⟨j, h1, h2, h3⟩
  · exact .inl h
  · exact .inr ⟨j, h1, by rw [keyB, h2]; omega, h3⟩

-- spec_SameKey
theorem spec_SameKey_eq (a b : S50) : spec_SameKey.f a.f0 a.f1 a.f2 a.f3 a.f4 a.f5 a.f6 a.f7 b.f0 b.f1 b.f2 b.f3 b.f4 b.f5 b.f6 b.f7 = some (sameKey a b) := by
  unfold spec_SameKey.f sameKey
  by_cases h0 : a.f0 = b.f0
  · by_cases h1 : a.f1 = b.f1
    · by_cases h2 : a.f2 = b.f2
      · rw [if_pos h0, if_pos h1, if_pos h2]
        congr 1
        rw [Bool.eq_iff_iff]
        simp [h0, h1, h2]
      · rw [if_pos h0, if_pos h1, if_neg h2, decide_eq_false (by omega)]
    · rw [if_pos h0, if_neg h1, decide_eq_false (by omega)]
  · rw [if_neg h0, decide_eq_false (by omega)]

-- impl_SameKey
theorem impl_SameKey_eq (a b : S50) : impl_SameKey.f a.f0 a.f1 a.f2 a.f3 a.f4 a.f5 a.f6 a.f7 b.f0 b.f1 b.f2 b.f3 b.f4 b.f5 b.f6 b.f7 = some (sameKey a b) := by
  unfold impl_SameKey.f sameKey
  by_cases h0 : a.f0 = b.f0
  · by_cases h1 : a.f1 = b.f1
    · by_cases h2 : a.f2 = b.f2
      · rw [if_pos h0, if_pos h1, if_pos h2]
        congr 1
        rw [Bool.eq_iff_iff]
        simp [h0, h1, h2]
      · rw [if_pos h0, if_pos h1, if_neg h2, decide_eq_false (by omega)]
    · rw [if_pos h0, if_neg h1, decide_eq_false (by omega)]
  · rw [if_neg h0, decide_eq_false (by omega)]

-- sameBody
theorem sameBody_l0 (a0 a1 a2 a3 a4 a6 b0 b1 b2 b3 b4 b6 : Int) (a7 b7 : Bool) (l m : List S129) (hl : l.length ≤ 9223372036854775807) (hm : (m.length : Int) = l.length) (d : Nat) : ∀ i : Nat, i + d = l.length →
    ∃ r, Ev (fun k => spec_SameBody.l0 k i a0 a1 a2 a3 a4 l a6 a7 b0 b1 b2 b3 b4 m b6 b7) r ∧ Ev (fun k => impl_SameBody.l0 k (l.length : Int) i a0 a1 a2 a3 a4 l a6 a7 b0 b1 b2 b3 b4 m b6 b7) r := by
  induction d with
  | zero =>
    intro i hi
    refine ⟨true, ?_, ?_⟩
    · apply ev_succ
      simp only [spec_SameBody.l0]
      exact ev_neg (by omega) (Ev.now _)
    · apply ev_succ
      simp only [impl_SameBody.l0]
      exact ev_neg (by omega) (Ev.now _)
  | succ d ih =>
    intro i hi
    obtain ⟨r, h1, h2⟩ := ih (i + 1) (by omega)
    by_cases hc : (!(((rd_T129 l i).f0) == ((rd_T129 m i).f0)) || (!(((rd_T129 l i).f1) == ((rd_T129 m i).f1)))) = true
    · refine ⟨false, ?_, ?_⟩
      · apply ev_succ
        simp only [spec_SameBody.l0]
        exact ev_pos (by omega) (ev_pos (by omega) (ev_pos (by omega) (ev_pos hc (Ev.now _))))
      · apply ev_succ
        simp only [impl_SameBody.l0]
        exact ev_pos (by omega) (ev_pos (by omega) (ev_pos (by omega) (ev_pos (by omega) (ev_pos hc (Ev.now _)))))
    · refine ⟨r, ?_, ?_⟩
      · apply ev_succ
        simp only [spec_SameBody.l0]
        rw [w64 (by omega) (by omega)]
        exact ev_pos (by omega) (ev_pos (by omega) (ev_pos (by omega) (ev_neg hc h1)))
      · apply ev_succ
        simp only [impl_SameBody.l0]
        rw [w64 (by omega) (by omega)]
        exact ev_pos (by omega) (ev_pos (by omega) (ev_pos (by omega) (ev_pos (by omega) (ev_neg hc h2))))
theorem sameBody_j0 (x : Bool) (a b : S50) (hl : a.f5.length ≤ 9223372036854775807) (hm : x = false → (b.f5.length : Int) = a.f5.length) :
    ∃ r, Ev (fun k => spec_SameBody.j0 k x a.f0 a.f1 a.f2 a.f3 a.f4 a.f5 a.f6 a.f7 b.f0 b.f1 b.f2 b.f3 b.f4 b.f5 b.f6 b.f7) r ∧ Ev (fun k => impl_SameBody.j0 k x a.f0 a.f1 a.f2 a.f3 a.f4 a.f5 a.f6 a.f7 b.f0 b.f1 b.f2 b.f3 b.f4 b.f5 b.f6 b.f7) r ∧ (x = true → r = false) := by
  by_cases hx : x = true
  · refine ⟨false, ?_, ?_, fun _ => rfl⟩
    · apply ev_succ
      simp only [spec_SameBody.j0]
      exact ev_pos hx (Ev.now _)
    · apply ev_succ
      simp only [impl_SameBody.j0]
      exact ev_pos hx (Ev.now _)
  · obtain ⟨r, h1, h2⟩ := sameBody_l0 a.f0 a.f1 a.f2 a.f3 a.f4 a.f6 b.f0 b.f1 b.f2 b.f3 b.f4 b.f6 a.f7 b.f7 a.f5 b.f5 hl (hm (by simpa using hx)) a.f5.length 0 (by omega)
    refine ⟨r, ?_, ?_, fun h => absurd h hx⟩
    · apply ev_succ
      simp only [spec_SameBody.j0]
      exact ev_neg hx h1
    · apply ev_succ
      simp only [impl_SameBody.j0]
      exact ev_neg hx h2
theorem sameBody_ev (a b : S50) (hl : a.f5.length ≤ 9223372036854775807) :
    ∃ r, Ev (fun k => spec_SameBody.f k a.f0 a.f1 a.f2 a.f3 a.f4 a.f5 a.f6 a.f7 b.f0 b.f1 b.f2 b.f3 b.f4 b.f5 b.f6 b.f7) r ∧ Ev (fun k => impl_SameBody.f k a.f0 a.f1 a.f2 a.f3 a.f4 a.f5 a.f6 a.f7 b.f0 b.f1 b.f2 b.f3 b.f4 b.f5 b.f6 b.f7) r ∧ (r = true → sameKey a b = true) := by
  unfold spec_SameBody.f impl_SameBody.f
  rw [spec_SameKey_eq, impl_SameKey_eq]
  simp only [Option.bind_some]
  obtain ⟨r, h1, h2, h3⟩ := sameBody_j0 true a b hl (fun h => by cases h)
  by_cases hk : sameKey a b = true
  · by_cases hc : a.f6 = b.f6
    · by_cases hf : (a.f7 != b.f7) = true
      · exact ⟨r, ev_pos hk (ev_pos hc (ev_pos hf h1)), ev_pos hk (ev_pos hc (ev_pos hf h2)), fun _ => hk⟩
      · obtain ⟨r', h1', h2', h3'⟩ := sameBody_j0 ((a.f5.length : Int) != (b.f5.length : Int)) a b hl (fun h => by simp at h; omega)
        exact ⟨r', ev_pos hk (ev_pos hc (ev_neg hf h1')), ev_pos hk (ev_pos hc (ev_neg hf h2')), fun _ => hk⟩
    · exact ⟨r, ev_pos hk (ev_neg hc h1), ev_pos hk (ev_neg hc h2), fun _ => hk⟩
  · exact ⟨r, ev_neg hk h1, ev_neg hk h2, fun h => by rw [h3 rfl] at h; cases h⟩

-- FnExactSameBody
theorem FnExactSameBody : ∀ (a0_0 : Int) (a0_1 : Int) (a0_2 : Int) (a0_3 : Int) (a0_4 : Int) (l0_5 : List (S142)) (a0_6 : Int) (a0_7 : Bool) (a1_0 : Int) (a1_1 : Int) (a1_2 : Int) (a1_3 : Int) (a1_4 : Int) (l1_5 : List (S142)) (a1_6 : Int) (a1_7 : Bool), (l0_5.length ≤ 9223372036854775807) → (l1_5.length ≤ 9223372036854775807) → ∃ k, laws_FnExactSameBody.f k a0_0 a0_1 a0_2 a0_3 a0_4 l0_5 a0_6 a0_7 a1_0 a1_1 a1_2 a1_3 a1_4 l1_5 a1_6 a1_7 = some true := by
  intro a b c d e l f g a' b' c' d' e' l' f' g' hl hl'
  refine ev_ex ?_
  unfold laws_FnExactSameBody.f
  rw [laws_szRecord_eq a b c d e l f g hl 1048576 (by omega) (by omega)]
  simp only [Option.bind_some]
  refine ev_ite (fun _ => Ev.now _) (fun hs => ?_)
  have hl2 : l.length ≤ 1048576 := by
    by_cases h : (1048576 : Int) < l.length
    · rw [if_pos h] at hs; omega
    · omega
  rw [if_neg (show ¬ (1048576 : Int) < l.length by omega)]
  rw [laws_szRecord_eq a' b' c' d' e' l' f' g' hl' (1048576 - l.length) (by omega) (by omega)]
  simp only [Option.bind_some]
  refine ev_ite (fun _ => Ev.now _) (fun hs' => ?_)
  have hl2' : l'.length ≤ 1048576 := by
    by_cases h : (1048576 - (l.length : Int) : Int) < l'.length
    · rw [if_pos h] at hs'; omega
    · omega
  have hl3 : (toNearL l).length ≤ 9223372036854775807 := by rw [toNearL_len]; exact hl
  have hl3' : (toNearL l').length ≤ 9223372036854775807 := by rw [toNearL_len]; exact hl'
  have T := laws_toRecord_ev a b c d e l f g hl2
  have T' := laws_toRecord_ev a' b' c' d' e' l' f' g' hl2'
  obtain ⟨r, h1, h2, _⟩ := sameBody_ev (⟨a, b, c, d, e, toNearL l, f, g⟩ : S50) ⟨a', b', c', d', e', toNearL l', f', g'⟩ hl3
  refine Ev.bind T (Ev.bind T' (Ev.bind h1 (Ev.bind T (Ev.bind T' (Ev.bind h2 ?_)))))
  refine ev_neg (by simp) (Ev.bind T (Ev.bind (laws_eqRecord_refl a b c d e _ f g hl3) (ev_pos rfl ?_)))
  exact Ev.bind T' (Ev.bind (laws_eqRecord_refl a' b' c' d' e' _ f' g' hl3') (ev_pos rfl (Ev.now _)))

end Go.Proofs.Ytjkjhaiemephdaa.Pure
