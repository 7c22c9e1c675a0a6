/- Proved: for every net, two nodes and area that the row lets in, the law FnExactCostTo returns true; there are no other conditions. -/
import Derived.Test.YtjkjhaiemephdabQlawsFnExactCostTo
set_option linter.unusedVariables false
set_option linter.unusedSimpArgs false
namespace Go.Proofs.Ytjkjhaiemephdab.Pure
open Go.RowKit Go.Proofs.Ytjkjhaiemephdab.Q Go.Proofs.YtjkjhaiemephdabW.PrintWords Go.Proofs.YtjkjhaiemephdabW.PrintLast

-- base
theorem w64 {x : Int} (h0 : -9223372036854775808 ≤ x) (h1 : x ≤ 9223372036854775807) : wrap64 x = x := by unfold wrap64; omega
theorem bt_b (s : ByteArray) (i : Int) : 0 ≤ bt s i ∧ bt s i < 256 := by have := bt_range s i; omega
theorem wbt (s : ByteArray) (i : Int) : wrap64 (bt s i) = bt s i := by have := bt_range s i; exact w64 (by omega) (by omega)
theorem tmodp {x m : Int} (h : 0 ≤ x) : Int.tmod x m = x % m := Int.tmod_eq_emod_of_nonneg h
theorem tdivp {x m : Int} (h : 0 ≤ x) : Int.tdiv x m = x / m := Int.tdiv_eq_ediv_of_nonneg h
/-- The bytes of a text, as numbers. -/
def B (s : ByteArray) : List Int := s.data.toList.map fun u => (u.toNat : Int)
def Byt (xs : List Int) : Prop := ∀ x ∈ xs, 0 ≤ x ∧ x < 256
theorem B_len (s : ByteArray) : (B s).length = s.size := by simp [B]
theorem B_byt (s : ByteArray) : Byt (B s) := by
  intro x hx
  obtain ⟨u, _, rfl⟩ := List.mem_map.1 hx
  have := u.toNat_lt
  omega
theorem B_str (xs : List Int) (h : Byt xs) : B (strOfNums xs) = xs := by
  simp only [B, strOfNums, List.map_map]
  conv => rhs; rw [← List.map_id xs]
  apply List.map_congr_left
  intro x hx
  have := h x hx
  simp only [Function.comp, UInt8.toNat_ofNat', id]
  omega
theorem str_B (s : ByteArray) : strOfNums (B s) = s := by
  apply Go.WideShapes.bytes_inj
  simp only [B, strOfNums, List.map_map]
  conv => rhs; rw [← List.map_id s.data.toList]
  apply List.map_congr_left
  intro x hx
  simp [Function.comp]
theorem B_inj {s t : ByteArray} (h : B s = B t) : s = t := by rw [← str_B s, ← str_B t, h]
theorem B_append (s t : ByteArray) : B (s ++ t) = B s ++ B t := by simp [B, ByteArray.data_append]
theorem B_extract (s : ByteArray) (a b : Nat) : B (s.extract a b) = ((B s).take b).drop a := by
  simp only [B, ByteArray.data_extract, Array.toList_extract, List.extract_eq_take_drop]
  rw [← List.map_take, ← List.map_drop, List.drop_take]
theorem B_bt (s : ByteArray) (i : Nat) (h : i < s.size) : (B s)[i]? = some (bt s i) := by
  have h' : i < s.data.toList.length := by rw [Array.length_toList]; exact h
  rw [B, List.getElem?_map, List.getElem?_eq_getElem h']
  simp [bt, h, ByteArray.getElem_eq_getElem_data]
theorem B_nil : B (⟨#[]⟩ : ByteArray) = [] := rfl
theorem tl_iff (s t : ByteArray) : s.toList = t.toList ↔ B s = B t := by
  rw [ByteArray.toList_eq, ByteArray.toList_eq]
  constructor
  · intro h; simp [B, h]
  · intro h; rw [B_inj h]
theorem byt_app {xs ys : List Int} (h : Byt xs) (k : Byt ys) : Byt (xs ++ ys) := by
  intro x hx
  rcases List.mem_append.1 hx with hx | hx
  · exact h x hx
  · exact k x hx
theorem wf_u32 {x : Int} (h : (Lit.int .u32 x).wf = true) : 0 ≤ x ∧ x < 4294967296 := by
  simp only [Lit.wf, IntKind.min, IntKind.max, IntKind.signed, IntKind.bits, Bool.and_eq_true, decide_eq_true_eq] at h
  simp at h
  omega
theorem wf_i64 {x : Int} (h : (Lit.int .i64 x).wf = true) : -9223372036854775808 ≤ x ∧ x ≤ 9223372036854775807 := by
  simp only [Lit.wf, IntKind.min, IntKind.max, IntKind.signed, IntKind.bits, Bool.and_eq_true, decide_eq_true_eq] at h
  simp at h
  omega
theorem ev_ex {α : Type} {g : Nat → Option α} {r : α} (h : Ev g r) : ∃ k, g k = some r := h.rounds

-- evtools
theorem ev_ite {α : Type} {c : Prop} [Decidable c] {g f : Nat → Option α} {r : α} (h : c → Ev g r) (k : ¬ c → Ev f r) : Ev (fun n => if c then g n else f n) r := by
  by_cases hc : c
  · exact Ev.congr (fun n => by rw [if_pos hc]) (h hc)
  · exact Ev.congr (fun n => by rw [if_neg hc]) (k hc)
theorem ev_pos {α : Type} {c : Prop} [Decidable c] {g f : Nat → Option α} {r : α} (hc : c) (h : Ev g r) : Ev (fun n => if c then g n else f n) r := Ev.congr (fun n => by rw [if_pos hc]) h
theorem ev_neg {α : Type} {c : Prop} [Decidable c] {g f : Nat → Option α} {r : α} (hc : ¬ c) (h : Ev f r) : Ev (fun n => if c then g n else f n) r := Ev.congr (fun n => by rw [if_neg hc]) h
theorem ev_some {α : Type} {x r : α} (h : x = r) : Ev (fun _ => some x) r := by rw [h]; exact Ev.now _
theorem ev_eq {α : Type} {x : Option α} {r : α} (h : x = some r) : Ev (fun _ => x) r := by rw [h]; exact Ev.now _
theorem ev_succ {α : Type} {g : Nat → Option α} {r : α} (h : Ev (fun k => g (k + 1)) r) : Ev g r := Ev.step (fun _ => rfl) h
theorem ev_to {α : Type} {g : Nat → Option α} {r r' : α} (h : Ev g r) (e : r = r') : Ev g r' := e ▸ h

-- lists
theorem set_mid {α : Type} (p : List α) (x y : α) (r : List α) (i : Nat) (h : p.length = i) : (p ++ x :: r).set i y = p ++ y :: r := by
  subst h
  simp
theorem drop_at {α : Type} (l : List α) (z : α) (i : Nat) (h : i < l.length) : l.drop i = l.getD i z :: l.drop (i + 1) := by
  rw [List.drop_eq_getElem_cons h, List.getD_eq_getElem?_getD, List.getElem?_eq_getElem h]
  rfl
theorem sz_left {n : Int} {len : Nat} {t : Int} (ht : t = if n < (len : Int) then -1 else n - len) (h : ¬ t < 0) (hn : n ≤ 1048576) (hn0 : 0 ≤ n) : len ≤ 1048576 ∧ 0 ≤ t ∧ t ≤ 1048576 ∧ t = n - len := by
  by_cases hc : n < (len : Int)
  · rw [if_pos hc] at ht; omega
  · rw [if_neg hc] at ht; omega

-- toLink
/-! Link: lists -/
def toLink1 (x : S116) : S75 := ⟨x.f0, x.f1, x.f2, x.f3⟩
def toLinkL (l : List S116) : List S75 := l.map toLink1
theorem toLinkL_len (l : List S116) : (toLinkL l).length = l.length := by simp [toLinkL]
theorem laws_toLinkS_l0_ev (l : List S116) (hl : l.length ≤ 9223372036854775807) (d : Nat) : ∀ i : Nat, i + d = l.length →
    Ev (fun k => laws_toLinkS.l0 k l ((toLinkL l).take i ++ List.replicate d z75) i) (toLinkL l) := by
  induction d with
  | zero =>
    intro i hi
    apply ev_succ
    simp only [laws_toLinkS.l0]
    refine ev_neg (by omega) (ev_some ?_)
    rw [List.take_of_length_le (by rw [toLinkL_len]; omega)]
    simp
  | succ d ih =>
    intro i hi
    have hr := ih (i + 1) (by omega)
    have hlt : i < (toLinkL l).length := by rw [toLinkL_len]; omega
    apply ev_succ
    simp only [laws_toLinkS.l0, laws_toLink.f, Option.bind_some]
    have hset : ((toLinkL l).take i ++ List.replicate (d + 1) z75).set ((i : Int).toNat) (⟨(rd_T116 l i).f0, (rd_T116 l i).f1, (rd_T116 l i).f2, (rd_T116 l i).f3⟩ : S75) = (toLinkL l).take (i + 1) ++ List.replicate d z75 := by
      rw [List.replicate_succ, set_mid _ _ _ _ _ (by rw [List.length_take]; omega), List.take_succ_eq_append_getElem hlt]
      rw [List.append_assoc]
      congr 1
      simp only [List.singleton_append]
      congr 1
      have hli : i < l.length := by omega
      simp [toLinkL, toLink1, rd_T116, List.getD_eq_getElem?_getD, hli]
    rw [hset, w64 (by omega) (by omega)]
    refine ev_pos (by omega) (ev_pos (by omega) (ev_pos ?_ hr))
    simp only [List.length_append, List.length_take, List.length_replicate, toLinkL_len]
    omega
theorem laws_toLinkS_ev (l : List S116) (hl : l.length ≤ 1048576) : Ev (fun k => laws_toLinkS.f k l) (toLinkL l) := by
  unfold laws_toLinkS.f
  refine ev_pos (by omega) (ev_pos (by omega) ?_)
  exact laws_toLinkS_l0_ev l (by omega) l.length 0 (by omega)

-- toThing
/-! Thing: lists -/
def toThing1 (x : S118) : S93 := ⟨x.f0, x.f1, x.f2, x.f3⟩
def toThingL (l : List S118) : List S93 := l.map toThing1
theorem toThingL_len (l : List S118) : (toThingL l).length = l.length := by simp [toThingL]
theorem laws_toThingS_l0_ev (l : List S118) (hl : l.length ≤ 9223372036854775807) (d : Nat) : ∀ i : Nat, i + d = l.length →
    Ev (fun k => laws_toThingS.l0 k l ((toThingL l).take i ++ List.replicate d z93) i) (toThingL l) := by
  induction d with
  | zero =>
    intro i hi
    apply ev_succ
    simp only [laws_toThingS.l0]
    refine ev_neg (by omega) (ev_some ?_)
    rw [List.take_of_length_le (by rw [toThingL_len]; omega)]
    simp
  | succ d ih =>
    intro i hi
    have hr := ih (i + 1) (by omega)
    have hlt : i < (toThingL l).length := by rw [toThingL_len]; omega
    apply ev_succ
    simp only [laws_toThingS.l0, laws_toThing.f, Option.bind_some]
    have hset : ((toThingL l).take i ++ List.replicate (d + 1) z93).set ((i : Int).toNat) (⟨(rd_T118 l i).f0, (rd_T118 l i).f1, (rd_T118 l i).f2, (rd_T118 l i).f3⟩ : S93) = (toThingL l).take (i + 1) ++ List.replicate d z93 := by
      rw [List.replicate_succ, set_mid _ _ _ _ _ (by rw [List.length_take]; omega), List.take_succ_eq_append_getElem hlt]
      rw [List.append_assoc]
      congr 1
      simp only [List.singleton_append]
      congr 1
      have hli : i < l.length := by omega
      simp [toThingL, toThing1, rd_T118, List.getD_eq_getElem?_getD, hli]
    rw [hset, w64 (by omega) (by omega)]
    refine ev_pos (by omega) (ev_pos (by omega) (ev_pos ?_ hr))
    simp only [List.length_append, List.length_take, List.length_replicate, toThingL_len]
    omega
theorem laws_toThingS_ev (l : List S118) (hl : l.length ≤ 1048576) : Ev (fun k => laws_toThingS.f k l) (toThingL l) := by
  unfold laws_toThingS.f
  refine ev_pos (by omega) (ev_pos (by omega) ?_)
  exact laws_toThingS_l0_ev l (by omega) l.length 0 (by omega)

-- szLink
theorem laws_szLinkS_eq (l : List S116) (hl : l.length ≤ 9223372036854775807) (n : Int) (h0 : 0 ≤ n) (h1 : n ≤ 1048576) : laws_szLinkS.f l n = some (if n < (l.length : Int) then -1 else n - l.length) := by
  unfold laws_szLinkS.f
  rw [w64 (by omega) (by omega)]
  by_cases h : n < (l.length : Int)
  · rw [if_pos (by omega), if_pos h]
  · rw [if_neg (by omega), if_neg h]

-- szThing
theorem laws_szThingS_eq (l : List S118) (hl : l.length ≤ 9223372036854775807) (n : Int) (h0 : 0 ≤ n) (h1 : n ≤ 1048576) : laws_szThingS.f l n = some (if n < (l.length : Int) then -1 else n - l.length) := by
  unfold laws_szThingS.f
  rw [w64 (by omega) (by omega)]
  by_cases h : n < (l.length : Int)
  · rw [if_pos (by omega), if_pos h]
  · rw [if_neg (by omega), if_neg h]

-- eqLink
theorem laws_eqLink_refl (a b c d : Int) : laws_eqLink.f a b c d a b c d = some true := by
  unfold laws_eqLink.f
  simp
theorem laws_eqLinkS_l0_ev (l : List S75) (hl : l.length ≤ 9223372036854775807) (d : Nat) : ∀ i : Nat, i + d = l.length → Ev (fun k => laws_eqLinkS.l0 k l l i) true := by
  induction d with
  | zero =>
    intro i hi
    apply ev_succ
    simp only [laws_eqLinkS.l0]
    exact ev_neg (by omega) (Ev.now _)
  | succ d ih =>
    intro i hi
    apply ev_succ
    simp only [laws_eqLinkS.l0, laws_eqLink_refl, if_true, Option.bind_some]
    rw [w64 (by omega) (by omega)]
    exact ev_pos (by omega) (ev_pos (by omega) (ev_pos (by omega) (ih (i + 1) (by omega))))
theorem laws_eqLinkS_refl (l : List S75) (hl : l.length ≤ 9223372036854775807) : Ev (fun k => laws_eqLinkS.f k l l) true := by
  unfold laws_eqLinkS.f
  exact ev_pos rfl (laws_eqLinkS_l0_ev l hl l.length 0 (by omega))

-- eqThing
theorem laws_eqThing_refl (a b c : Int) (d : Bool) : laws_eqThing.f a b c d a b c d = some true := by
  unfold laws_eqThing.f
  simp
theorem laws_eqThingS_l0_ev (l : List S93) (hl : l.length ≤ 9223372036854775807) (d : Nat) : ∀ i : Nat, i + d = l.length → Ev (fun k => laws_eqThingS.l0 k l l i) true := by
  induction d with
  | zero =>
    intro i hi
    apply ev_succ
    simp only [laws_eqThingS.l0]
    exact ev_neg (by omega) (Ev.now _)
  | succ d ih =>
    intro i hi
    apply ev_succ
    simp only [laws_eqThingS.l0, laws_eqThing_refl, if_true, Option.bind_some]
    rw [w64 (by omega) (by omega)]
    exact ev_pos (by omega) (ev_pos (by omega) (ev_pos (by omega) (ih (i + 1) (by omega))))
theorem laws_eqThingS_refl (l : List S93) (hl : l.length ≤ 9223372036854775807) : Ev (fun k => laws_eqThingS.f k l l) true := by
  unfold laws_eqThingS.f
  exact ev_pos rfl (laws_eqThingS_l0_ev l hl l.length 0 (by omega))

-- net
theorem laws_toNet_ev (n : Int) (l : List S116) (m : List S118) (hl : l.length ≤ 1048576) (hm : m.length ≤ 1048576) : Ev (fun k => laws_toNet.f k n l m) (n, toLinkL l, toThingL m) := by
  unfold laws_toNet.f
  exact Ev.bind (laws_toLinkS_ev l hl) (Ev.bind (laws_toThingS_ev m hm) (Ev.now _))
theorem laws_eqNet_refl (n : Int) (l : List S75) (m : List S93) (hl : l.length ≤ 9223372036854775807) (hm : m.length ≤ 9223372036854775807) : Ev (fun k => laws_eqNet.f k n l m n l m) true := by
  unfold laws_eqNet.f
  exact ev_pos rfl (Ev.bind (laws_eqLinkS_refl l hl) (ev_pos rfl (Ev.bind (laws_eqThingS_refl m hm) (ev_pos rfl (Ev.now _)))))
theorem laws_szNet_cases (n : Int) (l : List S116) (m : List S118) (hl : l.length ≤ 9223372036854775807) (hm : m.length ≤ 9223372036854775807) (t : Int) (h0 : 0 ≤ t) (h1 : t ≤ 1048576) :
    laws_szNet.f n l m t = some (-1) ∨ (laws_szNet.f n l m t = some (t - l.length - m.length) ∧ (l.length : Int) + m.length ≤ t) := by
  unfold laws_szNet.f
  rw [laws_szLinkS_eq l hl t h0 h1, Option.bind_some]
  by_cases hc : t < (l.length : Int)
  · rw [if_pos hc, if_pos (by omega)]; exact .inl rfl
  · rw [if_neg hc, if_neg (by omega), laws_szThingS_eq m hm _ (by omega) (by omega), Option.bind_some]
    by_cases hd : t - (l.length : Int) < (m.length : Int)
    · rw [if_pos hd, if_pos (by omega)]; exact .inl rfl
    · rw [if_neg hd, if_neg (by omega)]; exact .inr ⟨rfl, by omega⟩

-- cost
/-- Is this the link? -/
def hitL (a b ar : Int) (x : S75) : Bool := decide (x.f3 = ar) && (decide (x.f0 = a ∧ x.f1 = b) || decide (x.f0 = b ∧ x.f1 = a))
theorem hitL_iff (a b ar : Int) (x : S75) : hitL a b ar x = true ↔ (x.f3 = ar ∧ (x.f0 = a ∧ x.f1 = b ∨ x.f0 = b ∧ x.f1 = a)) := by
  unfold hitL
  simp
def costGo (a b ar : Int) : List S75 → Int
  | [] => 0
  | x :: xs => if hitL a b ar x = true then x.f2 else costGo a b ar xs
def atGo (a b ar : Int) : List S75 → Int → Int
  | [], _ => -1
  | x :: xs, i => if hitL a b ar x = true then i else atGo a b ar xs (i + 1)
theorem atGo_cost (a b ar : Int) (xs : List S75) : ∀ i : Nat, (atGo a b ar xs i = -1 ∧ costGo a b ar xs = 0 ∧ ∀ x ∈ xs, hitL a b ar x = false) ∨ (∃ j : Nat, j < xs.length ∧ atGo a b ar xs i = i + j ∧ costGo a b ar xs = (xs.getD j z75).f2 ∧ hitL a b ar (xs.getD j z75) = true) := by
  induction xs with
  | nil => intro i; exact .inl ⟨rfl, rfl, by simp⟩
  | cons x xs ih =>
    intro i
    by_cases h : hitL a b ar x = true
    · refine .inr ⟨0, by simp, ?_, ?_, ?_⟩
      · rw [atGo, if_pos h]; omega
      · rw [costGo, if_pos h]; rfl
      · exact h
    · rw [atGo, costGo, if_neg h, if_neg h]
      rcases ih (i + 1) with ⟨h1, h2, h3⟩ | ⟨j, h1, h2, h3, h4⟩
      · refine .inl ⟨h1, h2, fun y hy => ?_⟩
        rcases List.mem_cons.1 hy with rfl | hy
        · simpa using h
        · exact h3 y hy
      · refine .inr ⟨j + 1, by simp only [List.length_cons]; omega, ?_, ?_, ?_⟩
        · have h2' : atGo a b ar xs ((i : Int) + 1) = ((i + 1 : Nat) : Int) + j := h2
          rw [h2']; omega
        · rw [h3]; rfl
        · exact h4

-- spec_CostTo
theorem spec_CostTo_l0_ev (a b ar n : Int) (l : List S75) (m : List S93) (hl : l.length ≤ 9223372036854775807) (d : Nat) : ∀ i : Nat, i + d = l.length →
    Ev (fun k => spec_CostTo.l0 k a b ar i n l m) (costGo a b ar (l.drop i)) := by
  induction d with
  | zero =>
    intro i hi
    rw [List.drop_eq_nil_of_le (by omega)]
    apply ev_succ
    simp only [spec_CostTo.l0]
    exact ev_neg (by omega) (ev_some rfl)
  | succ d ih =>
    intro i hi
    have hr := ih (i + 1) (by omega)
    obtain ⟨x, hx⟩ : ∃ x, rd_T75 l (i : Int) = x := ⟨_, rfl⟩
    have hx2 : l.getD i z75 = x := hx
    rw [drop_at l z75 i (by omega), hx2]
    apply ev_succ
    simp only [spec_CostTo.l0, hx]
    rw [w64 (by omega) (by omega), costGo]
    refine ev_pos (by omega) (ev_pos (by omega) ?_)
    have yes : hitL a b ar x = true → x.f2 = (if hitL a b ar x = true then x.f2 else costGo a b ar (l.drop (i + 1))) := fun h => by rw [if_pos h]
    have no : ¬ hitL a b ar x = true → costGo a b ar (l.drop (i + 1)) = (if hitL a b ar x = true then x.f2 else costGo a b ar (l.drop (i + 1))) := fun h => by rw [if_neg h]
    repeat' (first | refine ev_ite (fun h => ?_) (fun h => ?_))
    all_goals (first | exact ev_some (yes ((hitL_iff a b ar x).2 (by omega))) | exact ev_to hr (no (fun hh => by have := (hitL_iff a b ar x).1 hh; omega)))
theorem spec_CostTo_ev (n : Int) (l : List S75) (m : List S93) (a b ar : Int) (hl : l.length ≤ 9223372036854775807) : Ev (fun k => spec_CostTo.f k n l m a b ar) (costGo a b ar l) :=
  spec_CostTo_l0_ev a b ar n l m hl l.length 0 (by omega)

-- impl_linkAt
theorem impl_linkAt_l0_ev (a b ar : Int) (l : List S75) (hl : l.length ≤ 9223372036854775807) (d : Nat) : ∀ i : Nat, i + d = l.length →
    Ev (fun k => impl_linkAt.l0 k a b ar l (l.length : Int) i) (atGo a b ar (l.drop i) i) := by
  induction d with
  | zero =>
    intro i hi
    rw [List.drop_eq_nil_of_le (by omega)]
    apply ev_succ
    simp only [impl_linkAt.l0]
    exact ev_neg (by omega) (ev_some rfl)
  | succ d ih =>
    intro i hi
    have hr : Ev (fun k => impl_linkAt.l0 k a b ar l (l.length : Int) ((i : Int) + 1)) (atGo a b ar (l.drop (i + 1)) ((i : Int) + 1)) := ih (i + 1) (by omega)
    obtain ⟨x, hx⟩ : ∃ x, rd_T75 l (i : Int) = x := ⟨_, rfl⟩
    have hx2 : l.getD i z75 = x := hx
    rw [drop_at l z75 i (by omega), hx2]
    apply ev_succ
    simp only [impl_linkAt.l0, hx]
    rw [w64 (by omega) (by omega), atGo]
    refine ev_pos (by omega) (ev_pos (by omega) (ev_pos (by omega) ?_))
    have yes : hitL a b ar x = true → (i : Int) = (if hitL a b ar x = true then (i : Int) else atGo a b ar (l.drop (i + 1)) ((i : Int) + 1)) := fun h => by rw [if_pos h]
    have no : ¬ hitL a b ar x = true → atGo a b ar (l.drop (i + 1)) ((i : Int) + 1) = (if hitL a b ar x = true then (i : Int) else atGo a b ar (l.drop (i + 1)) ((i : Int) + 1)) := fun h => by rw [if_neg h]
    repeat' (first | refine ev_ite (fun h => ?_) (fun h => ?_))
    all_goals (first | exact ev_some (yes ((hitL_iff a b ar x).2 (by omega))) | exact ev_to hr (no (fun hh => by have := (hitL_iff a b ar x).1 hh; omega)))
theorem impl_linkAt_ev (n : Int) (l : List S75) (m : List S93) (a b ar : Int) (hl : l.length ≤ 9223372036854775807) : Ev (fun k => impl_linkAt.f k n l m a b ar) (atGo a b ar l 0) :=
  impl_linkAt_l0_ev a b ar l hl l.length 0 (by omega)

-- impl_CostTo
theorem impl_CostTo_ev (n : Int) (l : List S75) (m : List S93) (a b ar : Int) (hl : l.length ≤ 9223372036854775807) : Ev (fun k => impl_CostTo.f k n l m a b ar) (costGo a b ar l) := by
  unfold impl_CostTo.f
  refine Ev.bind (impl_linkAt_ev n l m a b ar hl) ?_
  rcases atGo_cost a b ar l 0 with ⟨h1, h2, _⟩ | ⟨j, h1, h2, h3, _⟩
  · have h1' : atGo a b ar l 0 = -1 := h1
    rw [h1', h2]
    exact ev_neg (by omega) (Ev.now _)
  · have h2' : atGo a b ar l 0 = (j : Int) := by have h := h2; simp only [Int.natCast_zero, Int.zero_add] at h; exact h
    rw [h2', h3]
    exact ev_pos (by omega) (ev_pos (by omega) (ev_pos (by omega) (Ev.now _)))

-- FnExactCostTo
theorem FnExactCostTo : ∀ (a0_0 : Int) (l0_1 : List (S116)) (l0_2 : List (S118)) (a1 : Int) (a2 : Int) (a3 : Int), (l0_1.length ≤ 9223372036854775807) → (l0_2.length ≤ 9223372036854775807) → ∃ k, laws_FnExactCostTo.f k a0_0 l0_1 l0_2 a1 a2 a3 = some true := by
  intro n l m a b c hl hm
  refine ev_ex ?_
  unfold laws_FnExactCostTo.f
  rcases laws_szNet_cases n l m hl hm 1048576 (by omega) (by omega) with h | ⟨h, h2⟩
  · rw [h]; simp only [Option.bind_some]; exact ev_pos (by omega) (Ev.now _)
  · rw [h]
    simp only [Option.bind_some]
    refine ev_neg (by omega) ?_
    have T := laws_toNet_ev n l m (by omega) (by omega)
    have hl2 : (toLinkL l).length ≤ 9223372036854775807 := by rw [toLinkL_len]; exact hl
    have hm2 : (toThingL m).length ≤ 9223372036854775807 := by rw [toThingL_len]; exact hm
    refine Ev.bind T (Ev.bind (spec_CostTo_ev n _ _ a b c hl2) (Ev.bind T (Ev.bind (impl_CostTo_ev n _ _ a b c hl2) ?_)))
    refine ev_pos rfl (Ev.bind T (Ev.bind (laws_eqNet_refl n _ _ hl2 hm2) ?_))
    exact ev_pos rfl (Ev.now _)

end Go.Proofs.Ytjkjhaiemephdab.Pure
