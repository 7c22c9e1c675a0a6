/- Proved: for every list of ways and place that the row lets in, the law FnExactWayTo returns true; there are no other conditions. -/
import Derived.Test.YtjkjhaiemephdaaQlawsFnExactWayTo
set_option linter.unusedVariables false
set_option linter.unusedSimpArgs false
namespace Go.Proofs.Ytjkjhaiemephdaa.Pure
open Go.RowKit Go.Proofs.Ytjkjhaiemephdaa.Q Go.Proofs.YtjkjhaiemephdaaW.PrintWords Go.Proofs.YtjkjhaiemephdaaW.PrintLast

-- base
theorem w64 {x : Int} (h0 : -9223372036854775808 ≤ x) (h1 : x ≤ 9223372036854775807) : wrap64 x = x := by unfold wrap64; omega
theorem bt_b (s : ByteArray) (i : Int) : 0 ≤ bt s i ∧ bt s i < 256 := by have := bt_range s i; omega
theorem wbt (s : ByteArray) (i : Int) : wrap64 (bt s i) = bt s i := by have := bt_range s i; exact w64 (by omega) (by omega)
theorem tmodp {x m : Int} (h : 0 ≤ x) : Int.tmod x m = x % m := Int.tmod_eq_emod_of_nonneg h
theorem tdivp {x m : Int} (h : 0 ≤ x) : Int.tdiv x m = x / m := Int.tdiv_eq_ediv_of_nonneg h
/-- The bytes of a text, as numbers. -/
def B (s : ByteArray) : List Int := s.data.toList.map fun u => (u.toNat : Int)
def Byt (xs : List Int) : Prop := ∀ x ∈ xs, 0 ≤ x ∧ x < 256
theorem B_len (s : ByteArray) : (B s).length = s.size := by simp [B]
theorem B_byt (s : ByteArray) : Byt (B s) := by
  intro x hx
  obtain ⟨u, _, rfl⟩ := List.mem_map.1 hx
  have := u.toNat_lt
  omega
theorem B_str (xs : List Int) (h : Byt xs) : B (strOfNums xs) = xs := by
  simp only [B, strOfNums, List.map_map]
  conv => rhs; rw [← List.map_id xs]
  apply List.map_congr_left
  intro x hx
  have := h x hx
  simp only [Function.comp, UInt8.toNat_ofNat', id]
  omega
theorem str_B (s : ByteArray) : strOfNums (B s) = s := by
  apply Go.WideShapes.bytes_inj
  simp only [B, strOfNums, List.map_map]
  conv => rhs; rw [← List.map_id s.data.toList]
  apply List.map_congr_left
  intro x hx
  simp [Function.comp]
theorem B_inj {s t : ByteArray} (h : B s = B t) : s = t := by rw [← str_B s, ← str_B t, h]
theorem B_append (s t : ByteArray) : B (s ++ t) = B s ++ B t := by simp [B, ByteArray.data_append]
theorem B_extract (s : ByteArray) (a b : Nat) : B (s.extract a b) = ((B s).take b).drop a := by
  simp only [B, ByteArray.data_extract, Array.toList_extract, List.extract_eq_take_drop]
  rw [← List.map_take, ← List.map_drop, List.drop_take]
theorem B_bt (s : ByteArray) (i : Nat) (h : i < s.size) : (B s)[i]? = some (bt s i) := by
  have h' : i < s.data.toList.length := by rw [Array.length_toList]; exact h
  rw [B, List.getElem?_map, List.getElem?_eq_getElem h']
  simp [bt, h, ByteArray.getElem_eq_getElem_data]
theorem B_nil : B (⟨#[]⟩ : ByteArray) = [] := rfl
theorem tl_iff (s t : ByteArray) : s.toList = t.toList ↔ B s = B t := by
  rw [ByteArray.toList_eq, ByteArray.toList_eq]
  constructor
  · intro h; simp [B, h]
  · intro h; rw [B_inj h]
theorem byt_app {xs ys : List Int} (h : Byt xs) (k : Byt ys) : Byt (xs ++ ys) := by
  intro x hx
  rcases List.mem_append.1 hx with hx | hx
  · exact h x hx
  · exact k x hx
theorem wf_u32 {x : Int} (h : (Lit.int .u32 x).wf = true) : 0 ≤ x ∧ x < 4294967296 := by
  simp only [Lit.wf, IntKind.min, IntKind.max, IntKind.signed, IntKind.bits, Bool.and_eq_true, decide_eq_true_eq] at h
  simp at h
  omega
theorem wf_i64 {x : Int} (h : (Lit.int .i64 x).wf = true) : -9223372036854775808 ≤ x ∧ x ≤ 9223372036854775807 := by
  simp only [Lit.wf, IntKind.min, IntKind.max, IntKind.signed, IntKind.bits, Bool.and_eq_true, decide_eq_true_eq] at h
  simp at h
  omega
theorem ev_ex {α : Type} {g : Nat → Option α} {r : α} (h : Ev g r) : ∃ k, g k = some r := h.rounds

-- evtools
theorem ev_ite {α : Type} {c : Prop} [Decidable c] {g f : Nat → Option α} {r : α} (h : c → Ev g r) (k : ¬ c → Ev f r) : Ev (fun n => if c then g n else f n) r := by
  by_cases hc : c
  · exact Ev.congr (fun n => by rw [if_pos hc]) (h hc)
  · exact Ev.congr (fun n => by rw [if_neg hc]) (k hc)
theorem ev_pos {α : Type} {c : Prop} [Decidable c] {g f : Nat → Option α} {r : α} (hc : c) (h : Ev g r) : Ev (fun n => if c then g n else f n) r := Ev.congr (fun n => by rw [if_pos hc]) h
theorem ev_neg {α : Type} {c : Prop} [Decidable c] {g f : Nat → Option α} {r : α} (hc : ¬ c) (h : Ev f r) : Ev (fun n => if c then g n else f n) r := Ev.congr (fun n => by rw [if_neg hc]) h
theorem ev_some {α : Type} {x r : α} (h : x = r) : Ev (fun _ => some x) r := by rw [h]; exact Ev.now _
theorem ev_eq {α : Type} {x : Option α} {r : α} (h : x = some r) : Ev (fun _ => x) r := by rw [h]; exact Ev.now _
theorem ev_succ {α : Type} {g : Nat → Option α} {r : α} (h : Ev (fun k => g (k + 1)) r) : Ev g r := Ev.step (fun _ => rfl) h
theorem ev_to {α : Type} {g : Nat → Option α} {r r' : α} (h : Ev g r) (e : r = r') : Ev g r' := e ▸ h

-- lists
theorem set_mid {α : Type} (p : List α) (x y : α) (r : List α) (i : Nat) (h : p.length = i) : (p ++ x :: r).set i y = p ++ y :: r := by
  subst h
  simp
theorem drop_at {α : Type} (l : List α) (z : α) (i : Nat) (h : i < l.length) : l.drop i = l.getD i z :: l.drop (i + 1) := by
  rw [List.drop_eq_getElem_cons h, List.getD_eq_getElem?_getD, List.getElem?_eq_getElem h]
  rfl
theorem sz_left {n : Int} {len : Nat} {t : Int} (ht : t = if n < (len : Int) then -1 else n - len) (h : ¬ t < 0) (hn : n ≤ 1048576) (hn0 : 0 ≤ n) : len ≤ 1048576 ∧ 0 ≤ t ∧ t ≤ 1048576 ∧ t = n - len := by
  by_cases hc : n < (len : Int)
  · rw [if_pos hc] at ht; omega
  · rw [if_neg hc] at ht; omega

-- ints
theorem laws_szIntS_eq (l : List Int) (hl : l.length ≤ 9223372036854775807) (n : Int) (h0 : 0 ≤ n) (h1 : n ≤ 1048576) : laws_szIntS.f l n = some (if n < (l.length : Int) then -1 else n - l.length) := by
  unfold laws_szIntS.f
  rw [w64 (by omega) (by omega)]
  by_cases h : n < (l.length : Int)
  · rw [if_pos (by omega), if_pos h]
  · rw [if_neg (by omega), if_neg h]
theorem laws_toIntS_l0_ev (l : List Int) (hl : l.length ≤ 9223372036854775807) (d : Nat) : ∀ i : Nat, i + d = l.length →
    Ev (fun k => laws_toIntS.l0 k l (l.take i ++ List.replicate d 0) i) l := by
  induction d with
  | zero =>
    intro i hi
    apply ev_succ
    simp only [laws_toIntS.l0]
    refine ev_neg (by omega) (ev_some ?_)
    rw [List.take_of_length_le (by omega)]
    simp
  | succ d ih =>
    intro i hi
    have hr := ih (i + 1) (by omega)
    have hlt : i < l.length := by omega
    apply ev_succ
    simp only [laws_toIntS.l0]
    have hset : (l.take i ++ List.replicate (d + 1) (0 : Int)).set ((i : Int).toNat) (rd l i) = l.take (i + 1) ++ List.replicate d 0 := by
      rw [List.replicate_succ, set_mid _ _ _ _ _ (by rw [List.length_take]; omega), List.take_succ_eq_append_getElem hlt, List.append_assoc]
      simp [rd, List.getD_eq_getElem?_getD, hlt]
    rw [hset, w64 (by omega) (by omega)]
    refine ev_pos (by omega) (ev_pos (by omega) (ev_pos ?_ hr))
    simp only [List.length_append, List.length_take, List.length_replicate]
    omega
theorem laws_toIntS_ev (l : List Int) (hl : l.length ≤ 1048576) : Ev (fun k => laws_toIntS.f k l) l := by
  unfold laws_toIntS.f
  exact ev_pos (by omega) (ev_pos (by omega) (laws_toIntS_l0_ev l (by omega) l.length 0 (by omega)))
theorem laws_eqIntS_l0_ev (l : List Int) (hl : l.length ≤ 9223372036854775807) (d : Nat) : ∀ i : Nat, i + d = l.length → Ev (fun k => laws_eqIntS.l0 k l l i) true := by
  induction d with
  | zero =>
    intro i hi
    apply ev_succ
    simp only [laws_eqIntS.l0]
    exact ev_neg (by omega) (Ev.now _)
  | succ d ih =>
    intro i hi
    apply ev_succ
    simp only [laws_eqIntS.l0, if_true]
    rw [w64 (by omega) (by omega)]
    exact ev_pos (by omega) (ev_pos (by omega) (ev_pos (by omega) (ih (i + 1) (by omega))))
theorem laws_eqIntS_refl (l : List Int) (hl : l.length ≤ 9223372036854775807) : Ev (fun k => laws_eqIntS.f k l l) true := by
  unfold laws_eqIntS.f
  exact ev_pos rfl (laws_eqIntS_l0_ev l hl l.length 0 (by omega))

-- way
theorem laws_szWay_eq (a b : Int) (l : List Int) (hl : l.length ≤ 9223372036854775807) (n : Int) (h0 : 0 ≤ n) (h1 : n ≤ 1048576) : laws_szWay.f a b l n = some (if n < (l.length : Int) then -1 else n - l.length) := by
  unfold laws_szWay.f
  rw [laws_szIntS_eq l hl n h0 h1, Option.bind_some]
  by_cases h : n < (l.length : Int)
  · rw [if_pos h, if_pos (by omega)]
  · rw [if_neg h, if_neg (by omega)]
theorem laws_toWay_ev (a b : Int) (l : List Int) (hl : l.length ≤ 1048576) : Ev (fun k => laws_toWay.f k a b l) (a, b, l) := by
  unfold laws_toWay.f
  exact Ev.bind (laws_toIntS_ev l hl) (Ev.now _)
theorem laws_eqWay_refl (a b : Int) (l : List Int) (hl : l.length ≤ 9223372036854775807) : Ev (fun k => laws_eqWay.f k a b l a b l) true := by
  unfold laws_eqWay.f
  refine ev_pos rfl (ev_pos rfl (Ev.bind (laws_eqIntS_refl l hl) ?_))
  exact ev_pos rfl (Ev.now _)

-- markInt
/-- Numbers from m on, as many as l has. -/
def markI : List Int → Int → List Int
  | [], _ => []
  | _ :: xs, m => m :: markI xs (m + 1)
theorem rd_midI {α : Type} (p : List α) (x z : α) (r : List α) (i : Nat) (h : p.length = i) : (p ++ x :: r).getD i z = x := by
  subst h
  simp
theorem laws_markIntS_l0 (xs : List Int) : ∀ (p : List Int) (m : Int) (i : Nat), p.length = i → 0 ≤ m → m + (xs.length : Int) ≤ 4611686018427387904 → (i : Int) + xs.length ≤ 4611686018427387904 →
    Ev (fun k => laws_markIntS.l0 k (p ++ xs) m i) (m + (xs.length : Int), p ++ markI xs m) := by
  induction xs with
  | nil =>
    intro p m i hp h0 h1 h2
    apply ev_succ
    simp only [laws_markIntS.l0]
    exact ev_neg (by simp; omega) (ev_some (by simp [markI]))
  | cons x xs ih =>
    intro p m i hp h0 h1 h2
    simp only [List.length_cons] at h1 h2
    have hr := ih (p ++ [m]) (m + 1) (i + 1) (by simp [hp]) (by omega) (by omega) (by omega)
    apply ev_succ
    simp only [laws_markIntS.l0]
    refine ev_pos (by simp; omega) (ev_pos (by omega) ?_)
    rw [w64 (x := m + 1) (by omega) (by omega), w64 (x := (i : Int) + 1) (by omega) (by omega), Int.toNat_natCast, set_mid _ _ _ _ i hp]
    have e : p ++ [m] ++ xs = p ++ m :: xs := by simp
    rw [e] at hr
    refine ev_to hr ?_
    simp only [markI, List.append_assoc, List.cons_append, List.nil_append, List.length_cons, Prod.mk.injEq, and_true]
    push_cast
    omega
theorem laws_markIntS_ev (l : List Int) (m : Int) (h0 : 0 ≤ m) (h1 : m + (l.length : Int) ≤ 4611686018427387904) :
    Ev (fun k => laws_markIntS.f k l m) (m + (l.length : Int), markI l m) := laws_markIntS_l0 l [] m 0 rfl h0 h1 (by omega)
theorem laws_heldIntS_l0 (xs : List Int) : ∀ (p : List Int) (m : Int) (i : Nat), p.length = i → 0 ≤ m → m + (xs.length : Int) ≤ 4611686018427387904 → (i : Int) + xs.length ≤ 4611686018427387904 →
    Ev (fun k => laws_heldIntS.l0 k (p ++ markI xs m) m i) (m + (xs.length : Int)) := by
  induction xs with
  | nil =>
    intro p m i hp h0 h1 h2
    apply ev_succ
    simp only [laws_heldIntS.l0]
    exact ev_neg (by simp [markI]; omega) (ev_some (by simp))
  | cons x xs ih =>
    intro p m i hp h0 h1 h2
    simp only [List.length_cons] at h1 h2
    have hr := ih (p ++ [m]) (m + 1) (i + 1) (by simp [hp]) (by omega) (by omega) (by omega)
    have hrd : rd (p ++ m :: markI xs (m + 1)) (i : Int) = m := rd_midI p _ _ _ i hp
    apply ev_succ
    simp only [laws_heldIntS.l0, markI, hrd]
    refine ev_pos (by simp; omega) (ev_pos (by omega) (ev_pos (by trivial) ?_))
    rw [w64 (x := m + 1) (by omega) (by omega), w64 (x := (i : Int) + 1) (by omega) (by omega)]
    have e : p ++ [m] ++ markI xs (m + 1) = p ++ m :: markI xs (m + 1) := by simp
    rw [e] at hr
    refine ev_to hr ?_
    simp only [List.length_cons]
    push_cast
    omega
theorem laws_heldIntS_ev (l : List Int) (m : Int) (h0 : 0 ≤ m) (h1 : m + (l.length : Int) ≤ 4611686018427387904) :
    Ev (fun k => laws_heldIntS.f k (markI l m) m) (m + (l.length : Int)) := laws_heldIntS_l0 l [] m 0 rfl h0 h1 (by omega)

-- ways
def toWay1 (x : S24) : S27 := ⟨x.f0, x.f1, x.f2⟩
def toWayL (l : List S24) : List S27 := l.map toWay1
theorem toWayL_len (l : List S24) : (toWayL l).length = l.length := by simp [toWayL]
def SmallWay (s : List S27) : Prop := s.length ≤ 1048576 ∧ ∀ x ∈ s, x.f2.length ≤ 1048576
theorem toWayL_small (l : List S24) (hl : l.length ≤ 1048576) (hx : ∀ x ∈ l, x.f2.length ≤ 1048576) : SmallWay (toWayL l) := by
  refine ⟨by rw [toWayL_len]; omega, fun x h => ?_⟩
  obtain ⟨y, hy, rfl⟩ := List.mem_map.1 h
  exact hx y hy
theorem getD_memWay {α : Type} (l : List α) (z : α) (i : Nat) (h : i < l.length) : l.getD i z ∈ l := by
  rw [List.getD_eq_getElem?_getD, List.getElem?_eq_getElem h]
  exact List.getElem_mem h
theorem laws_toWayS_l0_ev (l : List S24) (hl : l.length ≤ 9223372036854775000) (hx : ∀ x ∈ l, x.f2.length ≤ 1048576) (d : Nat) : ∀ i : Nat, i + d = l.length →
    Ev (fun k => laws_toWayS.l0 k l ((toWayL l).take i ++ List.replicate d z27) i) (toWayL l) := by
  induction d with
  | zero =>
    intro i hi
    apply ev_succ
    simp only [laws_toWayS.l0]
    refine ev_neg (by omega) (ev_some ?_)
    rw [List.take_of_length_le (by rw [toWayL_len]; omega)]
    simp
  | succ d ih =>
    intro i hi
    have hr := ih (i + 1) (by omega)
    have hli : i < l.length := by omega
    have hlt : i < (toWayL l).length := by rw [toWayL_len]; omega
    obtain ⟨x, hxe⟩ : ∃ x, rd_T24 l (i : Int) = x := ⟨_, rfl⟩
    have hx2 : l.getD i z24 = x := hxe
    have hm : x ∈ l := by rw [← hx2]; exact getD_memWay l _ i hli
    apply ev_succ
    simp only [laws_toWayS.l0, hxe]
    have hset : ((toWayL l).take i ++ List.replicate (d + 1) z27).set ((i : Int).toNat) (toWay1 x) = (toWayL l).take (i + 1) ++ List.replicate d z27 := by
      rw [List.replicate_succ, set_mid _ _ _ _ _ (by rw [List.length_take]; omega), List.take_succ_eq_append_getElem hlt]
      rw [List.append_assoc]
      congr 1
      simp only [List.singleton_append]
      congr 1
      rw [← hx2]
      simp [toWayL, List.getD_eq_getElem?_getD, hli]
    refine ev_pos (by omega) (ev_pos (by omega) (Ev.bind (laws_toWay_ev x.f0 x.f1 x.f2 (hx x hm)) (ev_pos ?_ ?_)))
    · simp only [List.length_append, List.length_take, List.length_replicate, toWayL_len]
      omega
    · have hset' : ((toWayL l).take i ++ List.replicate (d + 1) z27).set ((i : Int).toNat) (⟨x.f0, x.f1, x.f2⟩ : S27) = (toWayL l).take (i + 1) ++ List.replicate d z27 := hset
      simp only [hset']
      rw [w64 (by omega) (by omega)]
      exact hr
theorem laws_toWayS_ev (l : List S24) (hl : l.length ≤ 1048576) (hx : ∀ x ∈ l, x.f2.length ≤ 1048576) : Ev (fun k => laws_toWayS.f k l) (toWayL l) := by
  unfold laws_toWayS.f
  refine ev_pos (by omega) (ev_pos (by omega) ?_)
  exact laws_toWayS_l0_ev l (by omega) hx l.length 0 (by omega)
theorem laws_szWayS_l0 (l : List S24) (hl : l.length ≤ 9223372036854775000) (hx : ∀ x ∈ l, x.f2.length ≤ 9223372036854775807) (d : Nat) : ∀ (i : Nat) (n : Int), i + d = l.length → 0 ≤ n → n ≤ 1048576 →
    (Ev (fun k => laws_szWayS.l0 k l n i) (-1)) ∨ (∃ t, Ev (fun k => laws_szWayS.l0 k l n i) t ∧ 0 ≤ t ∧ t ≤ n ∧ ∀ x ∈ l.drop i, x.f2.length ≤ 1048576) := by
  induction d with
  | zero =>
    intro i n hi h0 h1
    refine .inr ⟨n, ?_, h0, by omega, by rw [List.drop_eq_nil_of_le (by omega)]; simp⟩
    apply ev_succ
    simp only [laws_szWayS.l0]
    exact ev_neg (by omega) (Ev.now _)
  | succ d ih =>
    intro i n hi h0 h1
    have hli : i < l.length := by omega
    obtain ⟨x, hxe⟩ : ∃ x, rd_T24 l (i : Int) = x := ⟨_, rfl⟩
    have hx2 : l.getD i z24 = x := hxe
    have hm : x ∈ l := by rw [← hx2]; exact getD_memWay l _ i hli
    have key : ∀ r, (n < (x.f2.length : Int) → r = -1) → (¬ n < (x.f2.length : Int) → Ev (fun k => laws_szWayS.l0 k l (n - x.f2.length) ((i : Int) + 1)) r) → Ev (fun k => laws_szWayS.l0 k l n i) r := by
      intro r ha hb
      apply ev_succ
      simp only [laws_szWayS.l0, hxe]
      rw [laws_szWay_eq x.f0 x.f1 x.f2 (hx x hm) n h0 h1, w64 (by omega) (by omega)]
      simp only [Option.bind_some]
      refine ev_pos (by omega) (ev_pos (by omega) ?_)
      by_cases hc : n < (x.f2.length : Int)
      · rw [if_pos hc]
        rw [ha hc]
        exact ev_pos (by omega) (Ev.now _)
      · rw [if_neg hc]
        exact ev_neg (by omega) (hb hc)
    by_cases hc : n < (x.f2.length : Int)
    · exact .inl (key _ (fun _ => rfl) (fun h => absurd hc h))
    · rcases ih (i + 1) (n - x.f2.length) (by omega) (by omega) (by omega) with h | ⟨t, h, h2, h3, h4⟩
      · exact .inl (key _ (fun h => absurd h hc) (fun _ => h))
      · refine .inr ⟨t, key _ (fun h => absurd h hc) (fun _ => h), h2, by omega, fun y hy => ?_⟩
        rw [drop_at l z24 i hli, hx2] at hy
        rcases List.mem_cons.1 hy with rfl | hy
        · omega
        · exact h4 y hy
theorem laws_szWayS_cases (l : List S24) (hl : l.length ≤ 9223372036854775807) (hx : ∀ x ∈ l, x.f2.length ≤ 9223372036854775807) (n : Int) (h0 : 0 ≤ n) (h1 : n ≤ 1048576) :
    (Ev (fun k => laws_szWayS.f k l n) (-1)) ∨ (∃ t, Ev (fun k => laws_szWayS.f k l n) t ∧ 0 ≤ t ∧ t ≤ n ∧ l.length ≤ 1048576 ∧ ∀ x ∈ l, x.f2.length ≤ 1048576) := by
  unfold laws_szWayS.f
  rw [w64 (by omega) (by omega)]
  by_cases hc : n < (l.length : Int)
  · exact .inl (ev_pos (by omega) (Ev.now _))
  · rcases laws_szWayS_l0 l (by omega) hx l.length 0 (n - l.length) (by omega) (by omega) (by omega) with h | ⟨t, h, h2, h3, h4⟩
    · exact .inl (ev_neg (by omega) h)
    · exact .inr ⟨t, ev_neg (by omega) h, h2, by omega, by omega, fun x hm => h4 x (by simpa using hm)⟩
theorem laws_eqWayS_l0_ev (l : List S27) (hl : SmallWay l) (d : Nat) : ∀ i : Nat, i + d = l.length → Ev (fun k => laws_eqWayS.l0 k l l i) true := by
  induction d with
  | zero =>
    intro i hi
    apply ev_succ
    simp only [laws_eqWayS.l0]
    exact ev_neg (by omega) (Ev.now _)
  | succ d ih =>
    intro i hi
    have h1 := hl.1
    obtain ⟨x, hxe⟩ : ∃ x, rd_T27 l (i : Int) = x := ⟨_, rfl⟩
    have hx2 : l.getD i z27 = x := hxe
    have hm : x ∈ l := by rw [← hx2]; exact getD_memWay l _ i (by omega)
    have h2 := hl.2 x hm
    apply ev_succ
    simp only [laws_eqWayS.l0, hxe]
    rw [w64 (by omega) (by omega)]
    refine ev_pos (by omega) (ev_pos (by omega) (ev_pos (by omega) (Ev.bind (laws_eqWay_refl _ _ _ (by omega)) (ev_pos rfl (ih (i + 1) (by omega))))))
theorem laws_eqWayS_refl (l : List S27) (hl : SmallWay l) : Ev (fun k => laws_eqWayS.f k l l) true := by
  unfold laws_eqWayS.f
  exact ev_pos rfl (laws_eqWayS_l0_ev l hl l.length 0 (by omega))
def endWay : List S27 → Int → Int
  | [], m => m
  | x :: xs, m => endWay xs (m + 2 + (x.f2.length : Int))
theorem endWay_ge (xs : List S27) : ∀ m, m ≤ endWay xs m := by
  induction xs with
  | nil => intro m; exact Int.le_refl _
  | cons x xs ih => intro m; have := ih (m + 2 + (x.f2.length : Int)); simp only [endWay]; omega
theorem endWay_le (xs : List S27) : ∀ m, (∀ x ∈ xs, x.f2.length ≤ 1048576) → endWay xs m ≤ m + 1048586 * (xs.length : Int) := by
  induction xs with
  | nil => intro m _; simp [endWay]
  | cons x xs ih =>
    intro m h
    have h1 := h x (by simp)
    have := ih (m + 2 + (x.f2.length : Int)) (fun y hy => h y (by simp [hy]))
    simp only [endWay, List.length_cons]
    push_cast
    omega
theorem rd_midWay {α : Type} (p : List α) (x z : α) (r : List α) (i : Nat) (h : p.length = i) : (p ++ x :: r).getD i z = x := by
  subst h
  simp
theorem laws_markWayS_l0 (xs : List S27) : ∀ (p : List S27) (m : Int) (i : Nat), p.length = i → 0 ≤ m → endWay xs m ≤ 4611686018427387000 → (i : Int) + xs.length ≤ 4611686018427387904 →
    ∃ q, Ev (fun k => laws_markWayS.l0 k (p ++ xs) m i) (endWay xs m, q) := by
  induction xs with
  | nil =>
    intro p m i hp h0 h1 h2
    refine ⟨p, ?_⟩
    apply ev_succ
    simp only [laws_markWayS.l0]
    exact ev_neg (by simp; omega) (ev_some (by simp [endWay]))
  | cons x xs ih =>
    intro p m i hp h0 h1 h2
    simp only [List.length_cons, endWay] at h1 h2
    have hg := endWay_ge xs (m + 2 + (x.f2.length : Int))
    have hrd : rd_T27 (p ++ x :: xs) (i : Int) = x := rd_midWay p _ _ xs i hp
    have hw1 : wrap64 (m + 1) = m + 1 := by rw [w64 (by omega) (by omega)]
    have hw2 : wrap64 (m + 1 + 1) = m + 2 := by rw [w64 (by omega) (by omega)]; omega
    obtain ⟨q, hr⟩ := ih (p ++ [⟨m, m + 1, markI x.f2 (m + 2)⟩]) (m + 2 + (x.f2.length : Int)) (i + 1) (by simp [hp]) (by omega) h1 (by omega)
    refine ⟨q, ?_⟩
    apply ev_succ
    simp only [laws_markWayS.l0, hrd, hw1, hw2]
    refine ev_pos (by simp; omega) (ev_pos (by omega) (Ev.bind (laws_markIntS_ev x.f2 (m + 2) (by omega) (by omega)) ?_))
    simp only
    rw [w64 (x := (i : Int) + 1) (by omega) (by omega), Int.toNat_natCast, set_mid _ _ _ _ i hp]
    simp only [List.append_assoc, List.cons_append, List.nil_append] at hr
    exact ev_to hr rfl
theorem laws_markWayS_ev (l : List S27) (m : Int) (hs : SmallWay l) (h0 : 0 ≤ m) (h1 : m ≤ 1000000000000000) :
    ∃ q, Ev (fun k => laws_markWayS.f k l m) (endWay l m, q) := laws_markWayS_l0 l [] m 0 rfl h0 (by have := endWay_le l m hs.2; have := hs.1; omega) (by have := hs.1; omega)

-- FnExactWayTo
def wayGo (tt : Int) : List S27 → Int × Int × List Int × Bool
  | [] => (0, 0, [], false)
  | x :: xs => if x.f0 = tt then (x.f0, x.f1, x.f2, true) else wayGo tt xs
theorem wayGo_len (tt : Int) (l : List S27) (h : ∀ x ∈ l, x.f2.length ≤ 1048576) : (wayGo tt l).2.2.1.length ≤ 1048576 := by
  induction l with
  | nil => simp [wayGo]
  | cons x l ih =>
    have h1 := h x (by simp)
    have h2 := ih (fun y hy => h y (by simp [hy]))
    simp only [wayGo]
    split
    · exact h1
    · exact h2
theorem impl_WayTo_l0_ev (tt : Int) (l : List S27) (hs : SmallWay l) (d : Nat) : ∀ i : Nat, i + d = l.length →
    Ev (fun k => impl_WayTo.l0 k tt l (l.length : Int) i) (wayGo tt (l.drop i)) := by
  have hl1 := hs.1
  induction d with
  | zero =>
    intro i hi
    rw [List.drop_eq_nil_of_le (by omega)]
    apply ev_succ
    simp only [impl_WayTo.l0]
    exact ev_neg (by omega) (ev_some (by simp [wayGo]))
  | succ d ih =>
    intro i hi
    obtain ⟨x, hx⟩ : ∃ x, rd_T27 l (i : Int) = x := ⟨_, rfl⟩
    have hx2 : l.getD i z27 = x := hx
    have hm : x ∈ l := by rw [← hx2]; exact getD_memWay l _ i (by omega)
    have hn := hs.2 x hm
    have hr := ih (i + 1) (by omega)
    rw [drop_at l z27 i (by omega), hx2]
    apply ev_succ
    simp only [impl_WayTo.l0, hx, wayGo]
    rw [w64 (x := (i : Int) + 1) (by omega) (by omega)]
    refine ev_pos (by omega) (ev_pos (by omega) (ev_pos (by omega) (ev_ite (fun h1 => ?_) (fun h1 => ?_))))
    · rw [if_pos h1]
      unfold impl_copyWay.f impl_copyInts.f
      rw [if_pos (by simp; omega)]
      exact ev_some (by simp)
    · rw [if_neg h1]; exact hr
theorem spec_WayTo_l0_ev (tt : Int) (l : List S27) (hs : SmallWay l) (d : Nat) : ∀ i : Nat, i + d = l.length →
    Ev (fun k => spec_WayTo.l0 k l tt i) (wayGo tt (l.drop i)) := by
  have hl1 := hs.1
  induction d with
  | zero =>
    intro i hi
    rw [List.drop_eq_nil_of_le (by omega)]
    apply ev_succ
    simp only [spec_WayTo.l0]
    exact ev_neg (by omega) (ev_some (by simp [wayGo]))
  | succ d ih =>
    intro i hi
    obtain ⟨x, hx⟩ : ∃ x, rd_T27 l (i : Int) = x := ⟨_, rfl⟩
    have hx2 : l.getD i z27 = x := hx
    have hm : x ∈ l := by rw [← hx2]; exact getD_memWay l _ i (by omega)
    have hn := hs.2 x hm
    have hr := ih (i + 1) (by omega)
    rw [drop_at l z27 i (by omega), hx2]
    apply ev_succ
    simp only [spec_WayTo.l0, hx, wayGo]
    rw [w64 (x := (i : Int) + 1) (by omega) (by omega)]
    refine ev_pos (by omega) (ev_pos (by omega) (ev_ite (fun h1 => ?_) (fun h1 => ?_)))
    · rw [if_pos h1]
      unfold spec_l06Copy.f
      simp only [Option.bind_some]
      rw [if_pos (by simp; omega)]
      exact ev_some (by simp)
    · rw [if_neg h1]; exact hr
theorem FnExactWayTo : ∀ (l0 : List (S24)) (a1 : Int), (l0.length ≤ 9223372036854775807) → (∀ x ∈ l0, x.f2.length ≤ 9223372036854775807) → ∃ k, laws_FnExactWayTo.f k l0 a1 = some true := by
  intro l tt hl hx
  refine ev_ex ?_
  unfold laws_FnExactWayTo.f
  rcases laws_szWayS_cases l hl hx 1048576 (by omega) (by omega) with h | ⟨t, h, h1, h2, h3, h4⟩
  · exact Ev.bind h (ev_pos (by omega) (Ev.now _))
  refine Ev.bind h (ev_neg (by omega) ?_)
  have T := laws_toWayS_ev l h3 h4
  have hs := toWayL_small l h3 h4
  have hg := wayGo_len tt (toWayL l) hs.2
  have E1 := laws_eqWayS_refl _ hs
  have I : Ev (fun k => impl_WayTo.f k (toWayL l) tt) (wayGo tt (toWayL l)) := impl_WayTo_l0_ev tt _ hs (toWayL l).length 0 (by omega)
  have Sp : Ev (fun k => spec_WayTo.f k (toWayL l) tt) (wayGo tt (toWayL l)) := spec_WayTo_l0_ev tt _ hs (toWayL l).length 0 (by omega)
  generalize wayGo tt (toWayL l) = z at *
  obtain ⟨a, b, c, g⟩ := z
  simp only at hg
  have E2 := laws_eqWay_refl a b c (by omega)
  have hq0 := endWay_ge (toWayL l) 1
  obtain ⟨q, hM⟩ := laws_markWayS_ev (toWayL l) 1 hs (by omega) (by omega)
  have hM2 : Ev (fun k => laws_markWay.f k a b c 1) (1 + (c.length : Int), markI c 1) := by
    unfold laws_markWay.f
    exact Ev.bind (laws_markIntS_ev c 1 (by omega) (by omega)) (Ev.now _)
  have hH : Ev (fun k => laws_heldWay.f k a b (markI c 1) 1) (1 + (c.length : Int)) := by
    unfold laws_heldWay.f
    exact Ev.bind (laws_heldIntS_ev c 1 (by omega) (by omega)) (ev_neg (by omega) (Ev.now _))
  refine Ev.bind T (Ev.bind Sp (Ev.bind T (Ev.bind I (Ev.bind E2 (ev_pos rfl (ev_neg (by simp) (Ev.bind T (Ev.bind E1 (ev_pos rfl ?_)))))))))
  refine Ev.bind hM (ev_neg (by simp only; omega) (Ev.bind E2 (ev_pos rfl (ev_neg (by simp) ?_))))
  refine Ev.bind hM2 (Ev.bind hH (ev_neg (by omega) (ev_pos rfl ?_)))
  refine Ev.bind T (Ev.bind I (Ev.bind E2 (ev_pos rfl (ev_neg (by simp) (Ev.bind hH (ev_neg (by omega) (ev_pos rfl (Ev.now _))))))))

end Go.Proofs.Ytjkjhaiemephdaa.Pure
