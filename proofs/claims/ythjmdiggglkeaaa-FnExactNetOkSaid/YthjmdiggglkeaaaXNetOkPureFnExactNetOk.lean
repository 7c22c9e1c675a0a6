import Derived.Test.YthjmdiggglkeaaaXNetOkQlawsFnExactNetOk
/- Proved: the pure statement of the law FnExactNetOk, for every input that its statement lets in. -/

set_option linter.unusedVariables false
set_option linter.unusedSimpArgs false
namespace Go.Proofs.Ythjmdiggglkeaaa.Pure
open Go.RowKit Go.Proofs.Ythjmdiggglkeaaa.Q Go.Proofs.YthjmdiggglkeaaaW.PrintWords Go.Proofs.YthjmdiggglkeaaaW.PrintLast

-- base
theorem w64 {x : Int} (h0 : -9223372036854775808 ≤ x) (h1 : x ≤ 9223372036854775807) : wrap64 x = x := by unfold wrap64; omega
theorem bt_b (s : ByteArray) (i : Int) : 0 ≤ bt s i ∧ bt s i < 256 := by have := bt_range s i; omega
theorem wbt (s : ByteArray) (i : Int) : wrap64 (bt s i) = bt s i := by have := bt_range s i; exact w64 (by omega) (by omega)
theorem tmodp {x m : Int} (h : 0 ≤ x) : Int.tmod x m = x % m := Int.tmod_eq_emod_of_nonneg h
theorem tdivp {x m : Int} (h : 0 ≤ x) : Int.tdiv x m = x / m := Int.tdiv_eq_ediv_of_nonneg h
/-- The bytes of a text, as numbers. -/
def B (s : ByteArray) : List Int := s.data.toList.map fun u => (u.toNat : Int)
def Byt (xs : List Int) : Prop := ∀ x ∈ xs, 0 ≤ x ∧ x < 256
theorem B_len (s : ByteArray) : (B s).length = s.size := by simp [B]
theorem B_byt (s : ByteArray) : Byt (B s) := by
  intro x hx
  obtain ⟨u, _, rfl⟩ := List.mem_map.1 hx
  have := u.toNat_lt
  omega
theorem B_str (xs : List Int) (h : Byt xs) : B (strOfNums xs) = xs := by
  simp only [B, strOfNums, List.map_map]
  conv => rhs; rw [← List.map_id xs]
  apply List.map_congr_left
  intro x hx
  have := h x hx
  simp only [Function.comp, UInt8.toNat_ofNat', id]
  omega
theorem str_B (s : ByteArray) : strOfNums (B s) = s := by
  apply Go.WideShapes.bytes_inj
  simp only [B, strOfNums, List.map_map]
  conv => rhs; rw [← List.map_id s.data.toList]
  apply List.map_congr_left
  intro x hx
  simp [Function.comp]
theorem B_inj {s t : ByteArray} (h : B s = B t) : s = t := by rw [← str_B s, ← str_B t, h]
theorem B_append (s t : ByteArray) : B (s ++ t) = B s ++ B t := by simp [B, ByteArray.data_append]
theorem B_extract (s : ByteArray) (a b : Nat) : B (s.extract a b) = ((B s).take b).drop a := by
  simp only [B, ByteArray.data_extract, Array.toList_extract, List.extract_eq_take_drop]
  rw [← List.map_take, ← List.map_drop, List.drop_take]
theorem B_bt (s : ByteArray) (i : Nat) (h : i < s.size) : (B s)[i]? = some (bt s i) := by
  have h' : i < s.data.toList.length := by rw [Array.length_toList]; exact h
  rw [B, List.getElem?_map, List.getElem?_eq_getElem h']
  simp [bt, h, ByteArray.getElem_eq_getElem_data]
theorem B_nil : B (⟨#[]⟩ : ByteArray) = [] := rfl
theorem tl_iff (s t : ByteArray) : s.toList = t.toList ↔ B s = B t := by
  rw [ByteArray.toList_eq, ByteArray.toList_eq]
  constructor
  · intro h; simp [B, h]
  · intro h; rw [B_inj h]
theorem byt_app {xs ys : List Int} (h : Byt xs) (k : Byt ys) : Byt (xs ++ ys) := by
  intro x hx
  rcases List.mem_append.1 hx with hx | hx
  · exact h x hx
  · exact k x hx
theorem wf_u32 {x : Int} (h : (Lit.int .u32 x).wf = true) : 0 ≤ x ∧ x < 4294967296 := by
  simp only [Lit.wf, IntKind.min, IntKind.max, IntKind.signed, IntKind.bits, Bool.and_eq_true, decide_eq_true_eq] at h
  simp at h
  omega
theorem wf_i64 {x : Int} (h : (Lit.int .i64 x).wf = true) : -9223372036854775808 ≤ x ∧ x ≤ 9223372036854775807 := by
  simp only [Lit.wf, IntKind.min, IntKind.max, IntKind.signed, IntKind.bits, Bool.and_eq_true, decide_eq_true_eq] at h
  simp at h
  omega
theorem ev_ex {α : Type} {g : Nat → Option α} {r : α} (h : Ev g r) : ∃ k, g k = some r := h.rounds

-- evtools
theorem ev_ite {α : Type} {c : Prop} [Decidable c] {g f : Nat → Option α} {r : α} (h : c → Ev g r) (k : ¬ c → Ev f r) : Ev (fun n => if c then g n else f n) r := by
  by_cases hc : c
  · exact Ev.congr (fun n => by rw [if_pos hc]) (h hc)
  · exact Ev.congr (fun n => by rw [if_neg hc]) (k hc)
theorem ev_pos {α : Type} {c : Prop} [Decidable c] {g f : Nat → Option α} {r : α} (hc : c) (h : Ev g r) : Ev (fun n => if c then g n else f n) r := Ev.congr (fun n => by rw [if_pos hc]) h
theorem ev_neg {α : Type} {c : Prop} [Decidable c] {g f : Nat → Option α} {r : α} (hc : ¬ c) (h : Ev f r) : Ev (fun n => if c then g n else f n) r := Ev.congr (fun n => by rw [if_neg hc]) h
theorem ev_some {α : Type} {x r : α} (h : x = r) : Ev (fun _ => some x) r := by rw [h]; exact Ev.now _
theorem ev_eq {α : Type} {x : Option α} {r : α} (h : x = some r) : Ev (fun _ => x) r := by rw [h]; exact Ev.now _
theorem ev_succ {α : Type} {g : Nat → Option α} {r : α} (h : Ev (fun k => g (k + 1)) r) : Ev g r := Ev.step (fun _ => rfl) h
theorem ev_to {α : Type} {g : Nat → Option α} {r r' : α} (h : Ev g r) (e : r = r') : Ev g r' := e ▸ h

-- lists
theorem set_mid {α : Type} (p : List α) (x y : α) (r : List α) (i : Nat) (h : p.length = i) : (p ++ x :: r).set i y = p ++ y :: r := by
  subst h
  simp
theorem drop_at {α : Type} (l : List α) (z : α) (i : Nat) (h : i < l.length) : l.drop i = l.getD i z :: l.drop (i + 1) := by
  rw [List.drop_eq_getElem_cons h, List.getD_eq_getElem?_getD, List.getElem?_eq_getElem h]
  rfl
theorem sz_left {n : Int} {len : Nat} {t : Int} (ht : t = if n < (len : Int) then -1 else n - len) (h : ¬ t < 0) (hn : n ≤ 1048576) (hn0 : 0 ≤ n) : len ≤ 1048576 ∧ 0 ≤ t ∧ t ≤ 1048576 ∧ t = n - len := by
  by_cases hc : n < (len : Int)
  · rw [if_pos hc] at ht; omega
  · rw [if_neg hc] at ht; omega

-- toLink
/-! Link: lists -/
def toLink1 (x : S134) : S93 := ⟨x.f0, x.f1, x.f2, x.f3⟩
def toLinkL (l : List S134) : List S93 := l.map toLink1
theorem toLinkL_len (l : List S134) : (toLinkL l).length = l.length := by simp [toLinkL]
theorem laws_toLinkS_l0_ev (l : List S134) (hl : l.length ≤ 9223372036854775807) (d : Nat) : ∀ i : Nat, i + d = l.length →
    Ev (fun k => laws_toLinkS.l0 k l ((toLinkL l).take i ++ List.replicate d z93) i) (toLinkL l) := by
  induction d with
  | zero =>
    intro i hi
    apply ev_succ
    simp only [laws_toLinkS.l0]
    refine ev_neg (by omega) (ev_some ?_)
    rw [List.take_of_length_le (by rw [toLinkL_len]; omega)]
    simp
  | succ d ih =>
    intro i hi
    have hr := ih (i + 1) (by omega)
    have hlt : i < (toLinkL l).length := by rw [toLinkL_len]; omega
    apply ev_succ
    simp only [laws_toLinkS.l0, laws_toLink.f, Option.bind_some]
    have hset : ((toLinkL l).take i ++ List.replicate (d + 1) z93).set ((i : Int).toNat) (⟨(rd_T134 l i).f0, (rd_T134 l i).f1, (rd_T134 l i).f2, (rd_T134 l i).f3⟩ : S93) = (toLinkL l).take (i + 1) ++ List.replicate d z93 := by
      rw [List.replicate_succ, set_mid _ _ _ _ _ (by rw [List.length_take]; omega), List.take_succ_eq_append_getElem hlt]
      rw [List.append_assoc]
      congr 1
      simp only [List.singleton_append]
      congr 1
      have hli : i < l.length := by omega
      simp [toLinkL, toLink1, rd_T134, List.getD_eq_getElem?_getD, hli]
    rw [hset, w64 (by omega) (by omega)]
    refine ev_pos (by omega) (ev_pos (by omega) (ev_pos ?_ hr))
    simp only [List.length_append, List.length_take, List.length_replicate, toLinkL_len]
    omega
theorem laws_toLinkS_ev (l : List S134) (hl : l.length ≤ 1048576) : Ev (fun k => laws_toLinkS.f k l) (toLinkL l) := by
  unfold laws_toLinkS.f
  refine ev_pos (by omega) (ev_pos (by omega) ?_)
  exact laws_toLinkS_l0_ev l (by omega) l.length 0 (by omega)

-- toThing
/-! Thing: lists -/
def toThing1 (x : S136) : S102 := ⟨x.f0, x.f1, x.f2, x.f3⟩
def toThingL (l : List S136) : List S102 := l.map toThing1
theorem toThingL_len (l : List S136) : (toThingL l).length = l.length := by simp [toThingL]
theorem laws_toThingS_l0_ev (l : List S136) (hl : l.length ≤ 9223372036854775807) (d : Nat) : ∀ i : Nat, i + d = l.length →
    Ev (fun k => laws_toThingS.l0 k l ((toThingL l).take i ++ List.replicate d z102) i) (toThingL l) := by
  induction d with
  | zero =>
    intro i hi
    apply ev_succ
    simp only [laws_toThingS.l0]
    refine ev_neg (by omega) (ev_some ?_)
    rw [List.take_of_length_le (by rw [toThingL_len]; omega)]
    simp
  | succ d ih =>
    intro i hi
    have hr := ih (i + 1) (by omega)
    have hlt : i < (toThingL l).length := by rw [toThingL_len]; omega
    apply ev_succ
    simp only [laws_toThingS.l0, laws_toThing.f, Option.bind_some]
    have hset : ((toThingL l).take i ++ List.replicate (d + 1) z102).set ((i : Int).toNat) (⟨(rd_T136 l i).f0, (rd_T136 l i).f1, (rd_T136 l i).f2, (rd_T136 l i).f3⟩ : S102) = (toThingL l).take (i + 1) ++ List.replicate d z102 := by
      rw [List.replicate_succ, set_mid _ _ _ _ _ (by rw [List.length_take]; omega), List.take_succ_eq_append_getElem hlt]
      rw [List.append_assoc]
      congr 1
      simp only [List.singleton_append]
      congr 1
      have hli : i < l.length := by omega
      simp [toThingL, toThing1, rd_T136, List.getD_eq_getElem?_getD, hli]
    rw [hset, w64 (by omega) (by omega)]
    refine ev_pos (by omega) (ev_pos (by omega) (ev_pos ?_ hr))
    simp only [List.length_append, List.length_take, List.length_replicate, toThingL_len]
    omega
theorem laws_toThingS_ev (l : List S136) (hl : l.length ≤ 1048576) : Ev (fun k => laws_toThingS.f k l) (toThingL l) := by
  unfold laws_toThingS.f
  refine ev_pos (by omega) (ev_pos (by omega) ?_)
  exact laws_toThingS_l0_ev l (by omega) l.length 0 (by omega)

-- szLink
theorem laws_szLinkS_eq (l : List S134) (hl : l.length ≤ 9223372036854775807) (n : Int) (h0 : 0 ≤ n) (h1 : n ≤ 1048576) : laws_szLinkS.f l n = some (if n < (l.length : Int) then -1 else n - l.length) := by
  unfold laws_szLinkS.f
  rw [w64 (by omega) (by omega)]
  by_cases h : n < (l.length : Int)
  · rw [if_pos (by omega), if_pos h]
  · rw [if_neg (by omega), if_neg h]

-- szThing
theorem laws_szThingS_eq (l : List S136) (hl : l.length ≤ 9223372036854775807) (n : Int) (h0 : 0 ≤ n) (h1 : n ≤ 1048576) : laws_szThingS.f l n = some (if n < (l.length : Int) then -1 else n - l.length) := by
  unfold laws_szThingS.f
  rw [w64 (by omega) (by omega)]
  by_cases h : n < (l.length : Int)
  · rw [if_pos (by omega), if_pos h]
  · rw [if_neg (by omega), if_neg h]

-- eqLink
theorem laws_eqLink_refl (a b c d : Int) : laws_eqLink.f a b c d a b c d = some true := by
  unfold laws_eqLink.f
  simp
theorem laws_eqLinkS_l0_ev (l : List S93) (hl : l.length ≤ 9223372036854775807) (d : Nat) : ∀ i : Nat, i + d = l.length → Ev (fun k => laws_eqLinkS.l0 k l l i) true := by
  induction d with
  | zero =>
    intro i hi
    apply ev_succ
    simp only [laws_eqLinkS.l0]
    exact ev_neg (by omega) (Ev.now _)
  | succ d ih =>
    intro i hi
    apply ev_succ
    simp only [laws_eqLinkS.l0, laws_eqLink_refl, if_true, Option.bind_some]
    rw [w64 (by omega) (by omega)]
    exact ev_pos (by omega) (ev_pos (by omega) (ev_pos (by omega) (ih (i + 1) (by omega))))
theorem laws_eqLinkS_refl (l : List S93) (hl : l.length ≤ 9223372036854775807) : Ev (fun k => laws_eqLinkS.f k l l) true := by
  unfold laws_eqLinkS.f
  exact ev_pos rfl (laws_eqLinkS_l0_ev l hl l.length 0 (by omega))

-- eqThing
theorem laws_eqThing_refl (a b c : Int) (d : Bool) : laws_eqThing.f a b c d a b c d = some true := by
  unfold laws_eqThing.f
  simp
theorem laws_eqThingS_l0_ev (l : List S102) (hl : l.length ≤ 9223372036854775807) (d : Nat) : ∀ i : Nat, i + d = l.length → Ev (fun k => laws_eqThingS.l0 k l l i) true := by
  induction d with
  | zero =>
    intro i hi
    apply ev_succ
    simp only [laws_eqThingS.l0]
    exact ev_neg (by omega) (Ev.now _)
  | succ d ih =>
    intro i hi
    apply ev_succ
    simp only [laws_eqThingS.l0, laws_eqThing_refl, if_true, Option.bind_some]
    rw [w64 (by omega) (by omega)]
    exact ev_pos (by omega) (ev_pos (by omega) (ev_pos (by omega) (ih (i + 1) (by omega))))
theorem laws_eqThingS_refl (l : List S102) (hl : l.length ≤ 9223372036854775807) : Ev (fun k => laws_eqThingS.f k l l) true := by
  unfold laws_eqThingS.f
  exact ev_pos rfl (laws_eqThingS_l0_ev l hl l.length 0 (by omega))

-- net
theorem laws_toNet_ev (n : Int) (l : List S134) (m : List S136) (hl : l.length ≤ 1048576) (hm : m.length ≤ 1048576) : Ev (fun k => laws_toNet.f k n l m) (n, toLinkL l, toThingL m) := by
  unfold laws_toNet.f
  exact Ev.bind (laws_toLinkS_ev l hl) (Ev.bind (laws_toThingS_ev m hm) (Ev.now _))
theorem laws_eqNet_refl (n : Int) (l : List S93) (m : List S102) (hl : l.length ≤ 9223372036854775807) (hm : m.length ≤ 9223372036854775807) : Ev (fun k => laws_eqNet.f k n l m n l m) true := by
  unfold laws_eqNet.f
  exact ev_pos rfl (Ev.bind (laws_eqLinkS_refl l hl) (ev_pos rfl (Ev.bind (laws_eqThingS_refl m hm) (ev_pos rfl (Ev.now _)))))
theorem laws_szNet_cases (n : Int) (l : List S134) (m : List S136) (hl : l.length ≤ 9223372036854775807) (hm : m.length ≤ 9223372036854775807) (t : Int) (h0 : 0 ≤ t) (h1 : t ≤ 1048576) :
    laws_szNet.f n l m t = some (-1) ∨ (laws_szNet.f n l m t = some (t - l.length - m.length) ∧ (l.length : Int) + m.length ≤ t) := by
  unfold laws_szNet.f
  rw [laws_szLinkS_eq l hl t h0 h1, Option.bind_some]
  by_cases hc : t < (l.length : Int)
  · rw [if_pos hc, if_pos (by omega)]; exact .inl rfl
  · rw [if_neg hc, if_neg (by omega), laws_szThingS_eq m hm _ (by omega) (by omega), Option.bind_some]
    by_cases hd : t - (l.length : Int) < (m.length : Int)
    · rw [if_pos hd, if_pos (by omega)]; exact .inl rfl
    · rw [if_neg hd, if_neg (by omega)]; exact .inr ⟨rfl, by omega⟩

-- impl_in
theorem impl_in_eq (a b c : Int) : impl_in.f a b c = some (decide (b ≤ a ∧ a ≤ c)) := by
  unfold impl_in.f
  by_cases h : a ≥ b
  · rw [if_pos h]; congr 1; simp; omega
  · rw [if_neg h]; congr 1; simp; omega

-- spec_l01In
theorem spec_l01In_eq (a b c : Int) : spec_l01In.f a b c = some (decide (b ≤ a ∧ a ≤ c)) := by
  unfold spec_l01In.f
  by_cases h : a ≥ b
  · rw [if_pos h]; congr 1; simp; omega
  · rw [if_neg h]; congr 1; simp; omega

-- netok
def okLink (n : Int) (x : S93) : Bool := decide (1 ≤ n ∧ n ≤ 6) && (decide (1 ≤ x.f0 ∧ x.f0 ≤ n) && (decide (1 ≤ x.f1 ∧ x.f1 ≤ n) && (decide (x.f0 < x.f1) && (decide (1 ≤ x.f2 ∧ x.f2 ≤ 1000) && decide (0 ≤ x.f3 ∧ x.f3 ≤ 2)))))
def aheadB (a b : S93) : Bool := decide (a.f0 < b.f0 ∨ a.f0 = b.f0 ∧ (a.f1 < b.f1 ∨ a.f1 = b.f1 ∧ a.f3 < b.f3))
def lessB (a b : S102) : Bool := decide (a.f1 < b.f1 ∨ a.f1 = b.f1 ∧ a.f0 < b.f0)
def okThing (n : Int) (x : S102) : Bool := decide (1 ≤ x.f1 ∧ x.f1 ≤ 9) && (decide (1 ≤ x.f0 ∧ x.f0 ≤ n) && decide (1 ≤ x.f2 ∧ x.f2 ≤ 1000))
def linksGo (n : Int) : Option S93 → List S93 → Bool
  | _, [] => true
  | p, x :: xs => okLink n x && p.all (fun y => aheadB y x) && linksGo n (some x) xs
def thingsGo (n : Int) : Option S102 → List S102 → Bool
  | _, [] => true
  | p, x :: xs => okThing n x && p.all (fun y => lessB y x) && thingsGo n (some x) xs
def netB (n : Int) (l : List S93) (m : List S102) : Bool := (decide (1 ≤ n ∧ n ≤ 6) && (!decide ((l.length : Int) > 12) && !decide ((m.length : Int) > 4))) && (linksGo n none l && thingsGo n none m)
def pvK (l : List S93) (i : Nat) : Option S93 := if i = 0 then none else some (l.getD (i - 1) z93)
theorem pvK_succ (l : List S93) (i : Nat) : pvK l (i + 1) = some (l.getD i z93) := by simp [pvK]
theorem rdKp (l : List S93) (i : Nat) (h : 0 < i) (hl : i < 9223372036854775807) : rd_T93 l (wrap64 ((i : Int) - 1)) = l.getD (i - 1) z93 := by
  rw [w64 (by omega) (by omega), show (i : Int) - 1 = ((i - 1 : Nat) : Int) by omega]
  rfl
def pvT (l : List S102) (i : Nat) : Option S102 := if i = 0 then none else some (l.getD (i - 1) z102)
theorem pvT_succ (l : List S102) (i : Nat) : pvT l (i + 1) = some (l.getD i z102) := by simp [pvT]
theorem rdTp (l : List S102) (i : Nat) (h : 0 < i) (hl : i < 9223372036854775807) : rd_T102 l (wrap64 ((i : Int) - 1)) = l.getD (i - 1) z102 := by
  rw [w64 (by omega) (by omega), show (i : Int) - 1 = ((i - 1 : Nat) : Int) by omega]
  rfl
theorem impl_LinkOk_eq (n : Int) (x : S93) : impl_LinkOk.f n x.f0 x.f1 x.f2 x.f3 = some (okLink n x) := by
  unfold impl_LinkOk.f okLink
  simp only [impl_in_eq, Option.bind_some, decide_eq_true_eq]
  by_cases h1 : 1 ≤ n ∧ n ≤ 6
  · rw [if_pos h1, decide_eq_true h1, Bool.true_and]
    by_cases h2 : 1 ≤ x.f0 ∧ x.f0 ≤ n
    · rw [if_pos h2, decide_eq_true h2, Bool.true_and]
      by_cases h3 : 1 ≤ x.f1 ∧ x.f1 ≤ n
      · rw [if_pos h3, decide_eq_true h3, Bool.true_and]
        by_cases h4 : x.f0 < x.f1
        · rw [if_pos h4, decide_eq_true h4, Bool.true_and]
          by_cases h5 : 1 ≤ x.f2 ∧ x.f2 ≤ 1000
          · rw [if_pos h5, decide_eq_true h5, Bool.true_and]
          · rw [if_neg h5, decide_eq_false h5, Bool.false_and]
        · rw [if_neg h4, decide_eq_false h4, Bool.false_and]
      · rw [if_neg h3, decide_eq_false h3, Bool.false_and]
    · rw [if_neg h2, decide_eq_false h2, Bool.false_and]
  · rw [if_neg h1, decide_eq_false h1, Bool.false_and]
theorem spec_LinkOk_eq (n : Int) (x : S93) : spec_LinkOk.f n x.f0 x.f1 x.f2 x.f3 = some (okLink n x) := by
  rw [← impl_LinkOk_eq]
  unfold spec_LinkOk.f impl_LinkOk.f
  simp only [spec_l01In_eq, impl_in_eq]
theorem impl_ahead_eq (a b : S93) : impl_ahead.f a.f0 a.f1 a.f2 a.f3 b.f0 b.f1 b.f2 b.f3 = some (aheadB a b) := by
  unfold impl_ahead.f aheadB
  repeat' split
  all_goals (congr 1; rw [Bool.eq_iff_iff, decide_eq_true_eq, decide_eq_true_eq]; omega)
theorem spec_l03Ahead_eq (a b : S93) : spec_l03Ahead.f a.f0 a.f1 a.f2 a.f3 b.f0 b.f1 b.f2 b.f3 = some (aheadB a b) := by
  unfold spec_l03Ahead.f aheadB
  repeat' split
  all_goals (congr 1; rw [Bool.eq_iff_iff]; simp only [decide_eq_true_eq, true_iff, Bool.false_eq_true, false_iff]; omega)
theorem impl_less_eq (a b : S102) : impl_less.f a.f0 a.f1 a.f2 a.f3 b.f0 b.f1 b.f2 b.f3 = some (lessB a b) := by
  unfold impl_less.f lessB
  repeat' split
  all_goals (congr 1; rw [Bool.eq_iff_iff]; simp only [decide_eq_true_eq, true_iff, Bool.false_eq_true, false_iff]; omega)
theorem spec_l03Thing_eq (a b : S102) : spec_l03Thing.f a.f0 a.f1 a.f2 a.f3 b.f0 b.f1 b.f2 b.f3 = some (lessB a b) := by
  unfold spec_l03Thing.f lessB
  repeat' split
  all_goals (congr 1; rw [Bool.eq_iff_iff]; simp only [decide_eq_true_eq, true_iff, Bool.false_eq_true, false_iff]; omega)

-- spec_NetOk
theorem spec_NetOk_l1_ev (n : Int) (l : List S93) (m : List S102) (hm : m.length ≤ 9223372036854775000) (d : Nat) : ∀ i : Nat, i + d = m.length →
    Ev (fun k => spec_NetOk.l1 k i n l m) (thingsGo n (pvT m i) (m.drop i)) := by
  induction d with
  | zero =>
    intro i hi
    rw [List.drop_eq_nil_of_le (by omega)]
    apply ev_succ
    simp only [spec_NetOk.l1]
    exact ev_neg (by omega) (ev_some (by simp [thingsGo]))
  | succ d ih =>
    intro i hi
    have hr := ih (i + 1) (by omega)
    obtain ⟨x, hx⟩ : ∃ x, rd_T102 m (i : Int) = x := ⟨_, rfl⟩
    have hx2 : m.getD i z102 = x := hx
    rw [pvT_succ, hx2] at hr
    rw [drop_at m z102 i (by omega), hx2, thingsGo, okThing]
    apply ev_succ
    simp only [spec_NetOk.l1, hx, spec_l01In_eq, Option.bind_some, decide_eq_true_eq]
    rw [w64 (x := (i : Int) + 1) (by omega) (by omega)]
    refine ev_pos (by omega) (ev_pos (by omega) ?_)
    refine ev_ite (fun h2 => ?_) (fun h2 => ev_some (by simp [h2]))
    refine ev_ite (fun h1 => ?_) (fun h1 => ev_some (by simp [h1]))
    refine ev_ite (fun h3 => ?_) (fun h3 => ev_some (by simp [h3]))
    refine ev_ite (fun h4 => ?_) (fun h4 => ?_)
    · have h0 : 0 < i := by omega
      have hp : pvT m i = some (m.getD (i - 1) z102) := by unfold pvT; rw [if_neg (by omega)]
      rw [hp]
      simp only [rdTp m i h0 (by omega), spec_l03Thing_eq, Option.bind_some]
      refine ev_pos (by rw [w64 (by omega) (by omega)]; omega) (ev_pos (by rw [w64 (by omega) (by omega)]; omega) ?_)
      refine ev_ite (fun h5 => ?_) (fun h5 => ev_some ?_)
      · exact ev_to hr (by rw [decide_eq_true h1, decide_eq_true h2, decide_eq_true h3]; simp only [Option.all_some, h5, Bool.true_and])
      · have h5' : lessB (m.getD (i - 1) z102) x = false := by simpa using h5
        simp only [Option.all_some, h5', Bool.and_false, Bool.false_and]
    · have h0 : i = 0 := by omega
      have hp : pvT m i = none := by rw [h0]; rfl
      rw [hp]
      exact ev_to hr (by simp [h1, h2, h3])
theorem spec_NetOk_l0_ev (n : Int) (l : List S93) (m : List S102) (hl : l.length ≤ 9223372036854775000) (hm : m.length ≤ 9223372036854775000) (d : Nat) : ∀ i : Nat, i + d = l.length →
    Ev (fun k => spec_NetOk.l0 k i n l m) (linksGo n (pvK l i) (l.drop i) && thingsGo n none m) := by
  induction d with
  | zero =>
    intro i hi
    rw [List.drop_eq_nil_of_le (by omega)]
    apply ev_succ
    simp only [spec_NetOk.l0]
    exact ev_neg (by omega) (ev_to (spec_NetOk_l1_ev n l m hm m.length 0 (by omega)) (by simp [linksGo, pvT]))
  | succ d ih =>
    intro i hi
    have hr := ih (i + 1) (by omega)
    obtain ⟨x, hx⟩ : ∃ x, rd_T93 l (i : Int) = x := ⟨_, rfl⟩
    have hx2 : l.getD i z93 = x := hx
    rw [pvK_succ, hx2] at hr
    rw [drop_at l z93 i (by omega), hx2, linksGo]
    apply ev_succ
    simp only [spec_NetOk.l0, hx, spec_LinkOk_eq, Option.bind_some]
    rw [w64 (x := (i : Int) + 1) (by omega) (by omega)]
    refine ev_pos (by omega) (ev_pos (by omega) ?_)
    refine ev_ite (fun h1 => ?_) (fun h1 => ev_some (by simp [h1]))
    refine ev_ite (fun h4 => ?_) (fun h4 => ?_)
    · have h0 : 0 < i := by omega
      have hp : pvK l i = some (l.getD (i - 1) z93) := by unfold pvK; rw [if_neg (by omega)]
      rw [hp]
      simp only [rdKp l i h0 (by omega), spec_l03Ahead_eq, Option.bind_some]
      refine ev_pos (by rw [w64 (by omega) (by omega)]; omega) (ev_pos (by rw [w64 (by omega) (by omega)]; omega) ?_)
      refine ev_ite (fun h5 => ?_) (fun h5 => ev_some ?_)
      · exact ev_to hr (by simp only [Option.all_some, h1, h5, Bool.true_and])
      · have h5' : aheadB (l.getD (i - 1) z93) x = false := by simpa using h5
        simp only [Option.all_some, h5', Bool.and_false, Bool.false_and]
    · have h0 : i = 0 := by omega
      have hp : pvK l i = none := by rw [h0]; rfl
      rw [hp]
      exact ev_to hr (by simp [h1])
theorem spec_NetOk_ev (n : Int) (l : List S93) (m : List S102) (hl : l.length ≤ 9223372036854775000) (hm : m.length ≤ 9223372036854775000) : Ev (fun k => spec_NetOk.f k n l m) (netB n l m) := by
  have hL := spec_NetOk_l0_ev n l m hl hm l.length 0 (by omega)
  have hj : ∀ b : Bool, Ev (fun k => spec_NetOk.j0 k b n l m) (!b && (linksGo n none l && thingsGo n none m)) := by
    intro b
    apply ev_succ
    simp only [spec_NetOk.j0]
    refine ev_ite (fun h => ev_some (by simp [h])) (fun h => ev_to hL ?_)
    have h' : b = false := by simpa using h
    simp [h', pvK]
  unfold spec_NetOk.f netB
  simp only [spec_l01In_eq, Option.bind_some, decide_eq_true_eq]
  refine ev_ite (fun h1 => ?_) (fun h1 => ?_)
  · refine ev_ite (fun h2 => ?_) (fun h2 => ?_)
    · exact ev_to (hj true) (by simp [h2])
    · exact ev_to (hj _) (by rw [decide_eq_true h1, decide_eq_false h2]; simp)
  · exact ev_to (hj true) (by simp [h1])

-- impl_NetOk
theorem impl_NetOk_l1_ev (n : Int) (l : List S93) (m : List S102) (hm : m.length ≤ 9223372036854775000) (d : Nat) : ∀ i : Nat, i + d = m.length →
    Ev (fun k => impl_NetOk.l1 k m (m.length : Int) i n l m) (thingsGo n (pvT m i) (m.drop i)) := by
  induction d with
  | zero =>
    intro i hi
    rw [List.drop_eq_nil_of_le (by omega)]
    apply ev_succ
    simp only [impl_NetOk.l1]
    exact ev_neg (by omega) (ev_some (by simp [thingsGo]))
  | succ d ih =>
    intro i hi
    have hr := ih (i + 1) (by omega)
    obtain ⟨x, hx⟩ : ∃ x, rd_T102 m (i : Int) = x := ⟨_, rfl⟩
    have hx2 : m.getD i z102 = x := hx
    rw [pvT_succ, hx2] at hr
    rw [drop_at m z102 i (by omega), hx2, thingsGo, okThing]
    apply ev_succ
    simp only [impl_NetOk.l1, hx, impl_in_eq, Option.bind_some, decide_eq_true_eq]
    rw [w64 (x := (i : Int) + 1) (by omega) (by omega)]
    refine ev_pos (by omega) (ev_pos (by omega) (ev_pos (by omega) ?_))
    refine ev_ite (fun h1 => ?_) (fun h1 => ev_some (by simp [h1]))
    refine ev_ite (fun h2 => ?_) (fun h2 => ev_some (by simp [h2]))
    refine ev_ite (fun h3 => ?_) (fun h3 => ev_some (by simp [h3]))
    refine ev_ite (fun h4 => ?_) (fun h4 => ?_)
    · have h0 : 0 < i := by omega
      have hp : pvT m i = some (m.getD (i - 1) z102) := by unfold pvT; rw [if_neg (by omega)]
      rw [hp]
      simp only [rdTp m i h0 (by omega), impl_less_eq, Option.bind_some]
      refine ev_pos (by rw [w64 (by omega) (by omega)]; omega) (ev_pos (by rw [w64 (by omega) (by omega)]; omega) ?_)
      refine ev_ite (fun h5 => ?_) (fun h5 => ev_some ?_)
      · exact ev_to hr (by rw [decide_eq_true h1, decide_eq_true h2, decide_eq_true h3]; simp only [Option.all_some, h5, Bool.true_and])
      · have h5' : lessB (m.getD (i - 1) z102) x = false := by simpa using h5
        simp only [Option.all_some, h5', Bool.and_false, Bool.false_and]
    · have h0 : i = 0 := by omega
      have hp : pvT m i = none := by rw [h0]; rfl
      rw [hp]
      exact ev_to hr (by simp [h1, h2, h3])
theorem impl_NetOk_l0_ev (n : Int) (l : List S93) (m : List S102) (hl : l.length ≤ 9223372036854775000) (hm : m.length ≤ 9223372036854775000) (d : Nat) : ∀ i : Nat, i + d = l.length →
    Ev (fun k => impl_NetOk.l0 k l (l.length : Int) i n l m) (linksGo n (pvK l i) (l.drop i) && thingsGo n none m) := by
  induction d with
  | zero =>
    intro i hi
    rw [List.drop_eq_nil_of_le (by omega)]
    apply ev_succ
    simp only [impl_NetOk.l0]
    exact ev_neg (by omega) (ev_to (impl_NetOk_l1_ev n l m hm m.length 0 (by omega)) (by simp [linksGo, pvT]))
  | succ d ih =>
    intro i hi
    have hr := ih (i + 1) (by omega)
    obtain ⟨x, hx⟩ : ∃ x, rd_T93 l (i : Int) = x := ⟨_, rfl⟩
    have hx2 : l.getD i z93 = x := hx
    rw [pvK_succ, hx2] at hr
    rw [drop_at l z93 i (by omega), hx2, linksGo]
    apply ev_succ
    simp only [impl_NetOk.l0, hx, impl_LinkOk_eq, Option.bind_some]
    rw [w64 (x := (i : Int) + 1) (by omega) (by omega)]
    refine ev_pos (by omega) (ev_pos (by omega) (ev_pos (by omega) ?_))
    refine ev_ite (fun h1 => ?_) (fun h1 => ev_some (by simp [h1]))
    refine ev_ite (fun h4 => ?_) (fun h4 => ?_)
    · have h0 : 0 < i := by omega
      have hp : pvK l i = some (l.getD (i - 1) z93) := by unfold pvK; rw [if_neg (by omega)]
      rw [hp]
      simp only [rdKp l i h0 (by omega), impl_ahead_eq, Option.bind_some]
      refine ev_pos (by rw [w64 (by omega) (by omega)]; omega) (ev_pos (by rw [w64 (by omega) (by omega)]; omega) ?_)
      refine ev_ite (fun h5 => ?_) (fun h5 => ev_some ?_)
      · exact ev_to hr (by simp only [Option.all_some, h1, h5, Bool.true_and])
      · have h5' : aheadB (l.getD (i - 1) z93) x = false := by simpa using h5
        simp only [Option.all_some, h5', Bool.and_false, Bool.false_and]
    · have h0 : i = 0 := by omega
      have hp : pvK l i = none := by rw [h0]; rfl
      rw [hp]
      exact ev_to hr (by simp [h1])
theorem impl_NetOk_ev (n : Int) (l : List S93) (m : List S102) (hl : l.length ≤ 9223372036854775000) (hm : m.length ≤ 9223372036854775000) : Ev (fun k => impl_NetOk.f k n l m) (netB n l m) := by
  have hL := impl_NetOk_l0_ev n l m hl hm l.length 0 (by omega)
  have hj : ∀ b : Bool, Ev (fun k => impl_NetOk.j0 k b n l m) (!b && (linksGo n none l && thingsGo n none m)) := by
    intro b
    apply ev_succ
    simp only [impl_NetOk.j0]
    refine ev_ite (fun h => ev_some (by simp [h])) (fun h => ev_to hL ?_)
    have h' : b = false := by simpa using h
    simp [h', pvK]
  unfold impl_NetOk.f netB
  simp only [impl_in_eq, Option.bind_some, decide_eq_true_eq]
  refine ev_ite (fun h1 => ?_) (fun h1 => ?_)
  · refine ev_ite (fun h2 => ?_) (fun h2 => ?_)
    · exact ev_to (hj true) (by simp [h2])
    · exact ev_to (hj _) (by rw [decide_eq_true h1, decide_eq_false h2]; simp)
  · exact ev_to (hj true) (by simp [h1])

-- FnExactNetOk
theorem FnExactNetOk : ∀ (a0_0 : Int) (l0_1 : List (S134)) (l0_2 : List (S136)), (l0_1.length ≤ 9223372036854775807) → (l0_2.length ≤ 9223372036854775807) → ∃ k, laws_FnExactNetOk.f k a0_0 l0_1 l0_2 = some true := by
  intro n l m hl hm
  refine ev_ex ?_
  unfold laws_FnExactNetOk.f
  rcases laws_szNet_cases n l m hl hm 1048576 (by omega) (by omega) with h | ⟨h, h2⟩
  · exact Ev.bind (ev_eq h) (ev_pos (by omega) (Ev.now _))
  · refine Ev.bind (ev_eq h) (ev_neg (by omega) ?_)
    have T := laws_toNet_ev n l m (by omega) (by omega)
    have h3 : (toLinkL l).length ≤ 9223372036854775000 := by rw [toLinkL_len]; omega
    have h4 : (toThingL m).length ≤ 9223372036854775000 := by rw [toThingL_len]; omega
    refine Ev.bind T (Ev.bind (spec_NetOk_ev n _ _ h3 h4) (Ev.bind T (Ev.bind (impl_NetOk_ev n _ _ h3 h4) ?_)))
    refine ev_neg (by simp) (Ev.bind T (Ev.bind (laws_eqNet_refl n (toLinkL l) (toThingL m) (by omega) (by omega)) ?_))
    exact ev_pos rfl (Ev.now _)

end Go.Proofs.Ythjmdiggglkeaaa.Pure
