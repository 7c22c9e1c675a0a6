import Derived.Test.YthjmdiggglkeaaaXSelfOkQlawsFnExactSelfOk
/- Proved: the pure statement of the law FnExactSelfOk, for every input that its statement lets in. -/

set_option linter.unusedVariables false
set_option linter.unusedSimpArgs false
namespace Go.Proofs.Ythjmdiggglkeaaa.Pure
open Go.RowKit Go.Proofs.Ythjmdiggglkeaaa.Q Go.Proofs.YthjmdiggglkeaaaW.PrintWords Go.Proofs.YthjmdiggglkeaaaW.PrintLast

theorem w64 {x : Int} (h0 : -9223372036854775808 ≤ x) (h1 : x ≤ 9223372036854775807) : wrap64 x = x := by unfold wrap64; omega
theorem ev_ex {α : Type} {g : Nat → Option α} {r : α} (h : Ev g r) : ∃ k, g k = some r := h.rounds

theorem ev_ite {α : Type} {c : Prop} [Decidable c] {g f : Nat → Option α} {r : α} (h : c → Ev g r) (k : ¬ c → Ev f r) : Ev (fun n => if c then g n else f n) r := by
  by_cases hc : c
  · exact Ev.congr (fun n => by rw [if_pos hc]) (h hc)
  · exact Ev.congr (fun n => by rw [if_neg hc]) (k hc)
theorem ev_pos {α : Type} {c : Prop} [Decidable c] {g f : Nat → Option α} {r : α} (hc : c) (h : Ev g r) : Ev (fun n => if c then g n else f n) r := Ev.congr (fun n => by rw [if_pos hc]) h
theorem ev_neg {α : Type} {c : Prop} [Decidable c] {g f : Nat → Option α} {r : α} (hc : ¬ c) (h : Ev f r) : Ev (fun n => if c then g n else f n) r := Ev.congr (fun n => by rw [if_neg hc]) h
theorem ev_some {α : Type} {x r : α} (h : x = r) : Ev (fun _ => some x) r := by rw [h]; exact Ev.now _
theorem ev_eq {α : Type} {x : Option α} {r : α} (h : x = some r) : Ev (fun _ => x) r := by rw [h]; exact Ev.now _
theorem ev_succ {α : Type} {g : Nat → Option α} {r : α} (h : Ev (fun k => g (k + 1)) r) : Ev g r := Ev.step (fun _ => rfl) h
theorem ev_to {α : Type} {g : Nat → Option α} {r r' : α} (h : Ev g r) (e : r = r') : Ev g r' := e ▸ h

theorem set_mid {α : Type} (p : List α) (x y : α) (r : List α) (i : Nat) (h : p.length = i) : (p ++ x :: r).set i y = p ++ y :: r := by
  subst h
  simp
theorem drop_at {α : Type} (l : List α) (z : α) (i : Nat) (h : i < l.length) : l.drop i = l.getD i z :: l.drop (i + 1) := by
  rw [List.drop_eq_getElem_cons h, List.getD_eq_getElem?_getD, List.getElem?_eq_getElem h]
  rfl
-- toLink
/-! Link: lists -/
def toLink1 (x : S134) : S93 := ⟨x.f0, x.f1, x.f2, x.f3⟩
def toLinkL (l : List S134) : List S93 := l.map toLink1
theorem toLinkL_len (l : List S134) : (toLinkL l).length = l.length := by simp [toLinkL]
theorem laws_toLinkS_l0_ev (l : List S134) (hl : l.length ≤ 9223372036854775807) (d : Nat) : ∀ i : Nat, i + d = l.length →
    Ev (fun k => laws_toLinkS.l0 k l ((toLinkL l).take i ++ List.replicate d z93) i) (toLinkL l) := by
  induction d with
  | zero =>
    intro i hi
    apply ev_succ
    simp only [laws_toLinkS.l0]
    refine ev_neg (by omega) (ev_some ?_)
    rw [List.take_of_length_le (by rw [toLinkL_len]; omega)]
    simp
  | succ d ih =>
    intro i hi
    have hr := ih (i + 1) (by omega)
    have hlt : i < (toLinkL l).length := by rw [toLinkL_len]; omega
    apply ev_succ
    simp only [laws_toLinkS.l0, laws_toLink.f, Option.bind_some]
    have hset : ((toLinkL l).take i ++ List.replicate (d + 1) z93).set ((i : Int).toNat) (⟨(rd_T134 l i).f0, (rd_T134 l i).f1, (rd_T134 l i).f2, (rd_T134 l i).f3⟩ : S93) = (toLinkL l).take (i + 1) ++ List.replicate d z93 := by
      rw [List.replicate_succ, set_mid _ _ _ _ _ (by rw [List.length_take]; omega), List.take_succ_eq_append_getElem hlt]
      rw [List.append_assoc]
      congr 1
      simp only [List.singleton_append]
      congr 1
      have hli : i < l.length := by omega
      simp [toLinkL, toLink1, rd_T134, List.getD_eq_getElem?_getD, hli]
    rw [hset, w64 (by omega) (by omega)]
    refine ev_pos (by omega) (ev_pos (by omega) (ev_pos ?_ hr))
    simp only [List.length_append, List.length_take, List.length_replicate, toLinkL_len]
    omega
theorem laws_toLinkS_ev (l : List S134) (hl : l.length ≤ 1048576) : Ev (fun k => laws_toLinkS.f k l) (toLinkL l) := by
  unfold laws_toLinkS.f
  refine ev_pos (by omega) (ev_pos (by omega) ?_)
  exact laws_toLinkS_l0_ev l (by omega) l.length 0 (by omega)

-- toThing
/-! Thing: lists -/
def toThing1 (x : S136) : S102 := ⟨x.f0, x.f1, x.f2, x.f3⟩
def toThingL (l : List S136) : List S102 := l.map toThing1
theorem toThingL_len (l : List S136) : (toThingL l).length = l.length := by simp [toThingL]
theorem laws_toThingS_l0_ev (l : List S136) (hl : l.length ≤ 9223372036854775807) (d : Nat) : ∀ i : Nat, i + d = l.length →
    Ev (fun k => laws_toThingS.l0 k l ((toThingL l).take i ++ List.replicate d z102) i) (toThingL l) := by
  induction d with
  | zero =>
    intro i hi
    apply ev_succ
    simp only [laws_toThingS.l0]
    refine ev_neg (by omega) (ev_some ?_)
    rw [List.take_of_length_le (by rw [toThingL_len]; omega)]
    simp
  | succ d ih =>
    intro i hi
    have hr := ih (i + 1) (by omega)
    have hlt : i < (toThingL l).length := by rw [toThingL_len]; omega
    apply ev_succ
    simp only [laws_toThingS.l0, laws_toThing.f, Option.bind_some]
    have hset : ((toThingL l).take i ++ List.replicate (d + 1) z102).set ((i : Int).toNat) (⟨(rd_T136 l i).f0, (rd_T136 l i).f1, (rd_T136 l i).f2, (rd_T136 l i).f3⟩ : S102) = (toThingL l).take (i + 1) ++ List.replicate d z102 := by
      rw [List.replicate_succ, set_mid _ _ _ _ _ (by rw [List.length_take]; omega), List.take_succ_eq_append_getElem hlt]
      rw [List.append_assoc]
      congr 1
      simp only [List.singleton_append]
      congr 1
      have hli : i < l.length := by omega
      simp [toThingL, toThing1, rd_T136, List.getD_eq_getElem?_getD, hli]
    rw [hset, w64 (by omega) (by omega)]
    refine ev_pos (by omega) (ev_pos (by omega) (ev_pos ?_ hr))
    simp only [List.length_append, List.length_take, List.length_replicate, toThingL_len]
    omega
theorem laws_toThingS_ev (l : List S136) (hl : l.length ≤ 1048576) : Ev (fun k => laws_toThingS.f k l) (toThingL l) := by
  unfold laws_toThingS.f
  refine ev_pos (by omega) (ev_pos (by omega) ?_)
  exact laws_toThingS_l0_ev l (by omega) l.length 0 (by omega)

theorem laws_szLinkS_eq (l : List S134) (hl : l.length ≤ 9223372036854775807) (n : Int) (h0 : 0 ≤ n) (h1 : n ≤ 1048576) : laws_szLinkS.f l n = some (if n < (l.length : Int) then -1 else n - l.length) := by
  unfold laws_szLinkS.f
  rw [w64 (by omega) (by omega)]
  by_cases h : n < (l.length : Int)
  · rw [if_pos (by omega), if_pos h]
  · rw [if_neg (by omega), if_neg h]

theorem laws_szThingS_eq (l : List S136) (hl : l.length ≤ 9223372036854775807) (n : Int) (h0 : 0 ≤ n) (h1 : n ≤ 1048576) : laws_szThingS.f l n = some (if n < (l.length : Int) then -1 else n - l.length) := by
  unfold laws_szThingS.f
  rw [w64 (by omega) (by omega)]
  by_cases h : n < (l.length : Int)
  · rw [if_pos (by omega), if_pos h]
  · rw [if_neg (by omega), if_neg h]

theorem laws_eqLink_refl (a b c d : Int) : laws_eqLink.f a b c d a b c d = some true := by
  unfold laws_eqLink.f
  simp
theorem laws_eqLinkS_l0_ev (l : List S93) (hl : l.length ≤ 9223372036854775807) (d : Nat) : ∀ i : Nat, i + d = l.length → Ev (fun k => laws_eqLinkS.l0 k l l i) true := by
  induction d with
  | zero =>
    intro i hi
    apply ev_succ
    simp only [laws_eqLinkS.l0]
    exact ev_neg (by omega) (Ev.now _)
  | succ d ih =>
    intro i hi
    apply ev_succ
    simp only [laws_eqLinkS.l0, laws_eqLink_refl, if_true, Option.bind_some]
    rw [w64 (by omega) (by omega)]
    exact ev_pos (by omega) (ev_pos (by omega) (ev_pos (by omega) (ih (i + 1) (by omega))))
theorem laws_eqLinkS_refl (l : List S93) (hl : l.length ≤ 9223372036854775807) : Ev (fun k => laws_eqLinkS.f k l l) true := by
  unfold laws_eqLinkS.f
  exact ev_pos rfl (laws_eqLinkS_l0_ev l hl l.length 0 (by omega))

theorem laws_eqThing_refl (a b c : Int) (d : Bool) : laws_eqThing.f a b c d a b c d = some true := by
  unfold laws_eqThing.f
  simp
theorem laws_eqThingS_l0_ev (l : List S102) (hl : l.length ≤ 9223372036854775807) (d : Nat) : ∀ i : Nat, i + d = l.length → Ev (fun k => laws_eqThingS.l0 k l l i) true := by
  induction d with
  | zero =>
    intro i hi
    apply ev_succ
    simp only [laws_eqThingS.l0]
    exact ev_neg (by omega) (Ev.now _)
  | succ d ih =>
    intro i hi
    apply ev_succ
    simp only [laws_eqThingS.l0, laws_eqThing_refl, if_true, Option.bind_some]
    rw [w64 (by omega) (by omega)]
    exact ev_pos (by omega) (ev_pos (by omega) (ev_pos (by omega) (ih (i + 1) (by omega))))
theorem laws_eqThingS_refl (l : List S102) (hl : l.length ≤ 9223372036854775807) : Ev (fun k => laws_eqThingS.f k l l) true := by
  unfold laws_eqThingS.f
  exact ev_pos rfl (laws_eqThingS_l0_ev l hl l.length 0 (by omega))

theorem laws_toNet_ev (n : Int) (l : List S134) (m : List S136) (hl : l.length ≤ 1048576) (hm : m.length ≤ 1048576) : Ev (fun k => laws_toNet.f k n l m) (n, toLinkL l, toThingL m) := by
  unfold laws_toNet.f
  exact Ev.bind (laws_toLinkS_ev l hl) (Ev.bind (laws_toThingS_ev m hm) (Ev.now _))
theorem laws_eqNet_refl (n : Int) (l : List S93) (m : List S102) (hl : l.length ≤ 9223372036854775807) (hm : m.length ≤ 9223372036854775807) : Ev (fun k => laws_eqNet.f k n l m n l m) true := by
  unfold laws_eqNet.f
  exact ev_pos rfl (Ev.bind (laws_eqLinkS_refl l hl) (ev_pos rfl (Ev.bind (laws_eqThingS_refl m hm) (ev_pos rfl (Ev.now _)))))
theorem laws_szNet_cases (n : Int) (l : List S134) (m : List S136) (hl : l.length ≤ 9223372036854775807) (hm : m.length ≤ 9223372036854775807) (t : Int) (h0 : 0 ≤ t) (h1 : t ≤ 1048576) :
    laws_szNet.f n l m t = some (-1) ∨ (laws_szNet.f n l m t = some (t - l.length - m.length) ∧ (l.length : Int) + m.length ≤ t) := by
  unfold laws_szNet.f
  rw [laws_szLinkS_eq l hl t h0 h1, Option.bind_some]
  by_cases hc : t < (l.length : Int)
  · rw [if_pos hc, if_pos (by omega)]; exact .inl rfl
  · rw [if_neg hc, if_neg (by omega), laws_szThingS_eq m hm _ (by omega) (by omega), Option.bind_some]
    by_cases hd : t - (l.length : Int) < (m.length : Int)
    · rw [if_pos hd, if_pos (by omega)]; exact .inl rfl
    · rw [if_neg hd, if_neg (by omega)]; exact .inr ⟨rfl, by omega⟩

theorem impl_in_eq (a b c : Int) : impl_in.f a b c = some (decide (b ≤ a ∧ a ≤ c)) := by
  unfold impl_in.f
  by_cases h : a ≥ b
  · rw [if_pos h]; congr 1; simp; omega
  · rw [if_neg h]; congr 1; simp; omega

theorem spec_l01In_eq (a b c : Int) : spec_l01In.f a b c = some (decide (b ≤ a ∧ a ≤ c)) := by
  unfold spec_l01In.f
  by_cases h : a ≥ b
  · rw [if_pos h]; congr 1; simp; omega
  · rw [if_neg h]; congr 1; simp; omega

def okLink (n : Int) (x : S93) : Bool := decide (1 ≤ n ∧ n ≤ 6) && (decide (1 ≤ x.f0 ∧ x.f0 ≤ n) && (decide (1 ≤ x.f1 ∧ x.f1 ≤ n) && (decide (x.f0 < x.f1) && (decide (1 ≤ x.f2 ∧ x.f2 ≤ 1000) && decide (0 ≤ x.f3 ∧ x.f3 ≤ 2)))))
def aheadB (a b : S93) : Bool := decide (a.f0 < b.f0 ∨ a.f0 = b.f0 ∧ (a.f1 < b.f1 ∨ a.f1 = b.f1 ∧ a.f3 < b.f3))
def lessB (a b : S102) : Bool := decide (a.f1 < b.f1 ∨ a.f1 = b.f1 ∧ a.f0 < b.f0)
def okThing (n : Int) (x : S102) : Bool := decide (1 ≤ x.f1 ∧ x.f1 ≤ 9) && (decide (1 ≤ x.f0 ∧ x.f0 ≤ n) && decide (1 ≤ x.f2 ∧ x.f2 ≤ 1000))
def linksGo (n : Int) : Option S93 → List S93 → Bool
  | _, [] => true
  | p, x :: xs => okLink n x && p.all (fun y => aheadB y x) && linksGo n (some x) xs
def thingsGo (n : Int) : Option S102 → List S102 → Bool
  | _, [] => true
  | p, x :: xs => okThing n x && p.all (fun y => lessB y x) && thingsGo n (some x) xs
def netB (n : Int) (l : List S93) (m : List S102) : Bool := (decide (1 ≤ n ∧ n ≤ 6) && (!decide ((l.length : Int) > 12) && !decide ((m.length : Int) > 4))) && (linksGo n none l && thingsGo n none m)
def pvK (l : List S93) (i : Nat) : Option S93 := if i = 0 then none else some (l.getD (i - 1) z93)
theorem pvK_succ (l : List S93) (i : Nat) : pvK l (i + 1) = some (l.getD i z93) := by simp [pvK]
theorem rdKp (l : List S93) (i : Nat) (h : 0 < i) (hl : i < 9223372036854775807) : rd_T93 l (wrap64 ((i : Int) - 1)) = l.getD (i - 1) z93 := by
  rw [w64 (by omega) (by omega), show (i : Int) - 1 = ((i - 1 : Nat) : Int) by omega]
  rfl
def pvT (l : List S102) (i : Nat) : Option S102 := if i = 0 then none else some (l.getD (i - 1) z102)
theorem pvT_succ (l : List S102) (i : Nat) : pvT l (i + 1) = some (l.getD i z102) := by simp [pvT]
theorem rdTp (l : List S102) (i : Nat) (h : 0 < i) (hl : i < 9223372036854775807) : rd_T102 l (wrap64 ((i : Int) - 1)) = l.getD (i - 1) z102 := by
  rw [w64 (by omega) (by omega), show (i : Int) - 1 = ((i - 1 : Nat) : Int) by omega]
  rfl
theorem impl_LinkOk_eq (n : Int) (x : S93) : impl_LinkOk.f n x.f0 x.f1 x.f2 x.f3 = some (okLink n x) := by
  unfold impl_LinkOk.f okLink
  simp only [impl_in_eq, Option.bind_some, decide_eq_true_eq]
  by_cases h1 : 1 ≤ n ∧ n ≤ 6
  · rw [if_pos h1, decide_eq_true h1, Bool.true_and]
    by_cases h2 : 1 ≤ x.f0 ∧ x.f0 ≤ n
    · rw [if_pos h2, decide_eq_true h2, Bool.true_and]
      by_cases h3 : 1 ≤ x.f1 ∧ x.f1 ≤ n
      · rw [if_pos h3, decide_eq_true h3, Bool.true_and]
        by_cases h4 : x.f0 < x.f1
        · rw [if_pos h4, decide_eq_true h4, Bool.true_and]
          by_cases h5 : 1 ≤ x.f2 ∧ x.f2 ≤ 1000
          · rw [if_pos h5, decide_eq_true h5, Bool.true_and]
          · rw [if_neg h5, decide_eq_false h5, Bool.false_and]
        · rw [if_neg h4, decide_eq_false h4, Bool.false_and]
      · rw [if_neg h3, decide_eq_false h3, Bool.false_and]
    · rw [if_neg h2, decide_eq_false h2, Bool.false_and]
  · rw [if_neg h1, decide_eq_false h1, Bool.false_and]
theorem spec_LinkOk_eq (n : Int) (x : S93) : spec_LinkOk.f n x.f0 x.f1 x.f2 x.f3 = some (okLink n x) := by
  rw [← impl_LinkOk_eq]
  unfold spec_LinkOk.f impl_LinkOk.f
  simp only [spec_l01In_eq, impl_in_eq]
theorem impl_ahead_eq (a b : S93) : impl_ahead.f a.f0 a.f1 a.f2 a.f3 b.f0 b.f1 b.f2 b.f3 = some (aheadB a b) := by
  unfold impl_ahead.f aheadB
  repeat' split
  all_goals (congr 1; rw [Bool.eq_iff_iff, decide_eq_true_eq, decide_eq_true_eq]; omega)
theorem spec_l03Ahead_eq (a b : S93) : spec_l03Ahead.f a.f0 a.f1 a.f2 a.f3 b.f0 b.f1 b.f2 b.f3 = some (aheadB a b) := by
  unfold spec_l03Ahead.f aheadB
  repeat' split
  all_goals (congr 1; rw [Bool.eq_iff_iff]; simp only [decide_eq_true_eq, true_iff, Bool.false_eq_true, false_iff]; omega)
theorem impl_less_eq (a b : S102) : impl_less.f a.f0 a.f1 a.f2 a.f3 b.f0 b.f1 b.f2 b.f3 = some (lessB a b) := by
  unfold impl_less.f lessB
  repeat' split
  all_goals (congr 1; rw [Bool.eq_iff_iff]; simp only [decide_eq_true_eq, true_iff, Bool.false_eq_true, false_iff]; omega)
theorem spec_l03Thing_eq (a b : S102) : spec_l03Thing.f a.f0 a.f1 a.f2 a.f3 b.f0 b.f1 b.f2 b.f3 = some (lessB a b) := by
  unfold spec_l03Thing.f lessB
  repeat' split
  all_goals (congr 1; rw [Bool.eq_iff_iff]; simp only [decide_eq_true_eq, true_iff, Bool.false_eq_true, false_iff]; omega)

theorem spec_NetOk_l1_ev (n : Int) (l : List S93) (m : List S102) (hm : m.length ≤ 9223372036854775000) (d : Nat) : ∀ i : Nat, i + d = m.length →
    Ev (fun k => spec_NetOk.l1 k i n l m) (thingsGo n (pvT m i) (m.drop i)) := by
  induction d with
  | zero =>
    intro i hi
    rw [List.drop_eq_nil_of_le (by omega)]
    apply ev_succ
    simp only [spec_NetOk.l1]
    exact ev_neg (by omega) (ev_some (by simp [thingsGo]))
  | succ d ih =>
    intro i hi
    have hr := ih (i + 1) (by omega)
    obtain ⟨x, hx⟩ : ∃ x, rd_T102 m (i : Int) = x := ⟨_, rfl⟩
    have hx2 : m.getD i z102 = x := hx
    rw [pvT_succ, hx2] at hr
    rw [drop_at m z102 i (by omega), hx2, thingsGo, okThing]
    apply ev_succ
    simp only [spec_NetOk.l1, hx, spec_l01In_eq, Option.bind_some, decide_eq_true_eq]
    rw [w64 (x := (i : Int) + 1) (by omega) (by omega)]
    refine ev_pos (by omega) (ev_pos (by omega) ?_)
    refine ev_ite (fun h2 => ?_) (fun h2 => ev_some (by simp [h2]))
    refine ev_ite (fun h1 => ?_) (fun h1 => ev_some (by simp [h1]))
    refine ev_ite (fun h3 => ?_) (fun h3 => ev_some (by simp [h3]))
    refine ev_ite (fun h4 => ?_) (fun h4 => ?_)
    · have h0 : 0 < i := by omega
      have hp : pvT m i = some (m.getD (i - 1) z102) := by unfold pvT; rw [if_neg (by omega)]
      rw [hp]
      simp only [rdTp m i h0 (by omega), spec_l03Thing_eq, Option.bind_some]
      refine ev_pos (by rw [w64 (by omega) (by omega)]; omega) (ev_pos (by rw [w64 (by omega) (by omega)]; omega) ?_)
      refine ev_ite (fun h5 => ?_) (fun h5 => ev_some ?_)
      · exact ev_to hr (by rw [decide_eq_true h1, decide_eq_true h2, decide_eq_true h3]; simp only [Option.all_some, h5, Bool.true_and])
      · have h5' : lessB (m.getD (i - 1) z102) x = false := by simpa using h5
        simp only [Option.all_some, h5', Bool.and_false, Bool.false_and]
    · have h0 : i = 0 := by omega
      have hp : pvT m i = none := by rw [h0]; rfl
      rw [hp]
      exact ev_to hr (by simp [h1, h2, h3])
theorem spec_NetOk_l0_ev (n : Int) (l : List S93) (m : List S102) (hl : l.length ≤ 9223372036854775000) (hm : m.length ≤ 9223372036854775000) (d : Nat) : ∀ i : Nat, i + d = l.length →
    Ev (fun k => spec_NetOk.l0 k i n l m) (linksGo n (pvK l i) (l.drop i) && thingsGo n none m) := by
  induction d with
  | zero =>
    intro i hi
    rw [List.drop_eq_nil_of_le (by omega)]
    apply ev_succ
    simp only [spec_NetOk.l0]
    exact ev_neg (by omega) (ev_to (spec_NetOk_l1_ev n l m hm m.length 0 (by omega)) (by simp [linksGo, pvT]))
  | succ d ih =>
    intro i hi
    have hr := ih (i + 1) (by omega)
    obtain ⟨x, hx⟩ : ∃ x, rd_T93 l (i : Int) = x := ⟨_, rfl⟩
    have hx2 : l.getD i z93 = x := hx
    rw [pvK_succ, hx2] at hr
    rw [drop_at l z93 i (by omega), hx2, linksGo]
    apply ev_succ
    simp only [spec_NetOk.l0, hx, spec_LinkOk_eq, Option.bind_some]
    rw [w64 (x := (i : Int) + 1) (by omega) (by omega)]
    refine ev_pos (by omega) (ev_pos (by omega) ?_)
    refine ev_ite (fun h1 => ?_) (fun h1 => ev_some (by simp [h1]))
    refine ev_ite (fun h4 => ?_) (fun h4 => ?_)
    · have h0 : 0 < i := by omega
      have hp : pvK l i = some (l.getD (i - 1) z93) := by unfold pvK; rw [if_neg (by omega)]
      rw [hp]
      simp only [rdKp l i h0 (by omega), spec_l03Ahead_eq, Option.bind_some]
      refine ev_pos (by rw [w64 (by omega) (by omega)]; omega) (ev_pos (by rw [w64 (by omega) (by omega)]; omega) ?_)
      refine ev_ite (fun h5 => ?_) (fun h5 => ev_some ?_)
      · exact ev_to hr (by simp only [Option.all_some, h1, h5, Bool.true_and])
      · have h5' : aheadB (l.getD (i - 1) z93) x = false := by simpa using h5
        simp only [Option.all_some, h5', Bool.and_false, Bool.false_and]
    · have h0 : i = 0 := by omega
      have hp : pvK l i = none := by rw [h0]; rfl
      rw [hp]
      exact ev_to hr (by simp [h1])
theorem spec_NetOk_ev (n : Int) (l : List S93) (m : List S102) (hl : l.length ≤ 9223372036854775000) (hm : m.length ≤ 9223372036854775000) : Ev (fun k => spec_NetOk.f k n l m) (netB n l m) := by
  have hL := spec_NetOk_l0_ev n l m hl hm l.length 0 (by omega)
  have hj : ∀ b : Bool, Ev (fun k => spec_NetOk.j0 k b n l m) (!b && (linksGo n none l && thingsGo n none m)) := by
    intro b
    apply ev_succ
    simp only [spec_NetOk.j0]
    refine ev_ite (fun h => ev_some (by simp [h])) (fun h => ev_to hL ?_)
    have h' : b = false := by simpa using h
    simp [h', pvK]
  unfold spec_NetOk.f netB
  simp only [spec_l01In_eq, Option.bind_some, decide_eq_true_eq]
  refine ev_ite (fun h1 => ?_) (fun h1 => ?_)
  · refine ev_ite (fun h2 => ?_) (fun h2 => ?_)
    · exact ev_to (hj true) (by simp [h2])
    · exact ev_to (hj _) (by rw [decide_eq_true h1, decide_eq_false h2]; simp)
  · exact ev_to (hj true) (by simp [h1])

theorem impl_NetOk_l1_ev (n : Int) (l : List S93) (m : List S102) (hm : m.length ≤ 9223372036854775000) (d : Nat) : ∀ i : Nat, i + d = m.length →
    Ev (fun k => impl_NetOk.l1 k m (m.length : Int) i n l m) (thingsGo n (pvT m i) (m.drop i)) := by
  induction d with
  | zero =>
    intro i hi
    rw [List.drop_eq_nil_of_le (by omega)]
    apply ev_succ
    simp only [impl_NetOk.l1]
    exact ev_neg (by omega) (ev_some (by simp [thingsGo]))
  | succ d ih =>
    intro i hi
    have hr := ih (i + 1) (by omega)
    obtain ⟨x, hx⟩ : ∃ x, rd_T102 m (i : Int) = x := ⟨_, rfl⟩
    have hx2 : m.getD i z102 = x := hx
    rw [pvT_succ, hx2] at hr
    rw [drop_at m z102 i (by omega), hx2, thingsGo, okThing]
    apply ev_succ
    simp only [impl_NetOk.l1, hx, impl_in_eq, Option.bind_some, decide_eq_true_eq]
    rw [w64 (x := (i : Int) + 1) (by omega) (by omega)]
    refine ev_pos (by omega) (ev_pos (by omega) (ev_pos (by omega) ?_))
    refine ev_ite (fun h1 => ?_) (fun h1 => ev_some (by simp [h1]))
    refine ev_ite (fun h2 => ?_) (fun h2 => ev_some (by simp [h2]))
    refine ev_ite (fun h3 => ?_) (fun h3 => ev_some (by simp [h3]))
    refine ev_ite (fun h4 => ?_) (fun h4 => ?_)
    · have h0 : 0 < i := by omega
      have hp : pvT m i = some (m.getD (i - 1) z102) := by unfold pvT; rw [if_neg (by omega)]
      rw [hp]
      simp only [rdTp m i h0 (by omega), impl_less_eq, Option.bind_some]
      refine ev_pos (by rw [w64 (by omega) (by omega)]; omega) (ev_pos (by rw [w64 (by omega) (by omega)]; omega) ?_)
      refine ev_ite (fun h5 => ?_) (fun h5 => ev_some ?_)
      · exact ev_to hr (by rw [decide_eq_true h1, decide_eq_true h2, decide_eq_true h3]; simp only [Option.all_some, h5, Bool.true_and])
      · have h5' : lessB (m.getD (i - 1) z102) x = false := by simpa using h5
        simp only [Option.all_some, h5', Bool.and_false, Bool.false_and]
    · have h0 : i = 0 := by omega
      have hp : pvT m i = none := by rw [h0]; rfl
      rw [hp]
      exact ev_to hr (by simp [h1, h2, h3])
theorem impl_NetOk_l0_ev (n : Int) (l : List S93) (m : List S102) (hl : l.length ≤ 9223372036854775000) (hm : m.length ≤ 9223372036854775000) (d : Nat) : ∀ i : Nat, i + d = l.length →
    Ev (fun k => impl_NetOk.l0 k l (l.length : Int) i n l m) (linksGo n (pvK l i) (l.drop i) && thingsGo n none m) := by
  induction d with
  | zero =>
    intro i hi
    rw [List.drop_eq_nil_of_le (by omega)]
    apply ev_succ
    simp only [impl_NetOk.l0]
    exact ev_neg (by omega) (ev_to (impl_NetOk_l1_ev n l m hm m.length 0 (by omega)) (by simp [linksGo, pvT]))
  | succ d ih =>
    intro i hi
    have hr := ih (i + 1) (by omega)
    obtain ⟨x, hx⟩ : ∃ x, rd_T93 l (i : Int) = x := ⟨_, rfl⟩
    have hx2 : l.getD i z93 = x := hx
    rw [pvK_succ, hx2] at hr
    rw [drop_at l z93 i (by omega), hx2, linksGo]
    apply ev_succ
    simp only [impl_NetOk.l0, hx, impl_LinkOk_eq, Option.bind_some]
    rw [w64 (x := (i : Int) + 1) (by omega) (by omega)]
    refine ev_pos (by omega) (ev_pos (by omega) (ev_pos (by omega) ?_))
    refine ev_ite (fun h1 => ?_) (fun h1 => ev_some (by simp [h1]))
    refine ev_ite (fun h4 => ?_) (fun h4 => ?_)
    · have h0 : 0 < i := by omega
      have hp : pvK l i = some (l.getD (i - 1) z93) := by unfold pvK; rw [if_neg (by omega)]
      rw [hp]
      simp only [rdKp l i h0 (by omega), impl_ahead_eq, Option.bind_some]
      refine ev_pos (by rw [w64 (by omega) (by omega)]; omega) (ev_pos (by rw [w64 (by omega) (by omega)]; omega) ?_)
      refine ev_ite (fun h5 => ?_) (fun h5 => ev_some ?_)
      · exact ev_to hr (by simp only [Option.all_some, h1, h5, Bool.true_and])
      · have h5' : aheadB (l.getD (i - 1) z93) x = false := by simpa using h5
        simp only [Option.all_some, h5', Bool.and_false, Bool.false_and]
    · have h0 : i = 0 := by omega
      have hp : pvK l i = none := by rw [h0]; rfl
      rw [hp]
      exact ev_to hr (by simp [h1])
theorem impl_NetOk_ev (n : Int) (l : List S93) (m : List S102) (hl : l.length ≤ 9223372036854775000) (hm : m.length ≤ 9223372036854775000) : Ev (fun k => impl_NetOk.f k n l m) (netB n l m) := by
  have hL := impl_NetOk_l0_ev n l m hl hm l.length 0 (by omega)
  have hj : ∀ b : Bool, Ev (fun k => impl_NetOk.j0 k b n l m) (!b && (linksGo n none l && thingsGo n none m)) := by
    intro b
    apply ev_succ
    simp only [impl_NetOk.j0]
    refine ev_ite (fun h => ev_some (by simp [h])) (fun h => ev_to hL ?_)
    have h' : b = false := by simpa using h
    simp [h', pvK]
  unfold impl_NetOk.f netB
  simp only [impl_in_eq, Option.bind_some, decide_eq_true_eq]
  refine ev_ite (fun h1 => ?_) (fun h1 => ?_)
  · refine ev_ite (fun h2 => ?_) (fun h2 => ?_)
    · exact ev_to (hj true) (by simp [h2])
    · exact ev_to (hj _) (by rw [decide_eq_true h1, decide_eq_false h2]; simp)
  · exact ev_to (hj true) (by simp [h1])

-- toNear
/-! Near: lists -/
def toNear1 (x : S141) : S127 := ⟨x.f0, x.f1⟩
def toNearL (l : List S141) : List S127 := l.map toNear1
theorem toNearL_len (l : List S141) : (toNearL l).length = l.length := by simp [toNearL]
theorem laws_toNearS_l0_ev (l : List S141) (hl : l.length ≤ 9223372036854775807) (d : Nat) : ∀ i : Nat, i + d = l.length →
    Ev (fun k => laws_toNearS.l0 k l ((toNearL l).take i ++ List.replicate d z127) i) (toNearL l) := by
  induction d with
  | zero =>
    intro i hi
    apply ev_succ
    simp only [laws_toNearS.l0]
    refine ev_neg (by omega) (ev_some ?_)
    rw [List.take_of_length_le (by rw [toNearL_len]; omega)]
    simp
  | succ d ih =>
    intro i hi
    have hr := ih (i + 1) (by omega)
    have hlt : i < (toNearL l).length := by rw [toNearL_len]; omega
    apply ev_succ
    simp only [laws_toNearS.l0, laws_toNear.f, Option.bind_some]
    have hset : ((toNearL l).take i ++ List.replicate (d + 1) z127).set ((i : Int).toNat) (⟨(rd_T141 l i).f0, (rd_T141 l i).f1⟩ : S127) = (toNearL l).take (i + 1) ++ List.replicate d z127 := by
      rw [List.replicate_succ, set_mid _ _ _ _ _ (by rw [List.length_take]; omega), List.take_succ_eq_append_getElem hlt]
      rw [List.append_assoc]
      congr 1
      simp only [List.singleton_append]
      congr 1
      have hli : i < l.length := by omega
      simp [toNearL, toNear1, rd_T141, List.getD_eq_getElem?_getD, hli]
    rw [hset, w64 (by omega) (by omega)]
    refine ev_pos (by omega) (ev_pos (by omega) (ev_pos ?_ hr))
    simp only [List.length_append, List.length_take, List.length_replicate, toNearL_len]
    omega
theorem laws_toNearS_ev (l : List S141) (hl : l.length ≤ 1048576) : Ev (fun k => laws_toNearS.f k l) (toNearL l) := by
  unfold laws_toNearS.f
  refine ev_pos (by omega) (ev_pos (by omega) ?_)
  exact laws_toNearS_l0_ev l (by omega) l.length 0 (by omega)

theorem laws_szNearS_eq (l : List S141) (hl : l.length ≤ 9223372036854775807) (n : Int) (h0 : 0 ≤ n) (h1 : n ≤ 1048576) : laws_szNearS.f l n = some (if n < (l.length : Int) then -1 else n - l.length) := by
  unfold laws_szNearS.f
  rw [w64 (by omega) (by omega)]
  by_cases h : n < (l.length : Int)
  · rw [if_pos (by omega), if_pos h]
  · rw [if_neg (by omega), if_neg h]

theorem laws_toRecord_ev (a b c d e : Int) (l : List S141) (f : Int) (g : Bool) (hl : l.length ≤ 1048576) : Ev (fun k => laws_toRecord.f k a b c d e l f g) (a, b, c, d, e, toNearL l, f, g) := by
  unfold laws_toRecord.f
  exact Ev.bind (laws_toNearS_ev l hl) (Ev.now _)
theorem laws_szRecord_eq (a b c d e : Int) (l : List S141) (f : Int) (g : Bool) (hl : l.length ≤ 9223372036854775807) (n : Int) (h0 : 0 ≤ n) (h1 : n ≤ 1048576) :
    laws_szRecord.f a b c d e l f g n = some (if n < (l.length : Int) then -1 else n - l.length) := by
  unfold laws_szRecord.f
  rw [laws_szNearS_eq l hl n h0 h1, Option.bind_some]
  by_cases h : n < (l.length : Int)
  · rw [if_pos h, if_pos (by omega)]
  · rw [if_neg h, if_neg (by omega)]

theorem laws_eqNear_refl (a b : Int) : laws_eqNear.f a b a b = some true := by
  unfold laws_eqNear.f
  simp
theorem laws_eqNearS_l0_ev (l : List S127) (hl : l.length ≤ 9223372036854775807) (d : Nat) : ∀ i : Nat, i + d = l.length → Ev (fun k => laws_eqNearS.l0 k l l i) true := by
  induction d with
  | zero =>
    intro i hi
    apply ev_succ
    simp only [laws_eqNearS.l0]
    exact ev_neg (by omega) (Ev.now _)
  | succ d ih =>
    intro i hi
    apply ev_succ
    simp only [laws_eqNearS.l0, laws_eqNear_refl, if_true, Option.bind_some]
    rw [w64 (by omega) (by omega)]
    exact ev_pos (by omega) (ev_pos (by omega) (ev_pos (by omega) (ih (i + 1) (by omega))))
theorem laws_eqNearS_refl (l : List S127) (hl : l.length ≤ 9223372036854775807) : Ev (fun k => laws_eqNearS.f k l l) true := by
  unfold laws_eqNearS.f
  exact ev_pos rfl (laws_eqNearS_l0_ev l hl l.length 0 (by omega))

theorem laws_eqRecord_refl (a b c d e : Int) (l : List S127) (f : Int) (g : Bool) (hl : l.length ≤ 9223372036854775807) : Ev (fun k => laws_eqRecord.f k a b c d e l f g a b c d e l f g) true := by
  unfold laws_eqRecord.f
  simp only [if_true]
  refine Ev.bind (laws_eqNearS_refl l hl) ?_
  simp
  exact Ev.now _

def toRec1 (x : S57) : S61 := ⟨x.f0, x.f1, x.f2, x.f3, x.f4, toNearL x.f5, x.f6, x.f7⟩
def toRecL (l : List S57) : List S61 := l.map toRec1
theorem toRecL_len (l : List S57) : (toRecL l).length = l.length := by simp [toRecL]
/-- No list of a record is longer than can be counted. -/
def Lens (s : List S61) : Prop := s.length ≤ 9223372036854775000 ∧ ∀ x ∈ s, x.f5.length ≤ 9223372036854775000
theorem getD_mem {α : Type} (l : List α) (z : α) (i : Nat) (h : i < l.length) : l.getD i z ∈ l := by
  rw [List.getD_eq_getElem?_getD, List.getElem?_eq_getElem h]
  exact List.getElem_mem h
theorem laws_toRecordS_l0_ev (l : List S57) (hl : l.length ≤ 9223372036854775000) (hx : ∀ x ∈ l, x.f5.length ≤ 1048576) (d : Nat) : ∀ i : Nat, i + d = l.length →
    Ev (fun k => laws_toRecordS.l0 k l ((toRecL l).take i ++ List.replicate d z61) i) (toRecL l) := by
  induction d with
  | zero =>
    intro i hi
    apply ev_succ
    simp only [laws_toRecordS.l0]
    refine ev_neg (by omega) (ev_some ?_)
    rw [List.take_of_length_le (by rw [toRecL_len]; omega)]
    simp
  | succ d ih =>
    intro i hi
    have hr := ih (i + 1) (by omega)
    have hli : i < l.length := by omega
    have hlt : i < (toRecL l).length := by rw [toRecL_len]; omega
    obtain ⟨x, hxe⟩ : ∃ x, rd_T57 l (i : Int) = x := ⟨_, rfl⟩
    have hx2 : l.getD i z57 = x := hxe
    have hm : x ∈ l := by rw [← hx2]; exact getD_mem l _ i hli
    apply ev_succ
    simp only [laws_toRecordS.l0, hxe]
    have hset : ((toRecL l).take i ++ List.replicate (d + 1) z61).set ((i : Int).toNat) (toRec1 x) = (toRecL l).take (i + 1) ++ List.replicate d z61 := by
      rw [List.replicate_succ, set_mid _ _ _ _ _ (by rw [List.length_take]; omega), List.take_succ_eq_append_getElem hlt]
      rw [List.append_assoc]
      congr 1
      simp only [List.singleton_append]
      congr 1
      rw [← hx2]
      simp [toRecL, List.getD_eq_getElem?_getD, hli]
    refine ev_pos (by omega) (ev_pos (by omega) (Ev.bind (laws_toRecord_ev x.f0 x.f1 x.f2 x.f3 x.f4 x.f5 x.f6 x.f7 (hx x hm)) (ev_pos ?_ ?_)))
    · simp only [List.length_append, List.length_take, List.length_replicate, toRecL_len]
      omega
    · have hset' : ((toRecL l).take i ++ List.replicate (d + 1) z61).set ((i : Int).toNat) (⟨x.f0, x.f1, x.f2, x.f3, x.f4, toNearL x.f5, x.f6, x.f7⟩ : S61) = (toRecL l).take (i + 1) ++ List.replicate d z61 := hset
      simp only [hset']
      rw [w64 (by omega) (by omega)]
      exact hr
theorem laws_toRecordS_ev (l : List S57) (hl : l.length ≤ 1048576) (hx : ∀ x ∈ l, x.f5.length ≤ 1048576) : Ev (fun k => laws_toRecordS.f k l) (toRecL l) := by
  unfold laws_toRecordS.f
  refine ev_pos (by omega) (ev_pos (by omega) ?_)
  exact laws_toRecordS_l0_ev l (by omega) hx l.length 0 (by omega)
theorem laws_szRecordS_l0 (l : List S57) (hl : l.length ≤ 9223372036854775000) (hx : ∀ x ∈ l, x.f5.length ≤ 9223372036854775807) (d : Nat) : ∀ (i : Nat) (n : Int), i + d = l.length → 0 ≤ n → n ≤ 1048576 →
    (Ev (fun k => laws_szRecordS.l0 k l n i) (-1)) ∨ (∃ t, Ev (fun k => laws_szRecordS.l0 k l n i) t ∧ 0 ≤ t ∧ t ≤ n ∧ ∀ x ∈ l.drop i, x.f5.length ≤ 1048576) := by
  induction d with
  | zero =>
    intro i n hi h0 h1
    refine .inr ⟨n, ?_, h0, by omega, by rw [List.drop_eq_nil_of_le (by omega)]; simp⟩
    apply ev_succ
    simp only [laws_szRecordS.l0]
    exact ev_neg (by omega) (Ev.now _)
  | succ d ih =>
    intro i n hi h0 h1
    have hli : i < l.length := by omega
    obtain ⟨x, hxe⟩ : ∃ x, rd_T57 l (i : Int) = x := ⟨_, rfl⟩
    have hx2 : l.getD i z57 = x := hxe
    have hm : x ∈ l := by rw [← hx2]; exact getD_mem l _ i hli
    have key : ∀ r, (n < (x.f5.length : Int) → r = -1) → (¬ n < (x.f5.length : Int) → Ev (fun k => laws_szRecordS.l0 k l (n - x.f5.length) ((i : Int) + 1)) r) → Ev (fun k => laws_szRecordS.l0 k l n i) r := by
      intro r ha hb
      apply ev_succ
      simp only [laws_szRecordS.l0, hxe]
      rw [laws_szRecord_eq x.f0 x.f1 x.f2 x.f3 x.f4 x.f5 x.f6 x.f7 (hx x hm) n h0 h1, w64 (by omega) (by omega)]
      simp only [Option.bind_some]
      refine ev_pos (by omega) (ev_pos (by omega) ?_)
      by_cases hc : n < (x.f5.length : Int)
      · rw [if_pos hc]
        rw [ha hc]
        exact ev_pos (by omega) (Ev.now _)
      · rw [if_neg hc]
        exact ev_neg (by omega) (hb hc)
    by_cases hc : n < (x.f5.length : Int)
    · exact .inl (key _ (fun _ => rfl) (fun h => absurd hc h))
    · rcases ih (i + 1) (n - x.f5.length) (by omega) (by omega) (by omega) with h | ⟨t, h, h2, h3, h4⟩
      · exact .inl (key _ (fun h => absurd h hc) (fun _ => h))
      · refine .inr ⟨t, key _ (fun h => absurd h hc) (fun _ => h), h2, by omega, fun y hy => ?_⟩
        rw [drop_at l z57 i hli, hx2] at hy
        rcases List.mem_cons.1 hy with rfl | hy
        · omega
        · exact h4 y hy
theorem laws_szRecordS_cases (l : List S57) (hl : l.length ≤ 9223372036854775807) (hx : ∀ x ∈ l, x.f5.length ≤ 9223372036854775807) (n : Int) (h0 : 0 ≤ n) (h1 : n ≤ 1048576) :
    (Ev (fun k => laws_szRecordS.f k l n) (-1)) ∨ (∃ t, Ev (fun k => laws_szRecordS.f k l n) t ∧ 0 ≤ t ∧ t ≤ n ∧ l.length ≤ 1048576 ∧ ∀ x ∈ l, x.f5.length ≤ 1048576) := by
  unfold laws_szRecordS.f
  rw [w64 (by omega) (by omega)]
  by_cases hc : n < (l.length : Int)
  · exact .inl (ev_pos (by omega) (Ev.now _))
  · rcases laws_szRecordS_l0 l (by omega) hx l.length 0 (n - l.length) (by omega) (by omega) (by omega) with h | ⟨t, h, h2, h3, h4⟩
    · exact .inl (ev_neg (by omega) h)
    · exact .inr ⟨t, ev_neg (by omega) h, h2, by omega, by omega, fun x hm => h4 x (by simpa using hm)⟩
theorem laws_eqRecordS_l0_ev (l : List S61) (hl : Lens l) (d : Nat) : ∀ i : Nat, i + d = l.length → Ev (fun k => laws_eqRecordS.l0 k l l i) true := by
  induction d with
  | zero =>
    intro i hi
    apply ev_succ
    simp only [laws_eqRecordS.l0]
    exact ev_neg (by omega) (Ev.now _)
  | succ d ih =>
    intro i hi
    have h1 := hl.1
    obtain ⟨x, hxe⟩ : ∃ x, rd_T61 l (i : Int) = x := ⟨_, rfl⟩
    have hx2 : l.getD i z61 = x := hxe
    have hm : x ∈ l := by rw [← hx2]; exact getD_mem l _ i (by omega)
    have h2 := hl.2 x hm
    apply ev_succ
    simp only [laws_eqRecordS.l0, hxe]
    rw [w64 (by omega) (by omega)]
    refine ev_pos (by omega) (ev_pos (by omega) (ev_pos (by omega) (Ev.bind (laws_eqRecord_refl _ _ _ _ _ _ _ _ (by omega)) (ev_pos rfl (ih (i + 1) (by omega))))))
theorem laws_eqRecordS_refl (l : List S61) (hl : Lens l) : Ev (fun k => laws_eqRecordS.f k l l) true := by
  unfold laws_eqRecordS.f
  exact ev_pos rfl (laws_eqRecordS_l0_ev l hl l.length 0 (by omega))

def beforeB (a b : S61) : Bool := decide (a.f0 < b.f0 ∨ a.f0 = b.f0 ∧ (a.f1 < b.f1 ∨ a.f1 = b.f1 ∧ (a.f2 < b.f2 ∨ a.f2 = b.f2 ∧ a.f3 < b.f3)))
/-- What is near ascends, and is right; the one before, if there is one. -/
def nearGo (ow : Int) : Option Int → List S127 → Bool
  | _, [] => true
  | p, x :: xs => decide (1 ≤ x.f0 ∧ x.f0 ≤ 6) && !decide (x.f0 = ow) && decide (1 ≤ x.f1 ∧ x.f1 ≤ 1000) && p.all (fun y => decide (y < x.f0)) && nearGo ow (some x.f0) xs
def nearB (ow : Int) (l : List S127) : Bool := nearGo ow none l
def pvN (l : List S127) (i : Nat) : Option Int := if i = 0 then none else some (l.getD (i - 1) z127).f0
theorem pvN_succ (l : List S127) (i : Nat) : pvN l (i + 1) = some (l.getD i z127).f0 := by simp [pvN]
theorem rdNp (l : List S127) (i : Nat) (h : 0 < i) (hl : i < 9223372036854775807) : rd_T127 l (wrap64 ((i : Int) - 1)) = l.getD (i - 1) z127 := by
  rw [w64 (by omega) (by omega), show (i : Int) - 1 = ((i - 1 : Nat) : Int) by omega]
  rfl

/-- Is what a record holds right for its kind? -/
def recK (ar ki ow ke : Int) (l : List S127) (co : Int) (fa : Bool) : Bool :=
  if ki = 1 then decide (0 ≤ ar ∧ ar ≤ 2) && decide (ke = 0) && nearB ow l && decide (co = 0) && !fa
  else if ki = 2 then decide (0 ≤ ar ∧ ar ≤ 2) && decide (1 ≤ ke ∧ ke ≤ 6) && decide (l.length = 0) && decide (0 ≤ co ∧ co ≤ 60000) && !fa
  else if ki = 3 then decide (ar = 9) && decide (1 ≤ ke ∧ ke ≤ 9) && decide (l.length = 0) && (decide (1 ≤ co ∧ co ≤ 1000) || (co == 60000))
  else false
def recB (ar ki ow ke se : Int) (l : List S127) (co : Int) (fa : Bool) : Bool := decide (1 ≤ ow ∧ ow ≤ 6) && decide (1 ≤ se ∧ se ≤ 100000) && recK ar ki ow ke l co fa

def recR (r : S61) : Bool := recB r.f0 r.f1 r.f2 r.f3 r.f4 r.f5 r.f6 r.f7
/-- Right records, one ahead of the other; the one before, if there is one. -/
def storeGo : Option S61 → List S61 → Bool
  | _, [] => true
  | p, x :: xs => recR x && p.all (fun y => beforeB y x) && storeGo (some x) xs
def storeB (s : List S61) : Bool := decide (s.length ≤ 150) && storeGo none s
def pvR (l : List S61) (i : Nat) : Option S61 := if i = 0 then none else some (l.getD (i - 1) z61)
theorem pvR_succ (l : List S61) (i : Nat) : pvR l (i + 1) = some (l.getD i z61) := by simp [pvR]
theorem rdRp (l : List S61) (i : Nat) (h : 0 < i) (hl : i < 9223372036854775807) : rd_T61 l (wrap64 ((i : Int) - 1)) = l.getD (i - 1) z61 := by
  rw [w64 (by omega) (by omega), show (i : Int) - 1 = ((i - 1 : Nat) : Int) by omega]
  rfl

theorem spec_Before_eq (a b : S61) : spec_Before.f a.f0 a.f1 a.f2 a.f3 a.f4 a.f5 a.f6 a.f7 b.f0 b.f1 b.f2 b.f3 b.f4 b.f5 b.f6 b.f7 = some (beforeB a b) := by
  unfold spec_Before.f beforeB
  by_cases h0 : a.f0 = b.f0
  · by_cases h1 : a.f1 = b.f1
    · by_cases h2 : a.f2 = b.f2
      · rw [if_pos h0, if_pos h1, if_pos h2]
        congr 1
        rw [Bool.eq_iff_iff, decide_eq_true_eq, decide_eq_true_eq]
        omega
      · rw [if_pos h0, if_pos h1, if_neg h2]
        congr 1
        rw [Bool.eq_iff_iff, decide_eq_true_eq, decide_eq_true_eq]
        omega
    · rw [if_pos h0, if_neg h1]
      congr 1
      rw [Bool.eq_iff_iff, decide_eq_true_eq, decide_eq_true_eq]
      omega
  · rw [if_neg h0]
    congr 1
    rw [Bool.eq_iff_iff, decide_eq_true_eq, decide_eq_true_eq]
    omega

theorem spec_l04Near_l0_ev (q0 q1 ow q3 q4 q6 : Int) (q7 : Bool) (l : List S127) (hl : l.length ≤ 9223372036854775807) (d : Nat) : ∀ i : Nat, i + d = l.length →
    Ev (fun k => spec_l04Near.l0 k i q0 q1 ow q3 q4 l q6 q7) (nearGo ow (pvN l i) (l.drop i)) := by
  induction d with
  | zero =>
    intro i hi
    rw [List.drop_eq_nil_of_le (by omega)]
    apply ev_succ
    simp only [spec_l04Near.l0]
    exact ev_neg (by omega) (ev_some rfl)
  | succ d ih =>
    intro i hi
    have hr := ih (i + 1) (by omega)
    obtain ⟨x, hx⟩ : ∃ x, rd_T127 l (i : Int) = x := ⟨_, rfl⟩
    have hx2 : l.getD i z127 = x := hx
    rw [pvN_succ, hx2] at hr
    rw [drop_at l z127 i (by omega), hx2]
    apply ev_succ
    simp only [spec_l04Near.l0, spec_l01In_eq, Option.bind_some, decide_eq_true_eq, hx]
    rw [nearGo]
    refine ev_pos (by omega) (ev_pos (by omega) ?_)
    refine ev_ite (fun h1 => ?_) (fun h1 => ev_some (by rw [decide_eq_false h1]; rfl))
    refine ev_ite (fun h2 => ev_some (by rw [decide_eq_true h1, decide_eq_true h2]; rfl)) (fun h2 => ?_)
    refine ev_ite (fun h3 => ?_) (fun h3 => ev_some (by rw [decide_eq_true h1, decide_eq_false h2, decide_eq_false h3]; rfl))
    refine ev_ite (fun h4 => ?_) (fun h4 => ?_)
    · have h0 : 0 < i := by omega
      refine ev_pos (by rw [w64 (by omega) (by omega)]; omega) (ev_pos (by rw [w64 (by omega) (by omega)]; omega) ?_)
      have hp : pvN l i = some (l.getD (i - 1) z127).f0 := by unfold pvN; rw [if_neg (by omega)]
      rw [hp, rdNp l i h0 (by omega)]
      refine ev_ite (fun h5 => ev_some ?_) (fun h5 => ?_)
      · have h6 : ¬ ((l.getD (i - 1) z127).f0 < x.f0) := by omega
        simp only [Option.all_some, decide_eq_false h6, Bool.and_false, Bool.false_and]
      · have h6 : (l.getD (i - 1) z127).f0 < x.f0 := by omega
        rw [w64 (by omega) (by omega)]
        refine ev_to hr ?_
        simp only [Option.all_some, decide_eq_true h6, decide_eq_true h1, decide_eq_false h2, decide_eq_true h3, Bool.true_and, Bool.not_false]
    · have h0 : i = 0 := by omega
      have hp : pvN l i = none := by rw [h0]; rfl
      rw [hp, w64 (by omega) (by omega)]
      refine ev_to hr ?_
      simp only [Option.all_none, decide_eq_true h1, decide_eq_false h2, decide_eq_true h3, Bool.true_and, Bool.not_false]
theorem spec_l04Near_ev (q0 q1 ow q3 q4 q6 : Int) (q7 : Bool) (l : List S127) (hl : l.length ≤ 9223372036854775807) : Ev (fun k => spec_l04Near.f k q0 q1 ow q3 q4 l q6 q7) (nearB ow l) :=
  spec_l04Near_l0_ev q0 q1 ow q3 q4 q6 q7 l hl l.length 0 (by omega)

-- spec_RecordOk
/-! spec_RecordOk -/
theorem spec_RecordOk_ev (ar ki ow ke se : Int) (l : List S127) (co : Int) (fa : Bool) (hl : l.length ≤ 9223372036854775807) : Ev (fun k => spec_RecordOk.f k ar ki ow ke se l co fa) (recB ar ki ow ke se l co fa) := by
  have hj : ∀ b : Bool, Ev (fun k => spec_RecordOk.j0 k b ar ki ow ke se l co fa) (!b && recK ar ki ow ke l co fa) := by
    intro b
    apply ev_succ
    simp only [spec_RecordOk.j0, spec_l01In_eq, Option.bind_some, decide_eq_true_eq]
    refine ev_ite (fun hb => ev_some (by simp [hb])) (fun hb => ?_)
    have hb' : b = false := by simpa using hb
    rw [hb']
    unfold recK
    refine ev_ite (fun h1 => ?_) (fun h1 => ?_)
    · rw [if_pos h1]
      refine ev_ite (fun h2 => ?_) (fun h2 => ev_some (by simp [h2]))
      refine ev_ite (fun h3 => ?_) (fun h3 => ev_some (by simp [h3]))
      refine Ev.bind (spec_l04Near_ev ar ki ow ke se co fa l hl) ?_
      refine ev_ite (fun h4 => ?_) (fun h4 => ev_some (by simp [h4]))
      refine ev_ite (fun h5 => ev_some ?_) (fun h5 => ev_some (by simp [h5]))
      simp [h2, h3, h4, h5]
    · rw [if_neg h1]
      refine ev_ite (fun h1 => ?_) (fun h1 => ?_)
      · rw [if_pos h1]
        refine ev_ite (fun h2 => ?_) (fun h2 => ev_some (by simp [h2]))
        refine ev_ite (fun h3 => ?_) (fun h3 => ev_some (by simp [h3]))
        refine ev_ite (fun h4 => ?_) (fun h4 => ev_some ?_)
        · have h4' : l.length = 0 := by omega
          refine ev_ite (fun h5 => ev_some ?_) (fun h5 => ev_some (by simp [h5]))
          simp [h2, h3, h4', h5]
        · have h4' : ¬ l.length = 0 := by omega
          simp [h4']
      · rw [if_neg h1]
        refine ev_ite (fun h1 => ?_) (fun h1 => ?_)
        · rw [if_pos h1]
          refine ev_ite (fun h2 => ?_) (fun h2 => ev_some (by simp [h2]))
          refine ev_ite (fun h3 => ?_) (fun h3 => ev_some (by simp [h3]))
          refine ev_ite (fun h4 => ?_) (fun h4 => ev_some ?_)
          · have h4' : l.length = 0 := by omega
            refine ev_ite (fun h5 => ev_some ?_) (fun h5 => ev_some ?_)
            · simp [h2, h3, h4', h5]
            · simp [h2, h3, h4', h5]
          · have h4' : ¬ l.length = 0 := by omega
            simp [h4']
        · rw [if_neg h1]
          exact ev_some (by simp)
  unfold spec_RecordOk.f
  simp only [spec_l01In_eq, Option.bind_some, decide_eq_true_eq]
  unfold recB
  refine ev_ite (fun h1 => ?_) (fun h1 => ?_)
  · exact ev_to (hj _) (by simp [h1])
  · exact ev_to (hj _) (by simp [h1])

theorem spec_StoreOk_l0_ev (l : List S61) (hl : Lens l) (d : Nat) : ∀ i : Nat, i + d = l.length →
    Ev (fun k => spec_StoreOk.l0 k l i) (storeGo (pvR l i) (l.drop i)) := by
  have hl1 := hl.1
  induction d with
  | zero =>
    intro i hi
    rw [List.drop_eq_nil_of_le (by omega)]
    apply ev_succ
    simp only [spec_StoreOk.l0]
    exact ev_neg (by omega) (ev_some (by simp [storeGo]))
  | succ d ih =>
    intro i hi
    have hr := ih (i + 1) (by omega)
    obtain ⟨x, hx⟩ : ∃ x, rd_T61 l (i : Int) = x := ⟨_, rfl⟩
    have hx2 : l.getD i z61 = x := hx
    have hm : x ∈ l := by rw [← hx2]; exact getD_mem l _ i (by omega)
    have hn := hl.2 x hm
    rw [pvR_succ, hx2] at hr
    rw [drop_at l z61 i (by omega), hx2, storeGo]
    apply ev_succ
    simp only [spec_StoreOk.l0, hx]
    rw [w64 (x := (i : Int) + 1) (by omega) (by omega)]
    refine ev_pos (by omega) (ev_pos (by omega) ?_)
    refine Ev.bind (spec_RecordOk_ev x.f0 x.f1 x.f2 x.f3 x.f4 x.f5 x.f6 x.f7 (by omega)) ?_
    have hrec : recB x.f0 x.f1 x.f2 x.f3 x.f4 x.f5 x.f6 x.f7 = recR x := rfl
    rw [hrec]
    refine ev_ite (fun h1 => ?_) (fun h1 => ev_some (by simp [h1]))
    refine ev_ite (fun h2 => ?_) (fun h2 => ?_)
    · have h0 : 0 < i := by omega
      have hp : pvR l i = some (l.getD (i - 1) z61) := by unfold pvR; rw [if_neg (by omega)]
      rw [hp]
      simp only [rdRp l i h0 (by omega), spec_Before_eq, Option.bind_some]
      refine ev_pos (by rw [w64 (by omega) (by omega)]; omega) (ev_pos (by rw [w64 (by omega) (by omega)]; omega) ?_)
      refine ev_ite (fun h3 => ?_) (fun h3 => ev_some ?_)
      · refine ev_to hr ?_
        simp only [Option.all_some, h1, h3, Bool.true_and]
      · have h3' : beforeB (l.getD (i - 1) z61) x = false := by simpa using h3
        simp only [Option.all_some, h3', Bool.and_false, Bool.false_and]
    · have h0 : i = 0 := by omega
      have hp : pvR l i = none := by rw [h0]; rfl
      rw [hp]
      refine ev_to hr ?_
      simp [h1]
theorem spec_StoreOk_ev (l : List S61) (hl : Lens l) : Ev (fun k => spec_StoreOk.f k l) (storeB l) := by
  unfold spec_StoreOk.f storeB
  refine ev_ite (fun h => ev_some ?_) (fun h => ?_)
  · rw [decide_eq_false (by omega), Bool.false_and]
  · rw [decide_eq_true (by omega), Bool.true_and]
    exact spec_StoreOk_l0_ev l hl l.length 0 (by omega)

theorem impl_Before_eq (a b : S61) : impl_Before.f a.f0 a.f1 a.f2 a.f3 a.f4 a.f5 a.f6 a.f7 b.f0 b.f1 b.f2 b.f3 b.f4 b.f5 b.f6 b.f7 = some (beforeB a b) := by
  unfold impl_Before.f beforeB
  by_cases h0 : a.f0 = b.f0
  · by_cases h1 : a.f1 = b.f1
    · by_cases h2 : a.f2 = b.f2
      · rw [if_pos h0, if_pos h1, if_pos h2]
        congr 1
        rw [Bool.eq_iff_iff, decide_eq_true_eq, decide_eq_true_eq]
        omega
      · rw [if_pos h0, if_pos h1, if_neg h2]
        congr 1
        rw [Bool.eq_iff_iff, decide_eq_true_eq, decide_eq_true_eq]
        omega
    · rw [if_pos h0, if_neg h1]
      congr 1
      rw [Bool.eq_iff_iff, decide_eq_true_eq, decide_eq_true_eq]
      omega
  · rw [if_neg h0]
    congr 1
    rw [Bool.eq_iff_iff, decide_eq_true_eq, decide_eq_true_eq]
    omega

theorem impl_nearOk_l0_ev (q0 q1 ow q3 q4 q6 : Int) (q7 : Bool) (l : List S127) (hl : l.length ≤ 9223372036854775807) (d : Nat) : ∀ i : Nat, i + d = l.length →
    Ev (fun k => impl_nearOk.l0 k l (l.length : Int) i q0 q1 ow q3 q4 l q6 q7) (nearGo ow (pvN l i) (l.drop i)) := by
  induction d with
  | zero =>
    intro i hi
    rw [List.drop_eq_nil_of_le (by omega)]
    apply ev_succ
    simp only [impl_nearOk.l0]
    exact ev_neg (by omega) (ev_some rfl)
  | succ d ih =>
    intro i hi
    have hr := ih (i + 1) (by omega)
    obtain ⟨x, hx⟩ : ∃ x, rd_T127 l (i : Int) = x := ⟨_, rfl⟩
    have hx2 : l.getD i z127 = x := hx
    rw [pvN_succ, hx2] at hr
    rw [drop_at l z127 i (by omega), hx2]
    apply ev_succ
    simp only [impl_nearOk.l0, impl_in_eq, Option.bind_some, decide_eq_true_eq, hx]
    rw [nearGo]
    refine ev_pos (by omega) (ev_pos (by omega) (ev_pos (by omega) ?_))
    refine ev_ite (fun h1 => ?_) (fun h1 => ev_some (by rw [decide_eq_false h1]; rfl))
    refine ev_ite (fun h2 => ev_some (by rw [decide_eq_true h1, decide_eq_true h2]; rfl)) (fun h2 => ?_)
    refine ev_ite (fun h3 => ?_) (fun h3 => ev_some (by rw [decide_eq_true h1, decide_eq_false h2, decide_eq_false h3]; rfl))
    refine ev_ite (fun h4 => ?_) (fun h4 => ?_)
    · have h0 : 0 < i := by omega
      refine ev_pos (by rw [w64 (by omega) (by omega)]; omega) (ev_pos (by rw [w64 (by omega) (by omega)]; omega) ?_)
      have hp : pvN l i = some (l.getD (i - 1) z127).f0 := by unfold pvN; rw [if_neg (by omega)]
      rw [hp, rdNp l i h0 (by omega)]
      refine ev_ite (fun h5 => ev_some ?_) (fun h5 => ?_)
      · have h6 : ¬ ((l.getD (i - 1) z127).f0 < x.f0) := by omega
        simp only [Option.all_some, decide_eq_false h6, Bool.and_false, Bool.false_and]
      · have h6 : (l.getD (i - 1) z127).f0 < x.f0 := by omega
        rw [w64 (by omega) (by omega)]
        refine ev_to hr ?_
        simp only [Option.all_some, decide_eq_true h6, decide_eq_true h1, decide_eq_false h2, decide_eq_true h3, Bool.true_and, Bool.not_false]
    · have h0 : i = 0 := by omega
      have hp : pvN l i = none := by rw [h0]; rfl
      rw [hp, w64 (by omega) (by omega)]
      refine ev_to hr ?_
      simp only [Option.all_none, decide_eq_true h1, decide_eq_false h2, decide_eq_true h3, Bool.true_and, Bool.not_false]
theorem impl_nearOk_ev (q0 q1 ow q3 q4 q6 : Int) (q7 : Bool) (l : List S127) (hl : l.length ≤ 9223372036854775807) : Ev (fun k => impl_nearOk.f k q0 q1 ow q3 q4 l q6 q7) (nearB ow l) :=
  impl_nearOk_l0_ev q0 q1 ow q3 q4 q6 q7 l hl l.length 0 (by omega)

-- impl_RecordOk
/-! impl_RecordOk -/
theorem impl_RecordOk_ev (ar ki ow ke se : Int) (l : List S127) (co : Int) (fa : Bool) (hl : l.length ≤ 9223372036854775807) : Ev (fun k => impl_RecordOk.f k ar ki ow ke se l co fa) (recB ar ki ow ke se l co fa) := by
  have hj : ∀ b : Bool, Ev (fun k => impl_RecordOk.j0 k b ar ki ow ke se l co fa) (!b && recK ar ki ow ke l co fa) := by
    intro b
    apply ev_succ
    simp only [impl_RecordOk.j0, impl_in_eq, Option.bind_some, decide_eq_true_eq]
    refine ev_ite (fun hb => ev_some (by simp [hb])) (fun hb => ?_)
    have hb' : b = false := by simpa using hb
    rw [hb']
    unfold recK
    refine ev_ite (fun h1 => ?_) (fun h1 => ?_)
    · rw [if_pos h1]
      refine ev_ite (fun h2 => ?_) (fun h2 => ev_some (by simp [h2]))
      refine ev_ite (fun h3 => ?_) (fun h3 => ev_some (by simp [h3]))
      refine Ev.bind (impl_nearOk_ev ar ki ow ke se co fa l hl) ?_
      refine ev_ite (fun h4 => ?_) (fun h4 => ev_some (by simp [h4]))
      refine ev_ite (fun h5 => ev_some ?_) (fun h5 => ev_some (by simp [h5]))
      simp [h2, h3, h4, h5]
    · rw [if_neg h1]
      refine ev_ite (fun h1 => ?_) (fun h1 => ?_)
      · rw [if_pos h1]
        refine ev_ite (fun h2 => ?_) (fun h2 => ev_some (by simp [h2]))
        refine ev_ite (fun h3 => ?_) (fun h3 => ev_some (by simp [h3]))
        refine ev_ite (fun h4 => ?_) (fun h4 => ev_some ?_)
        · have h4' : l.length = 0 := by omega
          refine ev_ite (fun h5 => ev_some ?_) (fun h5 => ev_some (by simp [h5]))
          simp [h2, h3, h4', h5]
        · have h4' : ¬ l.length = 0 := by omega
          simp [h4']
      · rw [if_neg h1]
        refine ev_ite (fun h1 => ?_) (fun h1 => ?_)
        · rw [if_pos h1]
          refine ev_ite (fun h2 => ?_) (fun h2 => ev_some (by simp [h2]))
          refine ev_ite (fun h3 => ?_) (fun h3 => ev_some (by simp [h3]))
          refine ev_ite (fun h4 => ?_) (fun h4 => ev_some ?_)
          · have h4' : l.length = 0 := by omega
            refine ev_ite (fun h5 => ev_some ?_) (fun h5 => ev_some ?_)
            · simp [h2, h3, h4', h5]
            · simp [h2, h3, h4', h5]
          · have h4' : ¬ l.length = 0 := by omega
            simp [h4']
        · rw [if_neg h1]
          exact ev_some (by simp)
  unfold impl_RecordOk.f
  simp only [impl_in_eq, Option.bind_some, decide_eq_true_eq]
  unfold recB
  refine ev_ite (fun h1 => ?_) (fun h1 => ?_)
  · exact ev_to (hj _) (by simp [h1])
  · exact ev_to (hj _) (by simp [h1])

theorem impl_StoreOk_l0_ev (l : List S61) (hl : Lens l) (d : Nat) : ∀ i : Nat, i + d = l.length →
    Ev (fun k => impl_StoreOk.l0 k l l (l.length : Int) i) (decide (l.length ≤ 150) && storeGo (pvR l i) (l.drop i)) := by
  have hl1 := hl.1
  induction d with
  | zero =>
    intro i hi
    rw [List.drop_eq_nil_of_le (by omega)]
    apply ev_succ
    simp only [impl_StoreOk.l0]
    exact ev_neg (by omega) (ev_some (by rw [storeGo, Bool.and_true]; by_cases h : l.length ≤ 150 <;> simp [h] <;> omega))
  | succ d ih =>
    intro i hi
    have hr := ih (i + 1) (by omega)
    obtain ⟨x, hx⟩ : ∃ x, rd_T61 l (i : Int) = x := ⟨_, rfl⟩
    have hx2 : l.getD i z61 = x := hx
    have hm : x ∈ l := by rw [← hx2]; exact getD_mem l _ i (by omega)
    have hn := hl.2 x hm
    rw [pvR_succ, hx2] at hr
    rw [drop_at l z61 i (by omega), hx2, storeGo]
    apply ev_succ
    simp only [impl_StoreOk.l0, hx]
    rw [w64 (x := (i : Int) + 1) (by omega) (by omega)]
    refine ev_pos (by omega) (ev_pos (by omega) (ev_pos (by omega) ?_))
    refine Ev.bind (impl_RecordOk_ev x.f0 x.f1 x.f2 x.f3 x.f4 x.f5 x.f6 x.f7 (by omega)) ?_
    have hrec : recB x.f0 x.f1 x.f2 x.f3 x.f4 x.f5 x.f6 x.f7 = recR x := rfl
    rw [hrec]
    refine ev_ite (fun h1 => ?_) (fun h1 => ev_some (by simp [h1]))
    refine ev_ite (fun h2 => ?_) (fun h2 => ?_)
    · have h0 : 0 < i := by omega
      have hp : pvR l i = some (l.getD (i - 1) z61) := by unfold pvR; rw [if_neg (by omega)]
      rw [hp]
      simp only [rdRp l i h0 (by omega), impl_Before_eq, Option.bind_some]
      refine ev_pos (by rw [w64 (by omega) (by omega)]; omega) (ev_pos (by rw [w64 (by omega) (by omega)]; omega) ?_)
      refine ev_ite (fun h3 => ?_) (fun h3 => ev_some ?_)
      · refine ev_to hr ?_
        simp only [Option.all_some, h1, h3, Bool.true_and]
      · have h3' : beforeB (l.getD (i - 1) z61) x = false := by simpa using h3
        simp only [Option.all_some, h3', Bool.and_false, Bool.false_and]
    · have h0 : i = 0 := by omega
      have hp : pvR l i = none := by rw [h0]; rfl
      rw [hp]
      refine ev_to hr ?_
      simp [h1]
theorem impl_StoreOk_ev (l : List S61) (hl : Lens l) : Ev (fun k => impl_StoreOk.f k l) (storeB l) :=
  impl_StoreOk_l0_ev l hl l.length 0 (by omega)

/-- Is this the link? -/
def hitL (a b ar : Int) (x : S93) : Bool := decide (x.f3 = ar) && (decide (x.f0 = a ∧ x.f1 = b) || decide (x.f0 = b ∧ x.f1 = a))
theorem hitL_iff (a b ar : Int) (x : S93) : hitL a b ar x = true ↔ (x.f3 = ar ∧ (x.f0 = a ∧ x.f1 = b ∨ x.f0 = b ∧ x.f1 = a)) := by
  unfold hitL
  simp
def costGo (a b ar : Int) : List S93 → Int
  | [] => 0
  | x :: xs => if hitL a b ar x = true then x.f2 else costGo a b ar xs
def atGo (a b ar : Int) : List S93 → Int → Int
  | [], _ => -1
  | x :: xs, i => if hitL a b ar x = true then i else atGo a b ar xs (i + 1)
theorem atGo_cost (a b ar : Int) (xs : List S93) : ∀ i : Nat, (atGo a b ar xs i = -1 ∧ costGo a b ar xs = 0 ∧ ∀ x ∈ xs, hitL a b ar x = false) ∨ (∃ j : Nat, j < xs.length ∧ atGo a b ar xs i = i + j ∧ costGo a b ar xs = (xs.getD j z93).f2 ∧ hitL a b ar (xs.getD j z93) = true) := by
  induction xs with
  | nil => intro i; exact .inl ⟨rfl, rfl, by simp⟩
  | cons x xs ih =>
    intro i
    by_cases h : hitL a b ar x = true
    · refine .inr ⟨0, by simp, ?_, ?_, ?_⟩
      · rw [atGo, if_pos h]; omega
      · rw [costGo, if_pos h]; rfl
      · exact h
    · rw [atGo, costGo, if_neg h, if_neg h]
      rcases ih (i + 1) with ⟨h1, h2, h3⟩ | ⟨j, h1, h2, h3, h4⟩
      · refine .inl ⟨h1, h2, fun y hy => ?_⟩
        rcases List.mem_cons.1 hy with rfl | hy
        · simpa using h
        · exact h3 y hy
      · refine .inr ⟨j + 1, by simp only [List.length_cons]; omega, ?_, ?_, ?_⟩
        · have h2' : atGo a b ar xs ((i : Int) + 1) = ((i + 1 : Nat) : Int) + j := h2
          rw [h2']; omega
        · rw [h3]; rfl
        · exact h4

theorem spec_CostTo_l0_ev (a b ar n : Int) (l : List S93) (m : List S102) (hl : l.length ≤ 9223372036854775807) (d : Nat) : ∀ i : Nat, i + d = l.length →
    Ev (fun k => spec_CostTo.l0 k a b ar i n l m) (costGo a b ar (l.drop i)) := by
  induction d with
  | zero =>
    intro i hi
    rw [List.drop_eq_nil_of_le (by omega)]
    apply ev_succ
    simp only [spec_CostTo.l0]
    exact ev_neg (by omega) (ev_some rfl)
  | succ d ih =>
    intro i hi
    have hr := ih (i + 1) (by omega)
    obtain ⟨x, hx⟩ : ∃ x, rd_T93 l (i : Int) = x := ⟨_, rfl⟩
    have hx2 : l.getD i z93 = x := hx
    rw [drop_at l z93 i (by omega), hx2]
    apply ev_succ
    simp only [spec_CostTo.l0, hx]
    rw [w64 (by omega) (by omega), costGo]
    refine ev_pos (by omega) (ev_pos (by omega) ?_)
    have yes : hitL a b ar x = true → x.f2 = (if hitL a b ar x = true then x.f2 else costGo a b ar (l.drop (i + 1))) := fun h => by rw [if_pos h]
    have no : ¬ hitL a b ar x = true → costGo a b ar (l.drop (i + 1)) = (if hitL a b ar x = true then x.f2 else costGo a b ar (l.drop (i + 1))) := fun h => by rw [if_neg h]
    repeat' (first | refine ev_ite (fun h => ?_) (fun h => ?_))
    all_goals (first | exact ev_some (yes ((hitL_iff a b ar x).2 (by omega))) | exact ev_to hr (no (fun hh => by have := (hitL_iff a b ar x).1 hh; omega)))
theorem spec_CostTo_ev (n : Int) (l : List S93) (m : List S102) (a b ar : Int) (hl : l.length ≤ 9223372036854775807) : Ev (fun k => spec_CostTo.f k n l m a b ar) (costGo a b ar l) :=
  spec_CostTo_l0_ev a b ar n l m hl l.length 0 (by omega)

theorem impl_linkAt_l0_ev (a b ar : Int) (l : List S93) (hl : l.length ≤ 9223372036854775807) (d : Nat) : ∀ i : Nat, i + d = l.length →
    Ev (fun k => impl_linkAt.l0 k a b ar l (l.length : Int) i) (atGo a b ar (l.drop i) i) := by
  induction d with
  | zero =>
    intro i hi
    rw [List.drop_eq_nil_of_le (by omega)]
    apply ev_succ
    simp only [impl_linkAt.l0]
    exact ev_neg (by omega) (ev_some rfl)
  | succ d ih =>
    intro i hi
    have hr : Ev (fun k => impl_linkAt.l0 k a b ar l (l.length : Int) ((i : Int) + 1)) (atGo a b ar (l.drop (i + 1)) ((i : Int) + 1)) := ih (i + 1) (by omega)
    obtain ⟨x, hx⟩ : ∃ x, rd_T93 l (i : Int) = x := ⟨_, rfl⟩
    have hx2 : l.getD i z93 = x := hx
    rw [drop_at l z93 i (by omega), hx2]
    apply ev_succ
    simp only [impl_linkAt.l0, hx]
    rw [w64 (by omega) (by omega), atGo]
    refine ev_pos (by omega) (ev_pos (by omega) (ev_pos (by omega) ?_))
    have yes : hitL a b ar x = true → (i : Int) = (if hitL a b ar x = true then (i : Int) else atGo a b ar (l.drop (i + 1)) ((i : Int) + 1)) := fun h => by rw [if_pos h]
    have no : ¬ hitL a b ar x = true → atGo a b ar (l.drop (i + 1)) ((i : Int) + 1) = (if hitL a b ar x = true then (i : Int) else atGo a b ar (l.drop (i + 1)) ((i : Int) + 1)) := fun h => by rw [if_neg h]
    repeat' (first | refine ev_ite (fun h => ?_) (fun h => ?_))
    all_goals (first | exact ev_some (yes ((hitL_iff a b ar x).2 (by omega))) | exact ev_to hr (no (fun hh => by have := (hitL_iff a b ar x).1 hh; omega)))
theorem impl_linkAt_ev (n : Int) (l : List S93) (m : List S102) (a b ar : Int) (hl : l.length ≤ 9223372036854775807) : Ev (fun k => impl_linkAt.f k n l m a b ar) (atGo a b ar l 0) :=
  impl_linkAt_l0_ev a b ar l hl l.length 0 (by omega)

def Small (s : List S61) : Prop := s.length ≤ 8388608 ∧ ∀ x ∈ s, x.f5.length ≤ 1048576
theorem Small.lens {s : List S61} (h : Small s) : Lens s := ⟨by have := h.1; omega, fun x hx => by have := h.2 x hx; omega⟩
theorem toRecL_small (l : List S57) (hl : l.length ≤ 1048576) (hx : ∀ x ∈ l, x.f5.length ≤ 1048576) : Small (toRecL l) := by
  refine ⟨by rw [toRecL_len]; omega, fun x h => ?_⟩
  obtain ⟨y, hy, rfl⟩ := List.mem_map.1 h
  have := hx y hy
  simp only [toRec1, toNearL_len]
  omega
def h2Go (c : Int → Int → Bool) : Option (Int × Int) → List Int → Bool
  | p, a :: b :: xs => c a b && p.all (fun q => decide (q.1 < a ∨ q.1 = a ∧ q.2 < b)) && h2Go c (some (a, b)) xs
  | _, _ => true
def linkB (id : Int) (l : List S93) (v ar : Int) : Bool := decide (0 ≤ atGo id v ar l 0)
def pvP (l : List Int) (i : Nat) : Option (Int × Int) := if i = 0 then none else some (l.getD (i - 2) 0, l.getD (i - 1) 0)
theorem pvP_succ (l : List Int) (i : Nat) : pvP l (i + 2) = some (l.getD i 0, l.getD (i + 1) 0) := by simp [pvP]
theorem linksGo_all {n : Int} (l : List S93) : ∀ p, linksGo n p l = true → ∀ x ∈ l, okLink n x = true := by
  induction l with
  | nil => intro p _ x hx; cases hx
  | cons y ys ih =>
    intro p h x hx
    simp only [linksGo, Bool.and_eq_true] at h
    rcases List.mem_cons.1 hx with rfl | hx
    · exact h.1.1
    · exact ih _ h.2 x hx
theorem linkB_cost {n : Int} (id : Int) (l : List S93) (hok : ∀ x ∈ l, okLink n x = true) (v ar : Int) :
    (costGo id v ar l = 0 ↔ linkB id l v ar = false) ∧ (linkB id l v ar = true → 1 ≤ v ∧ v ≤ 6 ∧ 0 ≤ ar ∧ ar ≤ 2) := by
  have h := atGo_cost id v ar l 0
  rw [show ((0 : Nat) : Int) = 0 from rfl] at h
  unfold linkB
  rcases h with ⟨h1, h2, _⟩ | ⟨j, hj, h1, h2, h3⟩
  · rw [h1, h2]
    exact ⟨by simp, by simp⟩
  · have hm : l.getD j z93 ∈ l := getD_mem l _ j hj
    have hk := hok _ hm
    rw [hitL_iff] at h3
    simp only [okLink, Bool.and_eq_true, decide_eq_true_eq] at hk
    rw [h1, h2]
    refine ⟨?_, fun _ => by omega⟩
    rw [decide_eq_false_iff_not]
    omega
theorem h2Go_len (c : Int → Int → Bool) (hc : ∀ v ar, c v ar = true → 1 ≤ v ∧ v ≤ 6 ∧ 0 ≤ ar ∧ ar ≤ 2) (d : Nat) : ∀ (hd : List Int) (p : Option (Int × Int)), hd.length = 2 * d → h2Go c p hd = true →
    (∀ q, p = some q → q.2 ≤ 2 ∧ 3 * q.1 + q.2 ≤ 20) → (∀ q, p = some q → 3 * q.1 + q.2 + d ≤ 20) ∧ d ≤ 18 := by
  induction d with
  | zero => intro hd p _ _ hq; exact ⟨fun q h => by have := hq q h; omega, by omega⟩
  | succ d ih =>
    intro hd p hl h hq
    match hd, hl, h with
    | a :: b :: xs, hl, h =>
      simp only [h2Go, Bool.and_eq_true] at h
      obtain ⟨⟨h1, h2⟩, h3⟩ := h
      have h4 := hc a b h1
      simp only [List.length_cons] at hl
      have h5 := ih xs (some (a, b)) (by omega) h3 (fun q hq => by cases hq; exact ⟨by omega, by simp only; omega⟩)
      have h6 := h5.1 (a, b) rfl
      simp only at h6
      refine ⟨fun q hpq => ?_, by omega⟩
      subst hpq
      have h7 := hq q rfl
      simp only [Option.all_some, decide_eq_true_eq] at h2
      omega
theorem heard_loop_spec {n : Int} (id bt : Int) (l : List S93) (m : List S102) (hd : List Int) (st : List S61) (hl : l.length ≤ 9223372036854775807) (hh : hd.length ≤ 9223372036854775000) (hok : ∀ x ∈ l, okLink n x = true) (d : Nat) : ∀ i : Nat, i + 2 * d = hd.length → (i = 0 ∨ 2 ≤ i) →
    Ev (fun k => spec_l08Heard.l0 k i id bt n l m hd st) (h2Go (linkB id l) (pvP hd i) (hd.drop i)) := by
  induction d with
  | zero =>
    intro i hi h0
    rw [List.drop_eq_nil_of_le (by omega)]
    apply ev_succ
    simp only [spec_l08Heard.l0]
    exact ev_neg (by omega) (ev_some (by simp [h2Go]))
  | succ d ih =>
    intro i hi h0
    have hr := ih (i + 2) (by omega) (by omega)
    have hC := (linkB_cost id l hok (hd.getD i 0) (hd.getD (i + 1) 0)).1
    have w1 : wrap64 ((i : Int) + 1) = ((i + 1 : Nat) : Int) := by rw [w64 (by omega) (by omega)]; omega
    have w2 : wrap64 ((i : Int) + 2) = ((i + 2 : Nat) : Int) := by rw [w64 (by omega) (by omega)]; omega
    have r0 : rd hd (i : Int) = hd.getD i 0 := rfl
    have r1 : rd hd ((i + 1 : Nat) : Int) = hd.getD (i + 1) 0 := rfl
    rw [pvP_succ] at hr
    rw [drop_at hd 0 i (by omega), drop_at hd 0 (i + 1) (by omega)]
    generalize hd.getD i 0 = a at *
    generalize hd.getD (i + 1) 0 = b at *
    apply ev_succ
    simp only [spec_l08Heard.l0, h2Go]
    rw [w1, w2]
    simp only [r0, r1]
    refine ev_pos (by omega) (ev_pos (by omega) (ev_pos (by omega) (ev_pos (by omega) (Ev.bind (spec_CostTo_ev n l m id a b hl) ?_))))
    refine ev_ite (fun h1 => ev_some (by rw [hC.1 h1]; rfl)) (fun h1 => ?_)
    have hc : linkB id l a b = true := by
      rw [← Bool.not_eq_false]
      exact fun h => h1 (hC.2 h)
    rw [hc, Bool.true_and]
    refine ev_ite (fun h2 => ?_) (fun h2 => ?_)
    · have hp : pvP hd i = some (hd.getD (i - 2) 0, hd.getD (i - 1) 0) := by unfold pvP; rw [if_neg (by omega)]
      have w3 : wrap64 ((i : Int) - 2) = ((i - 2 : Nat) : Int) := by rw [w64 (by omega) (by omega)]; omega
      have w4 : wrap64 ((i : Int) - 1) = ((i - 1 : Nat) : Int) := by rw [w64 (by omega) (by omega)]; omega
      have r3 : rd hd ((i - 2 : Nat) : Int) = hd.getD (i - 2) 0 := rfl
      have r4 : rd hd ((i - 1 : Nat) : Int) = hd.getD (i - 1) 0 := rfl
      rw [hp, w3, w4]
      simp only [r3, r4, Option.all_some]
      refine ev_pos (by omega) (ev_pos (by omega) (ev_ite (fun h3 => ev_some ?_) (fun h3 => ev_ite (fun h4 => ev_pos (by omega) (ev_pos (by omega) (ev_ite (fun h5 => ev_some ?_) (fun h5 => ev_to hr ?_)))) (fun h4 => ev_to hr ?_))))
      · rw [decide_eq_false (by omega)]; rfl
      · rw [decide_eq_false (by omega)]; rfl
      · rw [decide_eq_true (by omega), Bool.true_and]
      · rw [decide_eq_true (by omega), Bool.true_and]
    · have hp : pvP hd i = none := by unfold pvP; rw [if_pos (by omega)]
      rw [hp]
      exact ev_to hr rfl
theorem heard_loop_impl {n : Int} (id bt : Int) (l : List S93) (m : List S102) (hd : List Int) (st : List S61) (hl : l.length ≤ 9223372036854775807) (hh : hd.length ≤ 9223372036854775000) (d : Nat) : ∀ i : Nat, i + 2 * d = hd.length → (i = 0 ∨ 2 ≤ i) →
    Ev (fun k => impl_heardOk.l0 k i id bt n l m hd st) (h2Go (linkB id l) (pvP hd i) (hd.drop i)) := by
  induction d with
  | zero =>
    intro i hi h0
    rw [List.drop_eq_nil_of_le (by omega)]
    apply ev_succ
    simp only [impl_heardOk.l0]
    exact ev_neg (by omega) (ev_some (by simp [h2Go]))
  | succ d ih =>
    intro i hi h0
    have hr := ih (i + 2) (by omega) (by omega)
    have w1 : wrap64 ((i : Int) + 1) = ((i + 1 : Nat) : Int) := by rw [w64 (by omega) (by omega)]; omega
    have w2 : wrap64 ((i : Int) + 2) = ((i + 2 : Nat) : Int) := by rw [w64 (by omega) (by omega)]; omega
    have r0 : rd hd (i : Int) = hd.getD i 0 := rfl
    have r1 : rd hd ((i + 1 : Nat) : Int) = hd.getD (i + 1) 0 := rfl
    rw [pvP_succ] at hr
    rw [drop_at hd 0 i (by omega), drop_at hd 0 (i + 1) (by omega)]
    generalize hd.getD i 0 = a at *
    generalize hd.getD (i + 1) 0 = b at *
    apply ev_succ
    simp only [impl_heardOk.l0, h2Go]
    rw [w1, w2]
    simp only [r0, r1]
    refine ev_pos (by omega) (ev_pos (by omega) (ev_pos (by omega) (ev_pos (by omega) (Ev.bind (impl_linkAt_ev n l m id a b hl) ?_))))
    refine ev_ite (fun h1 => ev_some (by rw [linkB, decide_eq_false (by omega)]; rfl)) (fun h1 => ?_)
    have hc : linkB id l a b = true := by rw [linkB, decide_eq_true_eq]; omega
    rw [hc, Bool.true_and]
    refine ev_ite (fun h2 => ?_) (fun h2 => ?_)
    · have hp : pvP hd i = some (hd.getD (i - 2) 0, hd.getD (i - 1) 0) := by unfold pvP; rw [if_neg (by omega)]
      have w3 : wrap64 ((i : Int) - 2) = ((i - 2 : Nat) : Int) := by rw [w64 (by omega) (by omega)]; omega
      have w4 : wrap64 ((i : Int) - 1) = ((i - 1 : Nat) : Int) := by rw [w64 (by omega) (by omega)]; omega
      have r3 : rd hd ((i - 2 : Nat) : Int) = hd.getD (i - 2) 0 := rfl
      have r4 : rd hd ((i - 1 : Nat) : Int) = hd.getD (i - 1) 0 := rfl
      rw [hp, w3, w4]
      simp only [r3, r4, Option.all_some]
      refine ev_pos (by omega) (ev_pos (by omega) (ev_ite (fun h3 => ev_some ?_) (fun h3 => ev_ite (fun h4 => ev_pos (by omega) (ev_pos (by omega) (ev_ite (fun h5 => ev_some ?_) (fun h5 => ev_to hr ?_)))) (fun h4 => ev_to hr ?_))))
      · rw [decide_eq_false (by omega)]; rfl
      · rw [decide_eq_false (by omega)]; rfl
      · rw [decide_eq_true (by omega), Bool.true_and]
      · rw [decide_eq_true (by omega), Bool.true_and]
    · have hp : pvP hd i = none := by unfold pvP; rw [if_pos (by omega)]
      rw [hp]
      exact ev_to hr rfl
def heardSB (id : Int) (l : List S93) (hd : List Int) : Bool := decide (hd.length % 2 = 0) && h2Go (linkB id l) none hd
theorem spec_l08Heard_ev {n : Int} (id bt : Int) (l : List S93) (m : List S102) (hd : List Int) (st : List S61) (hl : l.length ≤ 9223372036854775807) (hh : hd.length ≤ 9223372036854775000) (hok : ∀ x ∈ l, okLink n x = true) :
    Ev (fun k => spec_l08Heard.f k id bt n l m hd st) (heardSB id l hd) := by
  unfold spec_l08Heard.f heardSB
  refine ev_ite (fun h1 => ev_succ ?_) (fun h1 => ev_succ ?_)
  · simp only [spec_l08Heard.j0]
    exact ev_pos trivial (ev_some (by rw [decide_eq_false (by omega)]; rfl))
  · simp only [spec_l08Heard.j0]
    have h2 : hd.length % 2 = 0 := by omega
    rw [decide_eq_true h2, Bool.true_and]
    refine ev_ite (fun h3 => ev_some ?_) (fun h3 => ?_)
    · rw [decide_eq_true_eq] at h3
      symm
      rw [← Bool.not_eq_true]
      intro h4
      have h5 := (h2Go_len (linkB id l) (fun v ar => (linkB_cost id l hok v ar).2) (hd.length / 2) hd none (by omega) h4 (fun q hq => by cases hq)).2
      omega
    · exact heard_loop_spec id bt l m hd st hl hh hok (hd.length / 2) 0 (by omega) (Or.inl rfl)
theorem impl_heardOk_ev {n : Int} (id bt : Int) (l : List S93) (m : List S102) (hd : List Int) (st : List S61) (hl : l.length ≤ 9223372036854775807) (hh : hd.length ≤ 9223372036854775000) :
    Ev (fun k => impl_heardOk.f k id bt n l m hd st) (heardSB id l hd) := by
  unfold impl_heardOk.f heardSB
  refine ev_ite (fun h1 => ?_) (fun h1 => ev_some (by rw [decide_eq_false (by omega)]; rfl))
  rw [decide_eq_true (show hd.length % 2 = 0 by omega), Bool.true_and]
  exact heard_loop_impl id bt l m hd st hl hh (hd.length / 2) 0 (by omega) (Or.inl rfl)
def selfB (id bt n : Int) (l : List S93) (m : List S102) (hd : List Int) (st : List S61) : Bool :=
  netB n l m && (decide (1 ≤ id ∧ id ≤ n) && (decide (0 ≤ bt ∧ bt ≤ 90) && (heardSB id l hd && storeB st)))
theorem netB_links {n : Int} {l : List S93} {m : List S102} (h : netB n l m = true) : ∀ x ∈ l, okLink n x = true := by
  simp only [netB, Bool.and_eq_true] at h
  exact linksGo_all l none h.2.1
theorem spec_SelfOk_ev (id bt n : Int) (l : List S93) (m : List S102) (hd : List Int) (st : List S61) (hl : l.length ≤ 9223372036854775000) (hm : m.length ≤ 9223372036854775000) (hh : hd.length ≤ 9223372036854775000) (hs : Lens st) :
    Ev (fun k => spec_SelfOk.f k id bt n l m hd st) (selfB id bt n l m hd st) := by
  unfold spec_SelfOk.f selfB
  refine Ev.bind (spec_NetOk_ev n l m hl hm) (ev_ite (fun h0 => ?_) (fun h1 => ev_some (by rw [Bool.eq_false_iff.2 h1]; rfl)))
  rw [h0, Bool.true_and]
  simp only [spec_l01In_eq, Option.bind_some]
  refine ev_ite (fun h1 => ?_) (fun h1 => ev_some (by rw [Bool.eq_false_iff.2 h1]; rfl))
  rw [h1, Bool.true_and]
  refine ev_ite (fun h1 => ?_) (fun h1 => ev_some (by rw [Bool.eq_false_iff.2 h1]; rfl))
  rw [h1, Bool.true_and]
  refine Ev.bind (spec_l08Heard_ev id bt l m hd st (by omega) hh (netB_links h0)) (ev_ite (fun h1 => ?_) (fun h1 => ev_some (by rw [Bool.eq_false_iff.2 h1]; rfl)))
  rw [h1, Bool.true_and]
  exact Ev.bind (spec_StoreOk_ev st hs) (Ev.now _)
theorem impl_SelfOk_ev (id bt n : Int) (l : List S93) (m : List S102) (hd : List Int) (st : List S61) (hl : l.length ≤ 9223372036854775000) (hm : m.length ≤ 9223372036854775000) (hh : hd.length ≤ 9223372036854775000) (hs : Lens st) :
    Ev (fun k => impl_SelfOk.f k id bt n l m hd st) (selfB id bt n l m hd st) := by
  unfold impl_SelfOk.f selfB
  refine Ev.bind (impl_NetOk_ev n l m hl hm) (ev_ite (fun h0 => ?_) (fun h1 => ev_some (by rw [Bool.eq_false_iff.2 h1]; rfl)))
  rw [h0, Bool.true_and]
  simp only [impl_in_eq, Option.bind_some]
  refine ev_ite (fun h1 => ?_) (fun h1 => ev_some (by rw [Bool.eq_false_iff.2 h1]; rfl))
  rw [h1, Bool.true_and]
  refine ev_ite (fun h1 => ?_) (fun h1 => ev_some (by rw [Bool.eq_false_iff.2 h1]; rfl))
  rw [h1, Bool.true_and]
  refine Ev.bind (impl_heardOk_ev id bt l m hd st (by omega) hh) (ev_ite (fun h1 => ?_) (fun h1 => ev_some (by rw [Bool.eq_false_iff.2 h1]; rfl)))
  rw [h1, Bool.true_and]
  exact Ev.bind (impl_StoreOk_ev st hs) (Ev.now _)

theorem laws_szIntS_eq (l : List Int) (hl : l.length ≤ 9223372036854775807) (n : Int) (h0 : 0 ≤ n) (h1 : n ≤ 1048576) : laws_szIntS.f l n = some (if n < (l.length : Int) then -1 else n - l.length) := by
  unfold laws_szIntS.f
  rw [w64 (by omega) (by omega)]
  by_cases h : n < (l.length : Int)
  · rw [if_pos (by omega), if_pos h]
  · rw [if_neg (by omega), if_neg h]
theorem laws_toIntS_l0_ev (l : List Int) (hl : l.length ≤ 9223372036854775807) (d : Nat) : ∀ i : Nat, i + d = l.length →
    Ev (fun k => laws_toIntS.l0 k l (l.take i ++ List.replicate d 0) i) l := by
  induction d with
  | zero =>
    intro i hi
    apply ev_succ
    simp only [laws_toIntS.l0]
    refine ev_neg (by omega) (ev_some ?_)
    rw [List.take_of_length_le (by omega)]
    simp
  | succ d ih =>
    intro i hi
    have hr := ih (i + 1) (by omega)
    have hlt : i < l.length := by omega
    apply ev_succ
    simp only [laws_toIntS.l0]
    have hset : (l.take i ++ List.replicate (d + 1) (0 : Int)).set ((i : Int).toNat) (rd l i) = l.take (i + 1) ++ List.replicate d 0 := by
      rw [List.replicate_succ, set_mid _ _ _ _ _ (by rw [List.length_take]; omega), List.take_succ_eq_append_getElem hlt, List.append_assoc]
      simp [rd, List.getD_eq_getElem?_getD, hlt]
    rw [hset, w64 (by omega) (by omega)]
    refine ev_pos (by omega) (ev_pos (by omega) (ev_pos ?_ hr))
    simp only [List.length_append, List.length_take, List.length_replicate]
    omega
theorem laws_toIntS_ev (l : List Int) (hl : l.length ≤ 1048576) : Ev (fun k => laws_toIntS.f k l) l := by
  unfold laws_toIntS.f
  exact ev_pos (by omega) (ev_pos (by omega) (laws_toIntS_l0_ev l (by omega) l.length 0 (by omega)))
theorem laws_eqIntS_l0_ev (l : List Int) (hl : l.length ≤ 9223372036854775807) (d : Nat) : ∀ i : Nat, i + d = l.length → Ev (fun k => laws_eqIntS.l0 k l l i) true := by
  induction d with
  | zero =>
    intro i hi
    apply ev_succ
    simp only [laws_eqIntS.l0]
    exact ev_neg (by omega) (Ev.now _)
  | succ d ih =>
    intro i hi
    apply ev_succ
    simp only [laws_eqIntS.l0, if_true]
    rw [w64 (by omega) (by omega)]
    exact ev_pos (by omega) (ev_pos (by omega) (ev_pos (by omega) (ih (i + 1) (by omega))))
theorem laws_eqIntS_refl (l : List Int) (hl : l.length ≤ 9223372036854775807) : Ev (fun k => laws_eqIntS.f k l l) true := by
  unfold laws_eqIntS.f
  exact ev_pos rfl (laws_eqIntS_l0_ev l hl l.length 0 (by omega))

theorem FnExactSelfOk : ∀ (a0_0 : Int) (a0_1 : Int) (a0_2 : Int) (l0_3 : List (S134)) (l0_4 : List (S136)) (l0_5 : List Int) (l0_6 : List (S57)), (l0_3.length ≤ 9223372036854775807) → (l0_4.length ≤ 9223372036854775807) → (l0_5.length ≤ 9223372036854775807) → (l0_6.length ≤ 9223372036854775807) → (∀ x ∈ l0_6, x.f5.length ≤ 9223372036854775807) → ∃ k, laws_FnExactSelfOk.f k a0_0 a0_1 a0_2 l0_3 l0_4 l0_5 l0_6 = some true := by
  intro id bt n l m hd st hl hm hh hst hx
  refine ev_ex ?_
  unfold laws_FnExactSelfOk.f
  have Z : Ev (fun k => laws_szSelf.f k id bt n l m hd st 1048576) (-1) ∨ ∃ t, Ev (fun k => laws_szSelf.f k id bt n l m hd st 1048576) t ∧ 0 ≤ t ∧ l.length ≤ 1048576 ∧ m.length ≤ 1048576 ∧ hd.length ≤ 1048576 ∧ st.length ≤ 1048576 ∧ ∀ x ∈ st, x.f5.length ≤ 1048576 := by
    unfold laws_szSelf.f
    rcases laws_szNet_cases n l m hl hm 1048576 (by omega) (by omega) with h | ⟨h, h2⟩
    · exact Or.inl (Ev.bind (ev_eq h) (ev_pos (by omega) (Ev.now _)))
    · simp only [h, Option.bind_some]
      by_cases h9 : (1048576 - (l.length : Int) - m.length : Int) < hd.length
      · left
        refine ev_neg (by omega) ?_
        rw [laws_szIntS_eq hd hh _ (by omega) (by omega), if_pos (by omega)]
        simp only [Option.bind_some]
        exact ev_pos (by omega) (Ev.now _)
      · rcases laws_szRecordS_cases st hst hx (1048576 - (l.length : Int) - m.length - hd.length) (by omega) (by omega) with h' | ⟨t', h', h1', h2', h3', h4'⟩
        · left
          refine ev_neg (by omega) ?_
          rw [laws_szIntS_eq hd hh _ (by omega) (by omega), if_neg (by omega)]
          simp only [Option.bind_some]
          exact ev_neg (by omega) (Ev.bind h' (ev_pos (by omega) (Ev.now _)))
        · right
          refine ⟨t', ev_neg (by omega) ?_, h1', by omega, by omega, by omega, h3', h4'⟩
          rw [laws_szIntS_eq hd hh _ (by omega) (by omega), if_neg (by omega)]
          simp only [Option.bind_some]
          exact ev_neg (by omega) (Ev.bind h' (ev_neg (by omega) (Ev.now _)))
  rcases Z with h | ⟨t, h, h1, h2, h3, h4, h5, h6⟩
  · exact Ev.bind h (ev_pos (by omega) (Ev.now _))
  refine Ev.bind h (ev_neg (by omega) ?_)
  have hs := toRecL_small st h5 h6
  have h7 : (toLinkL l).length ≤ 1048576 := by rw [toLinkL_len]; omega
  have h8 : (toThingL m).length ≤ 1048576 := by rw [toThingL_len]; omega
  have T : Ev (fun k => laws_toSelf.f k id bt n l m hd st) (id, bt, n, toLinkL l, toThingL m, hd, toRecL st) := Ev.bind (laws_toNet_ev n l m h2 h3) (Ev.bind (laws_toIntS_ev hd h4) (Ev.bind (laws_toRecordS_ev st h5 h6) (Ev.now _)))
  refine Ev.bind T (Ev.bind (spec_SelfOk_ev id bt n (toLinkL l) (toThingL m) hd (toRecL st) (by omega) (by omega) (by omega) hs.lens) (Ev.bind T (Ev.bind (impl_SelfOk_ev id bt n (toLinkL l) (toThingL m) hd (toRecL st) (by omega) (by omega) (by omega) hs.lens) (ev_neg (by simp) (Ev.bind T ?_)))))
  have E : Ev (fun k => laws_eqSelf.f k id bt n (toLinkL l) (toThingL m) hd (toRecL st) id bt n (toLinkL l) (toThingL m) hd (toRecL st)) true := by
    unfold laws_eqSelf.f
    simp only [if_true]
    exact Ev.bind (laws_eqNet_refl n (toLinkL l) (toThingL m) (by omega) (by omega)) (ev_pos rfl (Ev.bind (laws_eqIntS_refl hd (by omega)) (ev_pos rfl (Ev.bind (laws_eqRecordS_refl _ hs.lens) (ev_pos rfl (Ev.now _))))))
  exact Ev.bind E (ev_pos rfl (Ev.now _))

end Go.Proofs.Ythjmdiggglkeaaa.Pure
