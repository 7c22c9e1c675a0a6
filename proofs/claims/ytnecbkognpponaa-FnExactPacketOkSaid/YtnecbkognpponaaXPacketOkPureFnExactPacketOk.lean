import Derived.Test.YtnecbkognpponaaXPacketOkQlawsFnExactPacketOk
/- Proved: the pure statement of the law FnExactPacketOk, for every input that its statement lets in. -/

set_option linter.unusedVariables false
set_option linter.unusedSimpArgs false
namespace Go.Proofs.Ytnecbkognpponaa.Pure
open Go.RowKit Go.Proofs.Ytnecbkognpponaa.Q Go.Proofs.YtnecbkognpponaaW.PrintWords Go.Proofs.YtnecbkognpponaaW.PrintLast

theorem w64 {x : Int} (h0 : -9223372036854775808 ≤ x) (h1 : x ≤ 9223372036854775807) : wrap64 x = x := by unfold wrap64; omega
theorem ev_ex {α : Type} {g : Nat → Option α} {r : α} (h : Ev g r) : ∃ k, g k = some r := h.rounds

theorem ev_ite {α : Type} {c : Prop} [Decidable c] {g f : Nat → Option α} {r : α} (h : c → Ev g r) (k : ¬ c → Ev f r) : Ev (fun n => if c then g n else f n) r := by
  by_cases hc : c
  · exact Ev.congr (fun n => by rw [if_pos hc]) (h hc)
  · exact Ev.congr (fun n => by rw [if_neg hc]) (k hc)
theorem ev_pos {α : Type} {c : Prop} [Decidable c] {g f : Nat → Option α} {r : α} (hc : c) (h : Ev g r) : Ev (fun n => if c then g n else f n) r := Ev.congr (fun n => by rw [if_pos hc]) h
theorem ev_neg {α : Type} {c : Prop} [Decidable c] {g f : Nat → Option α} {r : α} (hc : ¬ c) (h : Ev f r) : Ev (fun n => if c then g n else f n) r := Ev.congr (fun n => by rw [if_neg hc]) h
theorem ev_some {α : Type} {x r : α} (h : x = r) : Ev (fun _ => some x) r := by rw [h]; exact Ev.now _
theorem ev_succ {α : Type} {g : Nat → Option α} {r : α} (h : Ev (fun k => g (k + 1)) r) : Ev g r := Ev.step (fun _ => rfl) h
theorem ev_to {α : Type} {g : Nat → Option α} {r r' : α} (h : Ev g r) (e : r = r') : Ev g r' := e ▸ h

theorem set_mid {α : Type} (p : List α) (x y : α) (r : List α) (i : Nat) (h : p.length = i) : (p ++ x :: r).set i y = p ++ y :: r := by
  subst h
  simp
theorem drop_at {α : Type} (l : List α) (z : α) (i : Nat) (h : i < l.length) : l.drop i = l.getD i z :: l.drop (i + 1) := by
  rw [List.drop_eq_getElem_cons h, List.getD_eq_getElem?_getD, List.getElem?_eq_getElem h]
  rfl
-- toNear
/-! Near: lists -/
def toNear1 (x : S112) : S63 := ⟨x.f0, x.f1⟩
def toNearL (l : List S112) : List S63 := l.map toNear1
theorem toNearL_len (l : List S112) : (toNearL l).length = l.length := by simp [toNearL]
theorem laws_toNearS_l0_ev (l : List S112) (hl : l.length ≤ 9223372036854775807) (d : Nat) : ∀ i : Nat, i + d = l.length →
    Ev (fun k => laws_toNearS.l0 k l ((toNearL l).take i ++ List.replicate d z63) i) (toNearL l) := by
  induction d with
  | zero =>
    intro i hi
    apply ev_succ
    simp only [laws_toNearS.l0]
    refine ev_neg (by omega) (ev_some ?_)
    rw [List.take_of_length_le (by rw [toNearL_len]; omega)]
    simp
  | succ d ih =>
    intro i hi
    have hr := ih (i + 1) (by omega)
    have hlt : i < (toNearL l).length := by rw [toNearL_len]; omega
    apply ev_succ
    simp only [laws_toNearS.l0, laws_toNear.f, Option.bind_some]
    have hset : ((toNearL l).take i ++ List.replicate (d + 1) z63).set ((i : Int).toNat) (⟨(rd_T112 l i).f0, (rd_T112 l i).f1⟩ : S63) = (toNearL l).take (i + 1) ++ List.replicate d z63 := by
      rw [List.replicate_succ, set_mid _ _ _ _ _ (by rw [List.length_take]; omega), List.take_succ_eq_append_getElem hlt]
      rw [List.append_assoc]
      congr 1
      simp only [List.singleton_append]
      congr 1
      have hli : i < l.length := by omega
      simp [toNearL, toNear1, rd_T112, List.getD_eq_getElem?_getD, hli]
    rw [hset, w64 (by omega) (by omega)]
    refine ev_pos (by omega) (ev_pos (by omega) (ev_pos ?_ hr))
    simp only [List.length_append, List.length_take, List.length_replicate, toNearL_len]
    omega
theorem laws_toNearS_ev (l : List S112) (hl : l.length ≤ 1048576) : Ev (fun k => laws_toNearS.f k l) (toNearL l) := by
  unfold laws_toNearS.f
  refine ev_pos (by omega) (ev_pos (by omega) ?_)
  exact laws_toNearS_l0_ev l (by omega) l.length 0 (by omega)

theorem laws_szNearS_eq (l : List S112) (hl : l.length ≤ 9223372036854775807) (n : Int) (h0 : 0 ≤ n) (h1 : n ≤ 1048576) : laws_szNearS.f l n = some (if n < (l.length : Int) then -1 else n - l.length) := by
  unfold laws_szNearS.f
  rw [w64 (by omega) (by omega)]
  by_cases h : n < (l.length : Int)
  · rw [if_pos (by omega), if_pos h]
  · rw [if_neg (by omega), if_neg h]

theorem laws_toRecord_ev (a b c d e : Int) (l : List S112) (f : Int) (g : Bool) (hl : l.length ≤ 1048576) : Ev (fun k => laws_toRecord.f k a b c d e l f g) (a, b, c, d, e, toNearL l, f, g) := by
  unfold laws_toRecord.f
  exact Ev.bind (laws_toNearS_ev l hl) (Ev.now _)
theorem laws_szRecord_eq (a b c d e : Int) (l : List S112) (f : Int) (g : Bool) (hl : l.length ≤ 9223372036854775807) (n : Int) (h0 : 0 ≤ n) (h1 : n ≤ 1048576) :
    laws_szRecord.f a b c d e l f g n = some (if n < (l.length : Int) then -1 else n - l.length) := by
  unfold laws_szRecord.f
  rw [laws_szNearS_eq l hl n h0 h1, Option.bind_some]
  by_cases h : n < (l.length : Int)
  · rw [if_pos h, if_pos (by omega)]
  · rw [if_neg h, if_neg (by omega)]

theorem laws_eqNear_refl (a b : Int) : laws_eqNear.f a b a b = some true := by
  unfold laws_eqNear.f
  simp
theorem laws_eqNearS_l0_ev (l : List S63) (hl : l.length ≤ 9223372036854775807) (d : Nat) : ∀ i : Nat, i + d = l.length → Ev (fun k => laws_eqNearS.l0 k l l i) true := by
  induction d with
  | zero =>
    intro i hi
    apply ev_succ
    simp only [laws_eqNearS.l0]
    exact ev_neg (by omega) (Ev.now _)
  | succ d ih =>
    intro i hi
    apply ev_succ
    simp only [laws_eqNearS.l0, laws_eqNear_refl, if_true, Option.bind_some]
    rw [w64 (by omega) (by omega)]
    exact ev_pos (by omega) (ev_pos (by omega) (ev_pos (by omega) (ih (i + 1) (by omega))))
theorem laws_eqNearS_refl (l : List S63) (hl : l.length ≤ 9223372036854775807) : Ev (fun k => laws_eqNearS.f k l l) true := by
  unfold laws_eqNearS.f
  exact ev_pos rfl (laws_eqNearS_l0_ev l hl l.length 0 (by omega))

theorem laws_eqRecord_refl (a b c d e : Int) (l : List S63) (f : Int) (g : Bool) (hl : l.length ≤ 9223372036854775807) : Ev (fun k => laws_eqRecord.f k a b c d e l f g a b c d e l f g) true := by
  unfold laws_eqRecord.f
  simp only [if_true]
  refine Ev.bind (laws_eqNearS_refl l hl) ?_
  simp
  exact Ev.now _

def toRec1 (x : S100) : S24 := ⟨x.f0, x.f1, x.f2, x.f3, x.f4, toNearL x.f5, x.f6, x.f7⟩
def toRecL (l : List S100) : List S24 := l.map toRec1
theorem toRecL_len (l : List S100) : (toRecL l).length = l.length := by simp [toRecL]
/-- No list of a record is longer than can be counted. -/
def Lens (s : List S24) : Prop := s.length ≤ 9223372036854775000 ∧ ∀ x ∈ s, x.f5.length ≤ 9223372036854775000
theorem getD_mem {α : Type} (l : List α) (z : α) (i : Nat) (h : i < l.length) : l.getD i z ∈ l := by
  rw [List.getD_eq_getElem?_getD, List.getElem?_eq_getElem h]
  exact List.getElem_mem h
theorem laws_toRecordS_l0_ev (l : List S100) (hl : l.length ≤ 9223372036854775000) (hx : ∀ x ∈ l, x.f5.length ≤ 1048576) (d : Nat) : ∀ i : Nat, i + d = l.length →
    Ev (fun k => laws_toRecordS.l0 k l ((toRecL l).take i ++ List.replicate d z24) i) (toRecL l) := by
  induction d with
  | zero =>
    intro i hi
    apply ev_succ
    simp only [laws_toRecordS.l0]
    refine ev_neg (by omega) (ev_some ?_)
    rw [List.take_of_length_le (by rw [toRecL_len]; omega)]
    simp
  | succ d ih =>
    intro i hi
    have hr := ih (i + 1) (by omega)
    have hli : i < l.length := by omega
    have hlt : i < (toRecL l).length := by rw [toRecL_len]; omega
    obtain ⟨x, hxe⟩ : ∃ x, rd_T100 l (i : Int) = x := ⟨_, rfl⟩
    have hx2 : l.getD i z100 = x := hxe
    have hm : x ∈ l := by rw [← hx2]; exact getD_mem l _ i hli
    apply ev_succ
    simp only [laws_toRecordS.l0, hxe]
    have hset : ((toRecL l).take i ++ List.replicate (d + 1) z24).set ((i : Int).toNat) (toRec1 x) = (toRecL l).take (i + 1) ++ List.replicate d z24 := by
      rw [List.replicate_succ, set_mid _ _ _ _ _ (by rw [List.length_take]; omega), List.take_succ_eq_append_getElem hlt]
      rw [List.append_assoc]
      congr 1
      simp only [List.singleton_append]
      congr 1
      rw [← hx2]
      simp [toRecL, List.getD_eq_getElem?_getD, hli]
    refine ev_pos (by omega) (ev_pos (by omega) (Ev.bind (laws_toRecord_ev x.f0 x.f1 x.f2 x.f3 x.f4 x.f5 x.f6 x.f7 (hx x hm)) (ev_pos ?_ ?_)))
    · simp only [List.length_append, List.length_take, List.length_replicate, toRecL_len]
      omega
    · have hset' : ((toRecL l).take i ++ List.replicate (d + 1) z24).set ((i : Int).toNat) (⟨x.f0, x.f1, x.f2, x.f3, x.f4, toNearL x.f5, x.f6, x.f7⟩ : S24) = (toRecL l).take (i + 1) ++ List.replicate d z24 := hset
      simp only [hset']
      rw [w64 (by omega) (by omega)]
      exact hr
theorem laws_toRecordS_ev (l : List S100) (hl : l.length ≤ 1048576) (hx : ∀ x ∈ l, x.f5.length ≤ 1048576) : Ev (fun k => laws_toRecordS.f k l) (toRecL l) := by
  unfold laws_toRecordS.f
  refine ev_pos (by omega) (ev_pos (by omega) ?_)
  exact laws_toRecordS_l0_ev l (by omega) hx l.length 0 (by omega)
theorem laws_szRecordS_l0 (l : List S100) (hl : l.length ≤ 9223372036854775000) (hx : ∀ x ∈ l, x.f5.length ≤ 9223372036854775807) (d : Nat) : ∀ (i : Nat) (n : Int), i + d = l.length → 0 ≤ n → n ≤ 1048576 →
    (Ev (fun k => laws_szRecordS.l0 k l n i) (-1)) ∨ (∃ t, Ev (fun k => laws_szRecordS.l0 k l n i) t ∧ 0 ≤ t ∧ t ≤ n ∧ ∀ x ∈ l.drop i, x.f5.length ≤ 1048576) := by
  induction d with
  | zero =>
    intro i n hi h0 h1
    refine .inr ⟨n, ?_, h0, by omega, by rw [List.drop_eq_nil_of_le (by omega)]; simp⟩
    apply ev_succ
    simp only [laws_szRecordS.l0]
    exact ev_neg (by omega) (Ev.now _)
  | succ d ih =>
    intro i n hi h0 h1
    have hli : i < l.length := by omega
    obtain ⟨x, hxe⟩ : ∃ x, rd_T100 l (i : Int) = x := ⟨_, rfl⟩
    have hx2 : l.getD i z100 = x := hxe
    have hm : x ∈ l := by rw [← hx2]; exact getD_mem l _ i hli
    have key : ∀ r, (n < (x.f5.length : Int) → r = -1) → (¬ n < (x.f5.length : Int) → Ev (fun k => laws_szRecordS.l0 k l (n - x.f5.length) ((i : Int) + 1)) r) → Ev (fun k => laws_szRecordS.l0 k l n i) r := by
      intro r ha hb
      apply ev_succ
      simp only [laws_szRecordS.l0, hxe]
      rw [laws_szRecord_eq x.f0 x.f1 x.f2 x.f3 x.f4 x.f5 x.f6 x.f7 (hx x hm) n h0 h1, w64 (by omega) (by omega)]
      simp only [Option.bind_some]
      refine ev_pos (by omega) (ev_pos (by omega) ?_)
      by_cases hc : n < (x.f5.length : Int)
      · rw [if_pos hc]
        rw [ha hc]
        exact ev_pos (by omega) (Ev.now _)
      · rw [if_neg hc]
        exact ev_neg (by omega) (hb hc)
    by_cases hc : n < (x.f5.length : Int)
    · exact .inl (key _ (fun _ => rfl) (fun h => absurd hc h))
    · rcases ih (i + 1) (n - x.f5.length) (by omega) (by omega) (by omega) with h | ⟨t, h, h2, h3, h4⟩
      · exact .inl (key _ (fun h => absurd h hc) (fun _ => h))
      · refine .inr ⟨t, key _ (fun h => absurd h hc) (fun _ => h), h2, by omega, fun y hy => ?_⟩
        rw [drop_at l z100 i hli, hx2] at hy
        rcases List.mem_cons.1 hy with rfl | hy
        · omega
        · exact h4 y hy
theorem laws_szRecordS_cases (l : List S100) (hl : l.length ≤ 9223372036854775807) (hx : ∀ x ∈ l, x.f5.length ≤ 9223372036854775807) (n : Int) (h0 : 0 ≤ n) (h1 : n ≤ 1048576) :
    (Ev (fun k => laws_szRecordS.f k l n) (-1)) ∨ (∃ t, Ev (fun k => laws_szRecordS.f k l n) t ∧ 0 ≤ t ∧ t ≤ n ∧ l.length ≤ 1048576 ∧ ∀ x ∈ l, x.f5.length ≤ 1048576) := by
  unfold laws_szRecordS.f
  rw [w64 (by omega) (by omega)]
  by_cases hc : n < (l.length : Int)
  · exact .inl (ev_pos (by omega) (Ev.now _))
  · rcases laws_szRecordS_l0 l (by omega) hx l.length 0 (n - l.length) (by omega) (by omega) (by omega) with h | ⟨t, h, h2, h3, h4⟩
    · exact .inl (ev_neg (by omega) h)
    · exact .inr ⟨t, ev_neg (by omega) h, h2, by omega, by omega, fun x hm => h4 x (by simpa using hm)⟩
theorem laws_eqRecordS_l0_ev (l : List S24) (hl : Lens l) (d : Nat) : ∀ i : Nat, i + d = l.length → Ev (fun k => laws_eqRecordS.l0 k l l i) true := by
  induction d with
  | zero =>
    intro i hi
    apply ev_succ
    simp only [laws_eqRecordS.l0]
    exact ev_neg (by omega) (Ev.now _)
  | succ d ih =>
    intro i hi
    have h1 := hl.1
    obtain ⟨x, hxe⟩ : ∃ x, rd_T24 l (i : Int) = x := ⟨_, rfl⟩
    have hx2 : l.getD i z24 = x := hxe
    have hm : x ∈ l := by rw [← hx2]; exact getD_mem l _ i (by omega)
    have h2 := hl.2 x hm
    apply ev_succ
    simp only [laws_eqRecordS.l0, hxe]
    rw [w64 (by omega) (by omega)]
    refine ev_pos (by omega) (ev_pos (by omega) (ev_pos (by omega) (Ev.bind (laws_eqRecord_refl _ _ _ _ _ _ _ _ (by omega)) (ev_pos rfl (ih (i + 1) (by omega))))))
theorem laws_eqRecordS_refl (l : List S24) (hl : Lens l) : Ev (fun k => laws_eqRecordS.f k l l) true := by
  unfold laws_eqRecordS.f
  exact ev_pos rfl (laws_eqRecordS_l0_ev l hl l.length 0 (by omega))

def sameKey (a b : S24) : Bool := decide (a.f0 = b.f0 ∧ a.f1 = b.f1 ∧ a.f2 = b.f2 ∧ a.f3 = b.f3)
def beforeB (a b : S24) : Bool := decide (a.f0 < b.f0 ∨ a.f0 = b.f0 ∧ (a.f1 < b.f1 ∨ a.f1 = b.f1 ∧ (a.f2 < b.f2 ∨ a.f2 = b.f2 ∧ a.f3 < b.f3)))
theorem spec_l01In_eq (a b c : Int) : spec_l01In.f a b c = some (decide (b ≤ a ∧ a ≤ c)) := by
  unfold spec_l01In.f
  by_cases h : a ≥ b
  · rw [if_pos h]; congr 1; simp; omega
  · rw [if_neg h]; congr 1; simp; omega

theorem impl_in_eq (a b c : Int) : impl_in.f a b c = some (decide (b ≤ a ∧ a ≤ c)) := by
  unfold impl_in.f
  by_cases h : a ≥ b
  · rw [if_pos h]; congr 1; simp; omega
  · rw [if_neg h]; congr 1; simp; omega

/-- What is near ascends, and is right; the one before, if there is one. -/
def nearGo (ow : Int) : Option Int → List S63 → Bool
  | _, [] => true
  | p, x :: xs => decide (1 ≤ x.f0 ∧ x.f0 ≤ 6) && !decide (x.f0 = ow) && decide (1 ≤ x.f1 ∧ x.f1 ≤ 1000) && p.all (fun y => decide (y < x.f0)) && nearGo ow (some x.f0) xs
def nearB (ow : Int) (l : List S63) : Bool := nearGo ow none l
def pvN (l : List S63) (i : Nat) : Option Int := if i = 0 then none else some (l.getD (i - 1) z63).f0
theorem pvN_succ (l : List S63) (i : Nat) : pvN l (i + 1) = some (l.getD i z63).f0 := by simp [pvN]
theorem rdNp (l : List S63) (i : Nat) (h : 0 < i) (hl : i < 9223372036854775807) : rd_T63 l (wrap64 ((i : Int) - 1)) = l.getD (i - 1) z63 := by
  rw [w64 (by omega) (by omega), show (i : Int) - 1 = ((i - 1 : Nat) : Int) by omega]
  rfl

/-- Is what a record holds right for its kind? -/
def recK (ar ki ow ke : Int) (l : List S63) (co : Int) (fa : Bool) : Bool :=
  if ki = 1 then decide (0 ≤ ar ∧ ar ≤ 2) && decide (ke = 0) && nearB ow l && decide (co = 0) && !fa
  else if ki = 2 then decide (0 ≤ ar ∧ ar ≤ 2) && decide (1 ≤ ke ∧ ke ≤ 6) && decide (l.length = 0) && decide (0 ≤ co ∧ co ≤ 60000) && !fa
  else if ki = 3 then decide (ar = 9) && decide (1 ≤ ke ∧ ke ≤ 9) && decide (l.length = 0) && (decide (1 ≤ co ∧ co ≤ 1000) || (co == 60000))
  else false
def recB (ar ki ow ke se : Int) (l : List S63) (co : Int) (fa : Bool) : Bool := decide (1 ≤ ow ∧ ow ≤ 6) && decide (1 ≤ se ∧ se ≤ 100000) && recK ar ki ow ke l co fa

def recR (r : S24) : Bool := recB r.f0 r.f1 r.f2 r.f3 r.f4 r.f5 r.f6 r.f7
/-- Right records, one ahead of the other; the one before, if there is one. -/
def storeGo : Option S24 → List S24 → Bool
  | _, [] => true
  | p, x :: xs => recR x && p.all (fun y => beforeB y x) && storeGo (some x) xs
def storeB (s : List S24) : Bool := decide (s.length ≤ 150) && storeGo none s
def pvR (l : List S24) (i : Nat) : Option S24 := if i = 0 then none else some (l.getD (i - 1) z24)
theorem pvR_succ (l : List S24) (i : Nat) : pvR l (i + 1) = some (l.getD i z24) := by simp [pvR]
theorem rdRp (l : List S24) (i : Nat) (h : 0 < i) (hl : i < 9223372036854775807) : rd_T24 l (wrap64 ((i : Int) - 1)) = l.getD (i - 1) z24 := by
  rw [w64 (by omega) (by omega), show (i : Int) - 1 = ((i - 1 : Nat) : Int) by omega]
  rfl

theorem spec_Before_eq (a b : S24) : spec_Before.f a.f0 a.f1 a.f2 a.f3 a.f4 a.f5 a.f6 a.f7 b.f0 b.f1 b.f2 b.f3 b.f4 b.f5 b.f6 b.f7 = some (beforeB a b) := by
  unfold spec_Before.f beforeB
  by_cases h0 : a.f0 = b.f0
  · by_cases h1 : a.f1 = b.f1
    · by_cases h2 : a.f2 = b.f2
      · rw [if_pos h0, if_pos h1, if_pos h2]
        congr 1
        rw [Bool.eq_iff_iff, decide_eq_true_eq, decide_eq_true_eq]
        omega
      · rw [if_pos h0, if_pos h1, if_neg h2]
        congr 1
        rw [Bool.eq_iff_iff, decide_eq_true_eq, decide_eq_true_eq]
        omega
    · rw [if_pos h0, if_neg h1]
      congr 1
      rw [Bool.eq_iff_iff, decide_eq_true_eq, decide_eq_true_eq]
      omega
  · rw [if_neg h0]
    congr 1
    rw [Bool.eq_iff_iff, decide_eq_true_eq, decide_eq_true_eq]
    omega

theorem spec_l04Near_l0_ev (q0 q1 ow q3 q4 q6 : Int) (q7 : Bool) (l : List S63) (hl : l.length ≤ 9223372036854775807) (d : Nat) : ∀ i : Nat, i + d = l.length →
    Ev (fun k => spec_l04Near.l0 k i q0 q1 ow q3 q4 l q6 q7) (nearGo ow (pvN l i) (l.drop i)) := by
  induction d with
  | zero =>
    intro i hi
    rw [List.drop_eq_nil_of_le (by omega)]
    apply ev_succ
    simp only [spec_l04Near.l0]
    exact ev_neg (by omega) (ev_some rfl)
  | succ d ih =>
    intro i hi
    have hr := ih (i + 1) (by omega)
    obtain ⟨x, hx⟩ : ∃ x, rd_T63 l (i : Int) = x := ⟨_, rfl⟩
    have hx2 : l.getD i z63 = x := hx
    rw [pvN_succ, hx2] at hr
    rw [drop_at l z63 i (by omega), hx2]
    apply ev_succ
    simp only [spec_l04Near.l0, spec_l01In_eq, Option.bind_some, decide_eq_true_eq, hx]
    rw [nearGo]
    refine ev_pos (by omega) (ev_pos (by omega) ?_)
    refine ev_ite (fun h1 => ?_) (fun h1 => ev_some (by rw [decide_eq_false h1]; rfl))
    refine ev_ite (fun h2 => ev_some (by rw [decide_eq_true h1, decide_eq_true h2]; rfl)) (fun h2 => ?_)
    refine ev_ite (fun h3 => ?_) (fun h3 => ev_some (by rw [decide_eq_true h1, decide_eq_false h2, decide_eq_false h3]; rfl))
    refine ev_ite (fun h4 => ?_) (fun h4 => ?_)
    · have h0 : 0 < i := by omega
      refine ev_pos (by rw [w64 (by omega) (by omega)]; omega) (ev_pos (by rw [w64 (by omega) (by omega)]; omega) ?_)
      have hp : pvN l i = some (l.getD (i - 1) z63).f0 := by unfold pvN; rw [if_neg (by omega)]
      rw [hp, rdNp l i h0 (by omega)]
      refine ev_ite (fun h5 => ev_some ?_) (fun h5 => ?_)
      · have h6 : ¬ ((l.getD (i - 1) z63).f0 < x.f0) := by omega
        simp only [Option.all_some, decide_eq_false h6, Bool.and_false, Bool.false_and]
      · have h6 : (l.getD (i - 1) z63).f0 < x.f0 := by omega
        rw [w64 (by omega) (by omega)]
        refine ev_to hr ?_
        simp only [Option.all_some, decide_eq_true h6, decide_eq_true h1, decide_eq_false h2, decide_eq_true h3, Bool.true_and, Bool.not_false]
    · have h0 : i = 0 := by omega
      have hp : pvN l i = none := by rw [h0]; rfl
      rw [hp, w64 (by omega) (by omega)]
      refine ev_to hr ?_
      simp only [Option.all_none, decide_eq_true h1, decide_eq_false h2, decide_eq_true h3, Bool.true_and, Bool.not_false]
theorem spec_l04Near_ev (q0 q1 ow q3 q4 q6 : Int) (q7 : Bool) (l : List S63) (hl : l.length ≤ 9223372036854775807) : Ev (fun k => spec_l04Near.f k q0 q1 ow q3 q4 l q6 q7) (nearB ow l) :=
  spec_l04Near_l0_ev q0 q1 ow q3 q4 q6 q7 l hl l.length 0 (by omega)

-- spec_RecordOk
/-! spec_RecordOk -/
theorem spec_RecordOk_ev (ar ki ow ke se : Int) (l : List S63) (co : Int) (fa : Bool) (hl : l.length ≤ 9223372036854775807) : Ev (fun k => spec_RecordOk.f k ar ki ow ke se l co fa) (recB ar ki ow ke se l co fa) := by
  have hj : ∀ b : Bool, Ev (fun k => spec_RecordOk.j0 k b ar ki ow ke se l co fa) (!b && recK ar ki ow ke l co fa) := by
    intro b
    apply ev_succ
    simp only [spec_RecordOk.j0, spec_l01In_eq, Option.bind_some, decide_eq_true_eq]
    refine ev_ite (fun hb => ev_some (by simp [hb])) (fun hb => ?_)
    have hb' : b = false := by simpa using hb
    rw [hb']
    unfold recK
    refine ev_ite (fun h1 => ?_) (fun h1 => ?_)
    · rw [if_pos h1]
      refine ev_ite (fun h2 => ?_) (fun h2 => ev_some (by simp [h2]))
      refine ev_ite (fun h3 => ?_) (fun h3 => ev_some (by simp [h3]))
      refine Ev.bind (spec_l04Near_ev ar ki ow ke se co fa l hl) ?_
      refine ev_ite (fun h4 => ?_) (fun h4 => ev_some (by simp [h4]))
      refine ev_ite (fun h5 => ev_some ?_) (fun h5 => ev_some (by simp [h5]))
      simp [h2, h3, h4, h5]
    · rw [if_neg h1]
      refine ev_ite (fun h1 => ?_) (fun h1 => ?_)
      · rw [if_pos h1]
        refine ev_ite (fun h2 => ?_) (fun h2 => ev_some (by simp [h2]))
        refine ev_ite (fun h3 => ?_) (fun h3 => ev_some (by simp [h3]))
        refine ev_ite (fun h4 => ?_) (fun h4 => ev_some ?_)
        · have h4' : l.length = 0 := by omega
          refine ev_ite (fun h5 => ev_some ?_) (fun h5 => ev_some (by simp [h5]))
          simp [h2, h3, h4', h5]
        · have h4' : ¬ l.length = 0 := by omega
          simp [h4']
      · rw [if_neg h1]
        refine ev_ite (fun h1 => ?_) (fun h1 => ?_)
        · rw [if_pos h1]
          refine ev_ite (fun h2 => ?_) (fun h2 => ev_some (by simp [h2]))
          refine ev_ite (fun h3 => ?_) (fun h3 => ev_some (by simp [h3]))
          refine ev_ite (fun h4 => ?_) (fun h4 => ev_some ?_)
          · have h4' : l.length = 0 := by omega
            refine ev_ite (fun h5 => ev_some ?_) (fun h5 => ev_some ?_)
            · simp [h2, h3, h4', h5]
            · simp [h2, h3, h4', h5]
          · have h4' : ¬ l.length = 0 := by omega
            simp [h4']
        · rw [if_neg h1]
          exact ev_some (by simp)
  unfold spec_RecordOk.f
  simp only [spec_l01In_eq, Option.bind_some, decide_eq_true_eq]
  unfold recB
  refine ev_ite (fun h1 => ?_) (fun h1 => ?_)
  · exact ev_to (hj _) (by simp [h1])
  · exact ev_to (hj _) (by simp [h1])

theorem spec_StoreOk_l0_ev (l : List S24) (hl : Lens l) (d : Nat) : ∀ i : Nat, i + d = l.length →
    Ev (fun k => spec_StoreOk.l0 k l i) (storeGo (pvR l i) (l.drop i)) := by
  have hl1 := hl.1
  induction d with
  | zero =>
    intro i hi
    rw [List.drop_eq_nil_of_le (by omega)]
    apply ev_succ
    simp only [spec_StoreOk.l0]
    exact ev_neg (by omega) (ev_some (by simp [storeGo]))
  | succ d ih =>
    intro i hi
    have hr := ih (i + 1) (by omega)
    obtain ⟨x, hx⟩ : ∃ x, rd_T24 l (i : Int) = x := ⟨_, rfl⟩
    have hx2 : l.getD i z24 = x := hx
    have hm : x ∈ l := by rw [← hx2]; exact getD_mem l _ i (by omega)
    have hn := hl.2 x hm
    rw [pvR_succ, hx2] at hr
    rw [drop_at l z24 i (by omega), hx2, storeGo]
    apply ev_succ
    simp only [spec_StoreOk.l0, hx]
    rw [w64 (x := (i : Int) + 1) (by omega) (by omega)]
    refine ev_pos (by omega) (ev_pos (by omega) ?_)
    refine Ev.bind (spec_RecordOk_ev x.f0 x.f1 x.f2 x.f3 x.f4 x.f5 x.f6 x.f7 (by omega)) ?_
    have hrec : recB x.f0 x.f1 x.f2 x.f3 x.f4 x.f5 x.f6 x.f7 = recR x := rfl
    rw [hrec]
    refine ev_ite (fun h1 => ?_) (fun h1 => ev_some (by simp [h1]))
    refine ev_ite (fun h2 => ?_) (fun h2 => ?_)
    · have h0 : 0 < i := by omega
      have hp : pvR l i = some (l.getD (i - 1) z24) := by unfold pvR; rw [if_neg (by omega)]
      rw [hp]
      simp only [rdRp l i h0 (by omega), spec_Before_eq, Option.bind_some]
      refine ev_pos (by rw [w64 (by omega) (by omega)]; omega) (ev_pos (by rw [w64 (by omega) (by omega)]; omega) ?_)
      refine ev_ite (fun h3 => ?_) (fun h3 => ev_some ?_)
      · refine ev_to hr ?_
        simp only [Option.all_some, h1, h3, Bool.true_and]
      · have h3' : beforeB (l.getD (i - 1) z24) x = false := by simpa using h3
        simp only [Option.all_some, h3', Bool.and_false, Bool.false_and]
    · have h0 : i = 0 := by omega
      have hp : pvR l i = none := by rw [h0]; rfl
      rw [hp]
      refine ev_to hr ?_
      simp [h1]
theorem spec_StoreOk_ev (l : List S24) (hl : Lens l) : Ev (fun k => spec_StoreOk.f k l) (storeB l) := by
  unfold spec_StoreOk.f storeB
  refine ev_ite (fun h => ev_some ?_) (fun h => ?_)
  · rw [decide_eq_false (by omega), Bool.false_and]
  · rw [decide_eq_true (by omega), Bool.true_and]
    exact spec_StoreOk_l0_ev l hl l.length 0 (by omega)

theorem impl_Before_eq (a b : S24) : impl_Before.f a.f0 a.f1 a.f2 a.f3 a.f4 a.f5 a.f6 a.f7 b.f0 b.f1 b.f2 b.f3 b.f4 b.f5 b.f6 b.f7 = some (beforeB a b) := by
  unfold impl_Before.f beforeB
  by_cases h0 : a.f0 = b.f0
  · by_cases h1 : a.f1 = b.f1
    · by_cases h2 : a.f2 = b.f2
      · rw [if_pos h0, if_pos h1, if_pos h2]
        congr 1
        rw [Bool.eq_iff_iff, decide_eq_true_eq, decide_eq_true_eq]
        omega
      · rw [if_pos h0, if_pos h1, if_neg h2]
        congr 1
        rw [Bool.eq_iff_iff, decide_eq_true_eq, decide_eq_true_eq]
        omega
    · rw [if_pos h0, if_neg h1]
      congr 1
      rw [Bool.eq_iff_iff, decide_eq_true_eq, decide_eq_true_eq]
      omega
  · rw [if_neg h0]
    congr 1
    rw [Bool.eq_iff_iff, decide_eq_true_eq, decide_eq_true_eq]
    omega

theorem impl_nearOk_l0_ev (q0 q1 ow q3 q4 q6 : Int) (q7 : Bool) (l : List S63) (hl : l.length ≤ 9223372036854775807) (d : Nat) : ∀ i : Nat, i + d = l.length →
    Ev (fun k => impl_nearOk.l0 k l (l.length : Int) i q0 q1 ow q3 q4 l q6 q7) (nearGo ow (pvN l i) (l.drop i)) := by
  induction d with
  | zero =>
    intro i hi
    rw [List.drop_eq_nil_of_le (by omega)]
    apply ev_succ
    simp only [impl_nearOk.l0]
    exact ev_neg (by omega) (ev_some rfl)
  | succ d ih =>
    intro i hi
    have hr := ih (i + 1) (by omega)
    obtain ⟨x, hx⟩ : ∃ x, rd_T63 l (i : Int) = x := ⟨_, rfl⟩
    have hx2 : l.getD i z63 = x := hx
    rw [pvN_succ, hx2] at hr
    rw [drop_at l z63 i (by omega), hx2]
    apply ev_succ
    simp only [impl_nearOk.l0, impl_in_eq, Option.bind_some, decide_eq_true_eq, hx]
    rw [nearGo]
    refine ev_pos (by omega) (ev_pos (by omega) (ev_pos (by omega) ?_))
    refine ev_ite (fun h1 => ?_) (fun h1 => ev_some (by rw [decide_eq_false h1]; rfl))
    refine ev_ite (fun h2 => ev_some (by rw [decide_eq_true h1, decide_eq_true h2]; rfl)) (fun h2 => ?_)
    refine ev_ite (fun h3 => ?_) (fun h3 => ev_some (by rw [decide_eq_true h1, decide_eq_false h2, decide_eq_false h3]; rfl))
    refine ev_ite (fun h4 => ?_) (fun h4 => ?_)
    · have h0 : 0 < i := by omega
      refine ev_pos (by rw [w64 (by omega) (by omega)]; omega) (ev_pos (by rw [w64 (by omega) (by omega)]; omega) ?_)
      have hp : pvN l i = some (l.getD (i - 1) z63).f0 := by unfold pvN; rw [if_neg (by omega)]
      rw [hp, rdNp l i h0 (by omega)]
      refine ev_ite (fun h5 => ev_some ?_) (fun h5 => ?_)
      · have h6 : ¬ ((l.getD (i - 1) z63).f0 < x.f0) := by omega
        simp only [Option.all_some, decide_eq_false h6, Bool.and_false, Bool.false_and]
      · have h6 : (l.getD (i - 1) z63).f0 < x.f0 := by omega
        rw [w64 (by omega) (by omega)]
        refine ev_to hr ?_
        simp only [Option.all_some, decide_eq_true h6, decide_eq_true h1, decide_eq_false h2, decide_eq_true h3, Bool.true_and, Bool.not_false]
    · have h0 : i = 0 := by omega
      have hp : pvN l i = none := by rw [h0]; rfl
      rw [hp, w64 (by omega) (by omega)]
      refine ev_to hr ?_
      simp only [Option.all_none, decide_eq_true h1, decide_eq_false h2, decide_eq_true h3, Bool.true_and, Bool.not_false]
theorem impl_nearOk_ev (q0 q1 ow q3 q4 q6 : Int) (q7 : Bool) (l : List S63) (hl : l.length ≤ 9223372036854775807) : Ev (fun k => impl_nearOk.f k q0 q1 ow q3 q4 l q6 q7) (nearB ow l) :=
  impl_nearOk_l0_ev q0 q1 ow q3 q4 q6 q7 l hl l.length 0 (by omega)

-- impl_RecordOk
/-! impl_RecordOk -/
theorem impl_RecordOk_ev (ar ki ow ke se : Int) (l : List S63) (co : Int) (fa : Bool) (hl : l.length ≤ 9223372036854775807) : Ev (fun k => impl_RecordOk.f k ar ki ow ke se l co fa) (recB ar ki ow ke se l co fa) := by
  have hj : ∀ b : Bool, Ev (fun k => impl_RecordOk.j0 k b ar ki ow ke se l co fa) (!b && recK ar ki ow ke l co fa) := by
    intro b
    apply ev_succ
    simp only [impl_RecordOk.j0, impl_in_eq, Option.bind_some, decide_eq_true_eq]
    refine ev_ite (fun hb => ev_some (by simp [hb])) (fun hb => ?_)
    have hb' : b = false := by simpa using hb
    rw [hb']
    unfold recK
    refine ev_ite (fun h1 => ?_) (fun h1 => ?_)
    · rw [if_pos h1]
      refine ev_ite (fun h2 => ?_) (fun h2 => ev_some (by simp [h2]))
      refine ev_ite (fun h3 => ?_) (fun h3 => ev_some (by simp [h3]))
      refine Ev.bind (impl_nearOk_ev ar ki ow ke se co fa l hl) ?_
      refine ev_ite (fun h4 => ?_) (fun h4 => ev_some (by simp [h4]))
      refine ev_ite (fun h5 => ev_some ?_) (fun h5 => ev_some (by simp [h5]))
      simp [h2, h3, h4, h5]
    · rw [if_neg h1]
      refine ev_ite (fun h1 => ?_) (fun h1 => ?_)
      · rw [if_pos h1]
        refine ev_ite (fun h2 => ?_) (fun h2 => ev_some (by simp [h2]))
        refine ev_ite (fun h3 => ?_) (fun h3 => ev_some (by simp [h3]))
        refine ev_ite (fun h4 => ?_) (fun h4 => ev_some ?_)
        · have h4' : l.length = 0 := by omega
          refine ev_ite (fun h5 => ev_some ?_) (fun h5 => ev_some (by simp [h5]))
          simp [h2, h3, h4', h5]
        · have h4' : ¬ l.length = 0 := by omega
          simp [h4']
      · rw [if_neg h1]
        refine ev_ite (fun h1 => ?_) (fun h1 => ?_)
        · rw [if_pos h1]
          refine ev_ite (fun h2 => ?_) (fun h2 => ev_some (by simp [h2]))
          refine ev_ite (fun h3 => ?_) (fun h3 => ev_some (by simp [h3]))
          refine ev_ite (fun h4 => ?_) (fun h4 => ev_some ?_)
          · have h4' : l.length = 0 := by omega
            refine ev_ite (fun h5 => ev_some ?_) (fun h5 => ev_some ?_)
            · simp [h2, h3, h4', h5]
            · simp [h2, h3, h4', h5]
          · have h4' : ¬ l.length = 0 := by omega
            simp [h4']
        · rw [if_neg h1]
          exact ev_some (by simp)
  unfold impl_RecordOk.f
  simp only [impl_in_eq, Option.bind_some, decide_eq_true_eq]
  unfold recB
  refine ev_ite (fun h1 => ?_) (fun h1 => ?_)
  · exact ev_to (hj _) (by simp [h1])
  · exact ev_to (hj _) (by simp [h1])

theorem impl_StoreOk_l0_ev (l : List S24) (hl : Lens l) (d : Nat) : ∀ i : Nat, i + d = l.length →
    Ev (fun k => impl_StoreOk.l0 k l l (l.length : Int) i) (decide (l.length ≤ 150) && storeGo (pvR l i) (l.drop i)) := by
  have hl1 := hl.1
  induction d with
  | zero =>
    intro i hi
    rw [List.drop_eq_nil_of_le (by omega)]
    apply ev_succ
    simp only [impl_StoreOk.l0]
    exact ev_neg (by omega) (ev_some (by rw [storeGo, Bool.and_true]; by_cases h : l.length ≤ 150 <;> simp [h] <;> omega))
  | succ d ih =>
    intro i hi
    have hr := ih (i + 1) (by omega)
    obtain ⟨x, hx⟩ : ∃ x, rd_T24 l (i : Int) = x := ⟨_, rfl⟩
    have hx2 : l.getD i z24 = x := hx
    have hm : x ∈ l := by rw [← hx2]; exact getD_mem l _ i (by omega)
    have hn := hl.2 x hm
    rw [pvR_succ, hx2] at hr
    rw [drop_at l z24 i (by omega), hx2, storeGo]
    apply ev_succ
    simp only [impl_StoreOk.l0, hx]
    rw [w64 (x := (i : Int) + 1) (by omega) (by omega)]
    refine ev_pos (by omega) (ev_pos (by omega) (ev_pos (by omega) ?_))
    refine Ev.bind (impl_RecordOk_ev x.f0 x.f1 x.f2 x.f3 x.f4 x.f5 x.f6 x.f7 (by omega)) ?_
    have hrec : recB x.f0 x.f1 x.f2 x.f3 x.f4 x.f5 x.f6 x.f7 = recR x := rfl
    rw [hrec]
    refine ev_ite (fun h1 => ?_) (fun h1 => ev_some (by simp [h1]))
    refine ev_ite (fun h2 => ?_) (fun h2 => ?_)
    · have h0 : 0 < i := by omega
      have hp : pvR l i = some (l.getD (i - 1) z24) := by unfold pvR; rw [if_neg (by omega)]
      rw [hp]
      simp only [rdRp l i h0 (by omega), impl_Before_eq, Option.bind_some]
      refine ev_pos (by rw [w64 (by omega) (by omega)]; omega) (ev_pos (by rw [w64 (by omega) (by omega)]; omega) ?_)
      refine ev_ite (fun h3 => ?_) (fun h3 => ev_some ?_)
      · refine ev_to hr ?_
        simp only [Option.all_some, h1, h3, Bool.true_and]
      · have h3' : beforeB (l.getD (i - 1) z24) x = false := by simpa using h3
        simp only [Option.all_some, h3', Bool.and_false, Bool.false_and]
    · have h0 : i = 0 := by omega
      have hp : pvR l i = none := by rw [h0]; rfl
      rw [hp]
      refine ev_to hr ?_
      simp [h1]
theorem impl_StoreOk_ev (l : List S24) (hl : Lens l) : Ev (fun k => impl_StoreOk.f k l) (storeB l) :=
  impl_StoreOk_l0_ev l hl l.length 0 (by omega)

def Small (s : List S24) : Prop := s.length ≤ 8388608 ∧ ∀ x ∈ s, x.f5.length ≤ 1048576
theorem Small.lens {s : List S24} (h : Small s) : Lens s := ⟨by have := h.1; omega, fun x hx => by have := h.2 x hx; omega⟩
theorem toRecL_small (l : List S100) (hl : l.length ≤ 1048576) (hx : ∀ x ∈ l, x.f5.length ≤ 1048576) : Small (toRecL l) := by
  refine ⟨by rw [toRecL_len]; omega, fun x h => ?_⟩
  obtain ⟨y, hy, rfl⟩ := List.mem_map.1 h
  have := hx y hy
  simp only [toRec1, toNearL_len]
  omega
theorem spec_l04Copy_eq (x : S24) (h : x.f5.length ≤ 1048576) : spec_l04Copy.f x.f0 x.f1 x.f2 x.f3 x.f4 x.f5 x.f6 x.f7 = some (x.f0, x.f1, x.f2, x.f3, x.f4, x.f5, x.f6, x.f7) := by
  unfold spec_l04Copy.f
  simp only [Option.bind_some]
  rw [if_pos (by simp; omega)]
  simp

def headR (x : S24) : S24 := ⟨x.f0, x.f1, x.f2, x.f3, x.f4, [], if x.f1 = 3 then 1 else 0, false⟩
theorem impl_header_eq (x : S24) : impl_header.f x.f0 x.f1 x.f2 x.f3 x.f4 x.f5 x.f6 x.f7 = some ((headR x).f0, (headR x).f1, (headR x).f2, (headR x).f3, (headR x).f4, (headR x).f5, (headR x).f6, (headR x).f7) := by
  unfold impl_header.f headR
  split <;> simp
theorem spec_l09Head_eq (x : S24) : spec_l09Head.f x.f0 x.f1 x.f2 x.f3 x.f4 x.f5 x.f6 x.f7 = some ((headR x).f0, (headR x).f1, (headR x).f2, (headR x).f3, (headR x).f4, (headR x).f5, (headR x).f6, (headR x).f7) := by
  unfold spec_l09Head.f headR
  simp only [Option.bind_some]
  split <;> simp
theorem spec_SameKey_eq (a b : S24) : spec_SameKey.f a.f0 a.f1 a.f2 a.f3 a.f4 a.f5 a.f6 a.f7 b.f0 b.f1 b.f2 b.f3 b.f4 b.f5 b.f6 b.f7 = some (sameKey a b) := by
  unfold spec_SameKey.f sameKey
  by_cases h0 : a.f0 = b.f0
  · by_cases h1 : a.f1 = b.f1
    · by_cases h2 : a.f2 = b.f2
      · rw [if_pos h0, if_pos h1, if_pos h2]
        congr 1
        rw [Bool.eq_iff_iff]
        simp [h0, h1, h2]
      · rw [if_pos h0, if_pos h1, if_neg h2, decide_eq_false (by omega)]
    · rw [if_pos h0, if_neg h1, decide_eq_false (by omega)]
  · rw [if_neg h0, decide_eq_false (by omega)]

theorem impl_SameKey_eq (a b : S24) : impl_SameKey.f a.f0 a.f1 a.f2 a.f3 a.f4 a.f5 a.f6 a.f7 b.f0 b.f1 b.f2 b.f3 b.f4 b.f5 b.f6 b.f7 = some (sameKey a b) := by
  unfold impl_SameKey.f sameKey
  by_cases h0 : a.f0 = b.f0
  · by_cases h1 : a.f1 = b.f1
    · by_cases h2 : a.f2 = b.f2
      · rw [if_pos h0, if_pos h1, if_pos h2]
        congr 1
        rw [Bool.eq_iff_iff]
        simp [h0, h1, h2]
      · rw [if_pos h0, if_pos h1, if_neg h2, decide_eq_false (by omega)]
    · rw [if_pos h0, if_neg h1, decide_eq_false (by omega)]
  · rw [if_neg h0, decide_eq_false (by omega)]

theorem sameBody_l0 (a0 a1 a2 a3 a4 a6 b0 b1 b2 b3 b4 b6 : Int) (a7 b7 : Bool) (l m : List S63) (hl : l.length ≤ 9223372036854775807) (hm : (m.length : Int) = l.length) (d : Nat) : ∀ i : Nat, i + d = l.length →
    ∃ r, Ev (fun k => spec_SameBody.l0 k i a0 a1 a2 a3 a4 l a6 a7 b0 b1 b2 b3 b4 m b6 b7) r ∧ Ev (fun k => impl_SameBody.l0 k (l.length : Int) i a0 a1 a2 a3 a4 l a6 a7 b0 b1 b2 b3 b4 m b6 b7) r := by
  induction d with
  | zero =>
    intro i hi
    refine ⟨true, ?_, ?_⟩
    · apply ev_succ
      simp only [spec_SameBody.l0]
      exact ev_neg (by omega) (Ev.now _)
    · apply ev_succ
      simp only [impl_SameBody.l0]
      exact ev_neg (by omega) (Ev.now _)
  | succ d ih =>
    intro i hi
    obtain ⟨r, h1, h2⟩ := ih (i + 1) (by omega)
    by_cases hc : (!(((rd_T63 l i).f0) == ((rd_T63 m i).f0)) || (!(((rd_T63 l i).f1) == ((rd_T63 m i).f1)))) = true
    · refine ⟨false, ?_, ?_⟩
      · apply ev_succ
        simp only [spec_SameBody.l0]
        exact ev_pos (by omega) (ev_pos (by omega) (ev_pos (by omega) (ev_pos hc (Ev.now _))))
      · apply ev_succ
        simp only [impl_SameBody.l0]
        exact ev_pos (by omega) (ev_pos (by omega) (ev_pos (by omega) (ev_pos (by omega) (ev_pos hc (Ev.now _)))))
    · refine ⟨r, ?_, ?_⟩
      · apply ev_succ
        simp only [spec_SameBody.l0]
        rw [w64 (by omega) (by omega)]
        exact ev_pos (by omega) (ev_pos (by omega) (ev_pos (by omega) (ev_neg hc h1)))
      · apply ev_succ
        simp only [impl_SameBody.l0]
        rw [w64 (by omega) (by omega)]
        exact ev_pos (by omega) (ev_pos (by omega) (ev_pos (by omega) (ev_pos (by omega) (ev_neg hc h2))))
theorem sameBody_j0 (x : Bool) (a b : S24) (hl : a.f5.length ≤ 9223372036854775807) (hm : x = false → (b.f5.length : Int) = a.f5.length) :
    ∃ r, Ev (fun k => spec_SameBody.j0 k x a.f0 a.f1 a.f2 a.f3 a.f4 a.f5 a.f6 a.f7 b.f0 b.f1 b.f2 b.f3 b.f4 b.f5 b.f6 b.f7) r ∧ Ev (fun k => impl_SameBody.j0 k x a.f0 a.f1 a.f2 a.f3 a.f4 a.f5 a.f6 a.f7 b.f0 b.f1 b.f2 b.f3 b.f4 b.f5 b.f6 b.f7) r ∧ (x = true → r = false) := by
  by_cases hx : x = true
  · refine ⟨false, ?_, ?_, fun _ => rfl⟩
    · apply ev_succ
      simp only [spec_SameBody.j0]
      exact ev_pos hx (Ev.now _)
    · apply ev_succ
      simp only [impl_SameBody.j0]
      exact ev_pos hx (Ev.now _)
  · obtain ⟨r, h1, h2⟩ := sameBody_l0 a.f0 a.f1 a.f2 a.f3 a.f4 a.f6 b.f0 b.f1 b.f2 b.f3 b.f4 b.f6 a.f7 b.f7 a.f5 b.f5 hl (hm (by simpa using hx)) a.f5.length 0 (by omega)
    refine ⟨r, ?_, ?_, fun h => absurd h hx⟩
    · apply ev_succ
      simp only [spec_SameBody.j0]
      exact ev_neg hx h1
    · apply ev_succ
      simp only [impl_SameBody.j0]
      exact ev_neg hx h2
theorem sameBody_ev (a b : S24) (hl : a.f5.length ≤ 9223372036854775807) :
    ∃ r, Ev (fun k => spec_SameBody.f k a.f0 a.f1 a.f2 a.f3 a.f4 a.f5 a.f6 a.f7 b.f0 b.f1 b.f2 b.f3 b.f4 b.f5 b.f6 b.f7) r ∧ Ev (fun k => impl_SameBody.f k a.f0 a.f1 a.f2 a.f3 a.f4 a.f5 a.f6 a.f7 b.f0 b.f1 b.f2 b.f3 b.f4 b.f5 b.f6 b.f7) r ∧ (r = true → sameKey a b = true) := by
  unfold spec_SameBody.f impl_SameBody.f
  rw [spec_SameKey_eq, impl_SameKey_eq]
  simp only [Option.bind_some]
  obtain ⟨r, h1, h2, h3⟩ := sameBody_j0 true a b hl (fun h => by cases h)
  by_cases hk : sameKey a b = true
  · by_cases hc : a.f6 = b.f6
    · by_cases hf : (a.f7 != b.f7) = true
      · exact ⟨r, ev_pos hk (ev_pos hc (ev_pos hf h1)), ev_pos hk (ev_pos hc (ev_pos hf h2)), fun _ => hk⟩
      · obtain ⟨r', h1', h2', h3'⟩ := sameBody_j0 ((a.f5.length : Int) != (b.f5.length : Int)) a b hl (fun h => by simp at h; omega)
        exact ⟨r', ev_pos hk (ev_pos hc (ev_neg hf h1')), ev_pos hk (ev_pos hc (ev_neg hf h2')), fun _ => hk⟩
    · exact ⟨r, ev_pos hk (ev_neg hc h1), ev_pos hk (ev_neg hc h2), fun _ => hk⟩
  · exact ⟨r, ev_neg hk h1, ev_neg hk h2, fun h => by rw [h3 rfl] at h; cases h⟩

def heardGo : Option Int → List Int → Bool
  | _, [] => true
  | p, x :: xs => decide (1 ≤ x ∧ x ≤ 6) && p.all (fun y => decide (y < x)) && heardGo (some x) xs
def heardB (l : List Int) : Bool := heardGo none l
def pvH (l : List Int) (i : Nat) : Option Int := if i = 0 then none else some (l.getD (i - 1) 0)
theorem pvH_succ (l : List Int) (i : Nat) : pvH l (i + 1) = some (l.getD i 0) := by simp [pvH]
theorem rdH (l : List Int) (i : Nat) : rd l (i : Int) = l.getD i 0 := rfl
theorem rdHp (l : List Int) (i : Nat) (h : 0 < i) (hl : i < 9223372036854775807) : rd l (wrap64 ((i : Int) - 1)) = l.getD (i - 1) 0 := by
  rw [w64 (by omega) (by omega), show (i : Int) - 1 = ((i - 1 : Nat) : Int) by omega]
  rfl
noncomputable def sumB (x : S24) : Bool := (sameBody_ev (headR x) x (Nat.zero_le _)).choose
theorem sumB_ev (x : S24) : Ev (fun k => spec_SameBody.f k (headR x).f0 (headR x).f1 (headR x).f2 (headR x).f3 (headR x).f4 (headR x).f5 (headR x).f6 (headR x).f7 x.f0 x.f1 x.f2 x.f3 x.f4 x.f5 x.f6 x.f7) (sumB x) ∧ Ev (fun k => impl_SameBody.f k (headR x).f0 (headR x).f1 (headR x).f2 (headR x).f3 (headR x).f4 (headR x).f5 (headR x).f6 (headR x).f7 x.f0 x.f1 x.f2 x.f3 x.f4 x.f5 x.f6 x.f7) (sumB x) ∧ (sumB x = true → sameKey (headR x) x = true) := (sameBody_ev (headR x) x (Nat.zero_le _)).choose_spec
def areaB (ar : Int) (x : S24) : Bool := decide (x.f0 = ar) || decide (x.f0 = 9)
noncomputable def okB (kd ar : Int) (x : S24) : Bool := areaB ar x && (!decide (kd = 2) || sumB x)
noncomputable def coreB (kd ar : Int) (hd : List Int) (l : List S24) : Bool :=
  if kd = 1 then heardB hd && decide (l.length = 0) else decide (hd.length = 0) && (storeB l && l.all (okB kd ar))
noncomputable def packB (kd fr tn ar : Int) (hd : List Int) (l : List S24) : Bool :=
  decide (1 ≤ kd ∧ kd ≤ 3) && (decide (1 ≤ fr ∧ fr ≤ 6) && (decide (1 ≤ tn ∧ tn ≤ 6) && (!decide (fr = tn) && (decide (0 ≤ ar ∧ ar ≤ 2) && coreB kd ar hd l))))
theorem all_both {α : Type} (p q : α → Bool) (l : List α) : (l.all fun x => p x && q x) = (l.all p && l.all q) := by
  induction l with
  | nil => rfl
  | cons x xs ih =>
    simp only [List.all_cons, ih]
    cases p x <;> cases q x <;> cases xs.all p <;> rfl
theorem spec_PacketOk_l1_ev (kd fr tn ar : Int) (hd : List Int) (l : List S24) (hs : Small l) (d : Nat) : ∀ i : Nat, i + d = l.length →
    Ev (fun k => spec_PacketOk.l1 k i kd fr tn ar hd l) ((l.drop i).all (okB kd ar)) := by
  have hl1 := hs.1
  induction d with
  | zero =>
    intro i hi
    rw [List.drop_eq_nil_of_le (by omega)]
    apply ev_succ
    simp only [spec_PacketOk.l1]
    exact ev_neg (by omega) (ev_some rfl)
  | succ d ih =>
    intro i hi
    have hr := ih (i + 1) (by omega)
    obtain ⟨x, hx⟩ : ∃ x, rd_T24 l (i : Int) = x := ⟨_, rfl⟩
    have hx2 : l.getD i z24 = x := hx
    have hm : x ∈ l := by rw [← hx2]; exact getD_mem l _ i (by omega)
    have hn := hs.2 x hm
    rw [drop_at l z24 i (by omega), hx2, List.all_cons]
    have h1 := (sumB_ev x).1
    apply ev_succ
    simp only [spec_PacketOk.l1, hx, spec_l04Copy_eq x hn, spec_l09Head_eq x, Option.bind_some]
    rw [w64 (x := (i : Int) + 1) (by omega) (by omega)]
    refine ev_pos (by omega) (ev_pos (by omega) (ev_ite (fun h2 => ?_) (fun h2 => ev_ite (fun h3 => ?_) (fun h3 => ev_some ?_))))
    · have ha : areaB ar x = true := by simp [areaB, h2]
      refine ev_ite (fun h4 => ?_) (fun h4 => ev_to hr (by simp [okB, ha, h4]))
      refine Ev.bind h1 (ev_ite (fun h5 => ev_to hr ?_) (fun h5 => ev_some ?_))
      · rw [show okB kd ar x = true by rw [okB, ha, h5]; simp, Bool.true_and]
      · rw [show okB kd ar x = false by rw [okB, ha, Bool.eq_false_iff.2 h5]; simp [h4], Bool.false_and]
    · have ha : areaB ar x = true := by simp [areaB, h3]
      refine ev_ite (fun h4 => ?_) (fun h4 => ev_to hr (by simp [okB, ha, h4]))
      refine Ev.bind h1 (ev_ite (fun h5 => ev_to hr ?_) (fun h5 => ev_some ?_))
      · rw [show okB kd ar x = true by rw [okB, ha, h5]; simp, Bool.true_and]
      · rw [show okB kd ar x = false by rw [okB, ha, Bool.eq_false_iff.2 h5]; simp [h4], Bool.false_and]
    · simp [okB, areaB, h2, h3]
theorem spec_PacketOk_j2_ev (kd fr tn ar : Int) (hd : List Int) (l : List S24) (hs : Small l) (b : Bool) :
    Ev (fun k => spec_PacketOk.j2 k b kd fr tn ar hd l) (!b && l.all (okB kd ar)) := by
  apply ev_succ
  simp only [spec_PacketOk.j2]
  refine ev_ite (fun h1 => ev_some (by simp [h1])) (fun h1 => ev_to (spec_PacketOk_l1_ev kd fr tn ar hd l hs l.length 0 (by omega)) ?_)
  rw [Bool.not_eq_true] at h1
  simp [h1]
theorem spec_PacketOk_l0_ev (kd fr tn ar : Int) (hd : List Int) (l : List S24) (hh : hd.length ≤ 9223372036854775000) (hs : Small l) (d : Nat) : ∀ i : Nat, i + d = hd.length →
    Ev (fun k => spec_PacketOk.l0 k i kd fr tn ar hd l) (heardGo (pvH hd i) (hd.drop i) && (if kd = 1 then decide (l.length = 0) else decide (hd.length = 0) && (storeB l && l.all (okB kd ar)))) := by
  induction d with
  | zero =>
    intro i hi
    rw [List.drop_eq_nil_of_le (by omega)]
    apply ev_succ
    simp only [spec_PacketOk.l0, heardGo, Bool.true_and]
    refine ev_neg (by omega) (ev_ite (fun h1 => ?_) (fun h1 => ?_))
    · rw [if_pos h1]
      refine ev_ite (fun h2 => ev_to (spec_PacketOk_j2_ev kd fr tn ar hd l hs true) (by rw [decide_eq_false (show ¬ l.length = 0 by omega)]; rfl)) (fun h2 => ?_)
      have h3 : l = [] := List.length_eq_zero_iff.1 (by omega)
      subst h3
      refine Ev.bind (spec_StoreOk_ev [] hs.lens) (ev_to (spec_PacketOk_j2_ev kd fr tn ar hd [] hs _) ?_)
      simp [storeB, storeGo]
    · rw [if_neg h1]
      refine ev_ite (fun h2 => ev_to (spec_PacketOk_j2_ev kd fr tn ar hd l hs true) ?_) (fun h2 => ?_)
      · rw [decide_eq_false (show ¬ hd.length = 0 by omega)]
        rfl
      · refine Ev.bind (spec_StoreOk_ev l hs.lens) (ev_to (spec_PacketOk_j2_ev kd fr tn ar hd l hs _) ?_)
        rw [decide_eq_true (show hd.length = 0 by omega), Bool.not_not, Bool.true_and]
  | succ d ih =>
    intro i hi
    have hr := ih (i + 1) (by omega)
    rw [pvH_succ] at hr
    rw [drop_at hd 0 i (by omega)]
    apply ev_succ
    simp only [spec_PacketOk.l0, rdH, spec_l01In_eq, Option.bind_some, heardGo]
    rw [w64 (x := (i : Int) + 1) (by omega) (by omega)]
    refine ev_pos (by omega) (ev_pos (by omega) (ev_ite (fun h1 => ?_) (fun h1 => ev_some (by rw [Bool.eq_false_iff.2 h1]; rfl))))
    rw [h1, Bool.true_and]
    refine ev_ite (fun h2 => ?_) (fun h2 => ?_)
    · have h0 : 0 < i := by omega
      have hp : pvH hd i = some (hd.getD (i - 1) 0) := by unfold pvH; rw [if_neg (by omega)]
      rw [hp]
      simp only [rdHp hd i h0 (by omega), Option.all_some]
      refine ev_pos (by rw [w64 (by omega) (by omega)]; omega) (ev_pos (by rw [w64 (by omega) (by omega)]; omega) ?_)
      refine ev_ite (fun h3 => ev_some ?_) (fun h3 => ev_to hr ?_)
      · rw [decide_eq_false (show ¬ hd.getD (i - 1) 0 < hd.getD i 0 by omega)]
        rfl
      · rw [decide_eq_true (show hd.getD (i - 1) 0 < hd.getD i 0 by omega), Bool.true_and]
    · have h0 : i = 0 := by omega
      have hp : pvH hd i = none := by rw [h0]; rfl
      rw [hp]
      exact ev_to hr rfl
theorem spec_PacketOk_j0_ev (kd fr tn ar : Int) (hd : List Int) (l : List S24) (hh : hd.length ≤ 9223372036854775000) (hs : Small l) (b : Bool) :
    Ev (fun k => spec_PacketOk.j0 k b kd fr tn ar hd l) (!b && coreB kd ar hd l) := by
  apply ev_succ
  simp only [spec_PacketOk.j0]
  refine ev_ite (fun h1 => ev_some (by simp [h1])) (fun h1 => ev_to (spec_PacketOk_l0_ev kd fr tn ar hd l hh hs hd.length 0 (by omega)) ?_)
  rw [Bool.not_eq_true] at h1
  rw [h1, Bool.not_false, Bool.true_and, coreB]
  show (heardB hd && _) = _
  by_cases h2 : kd = 1
  · rw [if_pos h2, if_pos h2]
  · rw [if_neg h2, if_neg h2]
    by_cases h3 : hd.length = 0
    · have h4 : hd = [] := List.length_eq_zero_iff.1 h3
      subst h4
      simp [heardB, heardGo]
    · rw [decide_eq_false h3]
      simp
theorem spec_PacketOk_ev (kd fr tn ar : Int) (hd : List Int) (l : List S24) (hh : hd.length ≤ 9223372036854775000) (hs : Small l) :
    Ev (fun k => spec_PacketOk.f k kd fr tn ar hd l) (packB kd fr tn ar hd l) := by
  have J := spec_PacketOk_j0_ev kd fr tn ar hd l hh hs
  unfold spec_PacketOk.f packB
  simp only [spec_l01In_eq, Option.bind_some]
  refine ev_ite (fun h1 => ?_) (fun h1 => ev_to (J true) (by rw [Bool.eq_false_iff.2 h1]; rfl))
  rw [h1, Bool.true_and]
  refine ev_ite (fun h1 => ?_) (fun h1 => ev_to (J true) (by rw [Bool.eq_false_iff.2 h1]; rfl))
  rw [h1, Bool.true_and]
  refine ev_ite (fun h1 => ?_) (fun h1 => ev_to (J true) (by rw [Bool.eq_false_iff.2 h1]; rfl))
  rw [h1, Bool.true_and]
  refine ev_ite (fun h1 => ev_to (J true) (by rw [decide_eq_true h1]; rfl)) (fun h1 => ev_to (J _) ?_)
  rw [decide_eq_false h1, Bool.not_not, Bool.not_false, Bool.true_and]
theorem impl_heardUp_l0_ev (l : List Int) (hh : l.length ≤ 9223372036854775000) (d : Nat) : ∀ i : Nat, i + d = l.length →
    Ev (fun k => impl_heardUp.l0 k l l (l.length : Int) i) (heardGo (pvH l i) (l.drop i)) := by
  induction d with
  | zero =>
    intro i hi
    rw [List.drop_eq_nil_of_le (by omega)]
    apply ev_succ
    simp only [impl_heardUp.l0]
    exact ev_neg (by omega) (ev_some rfl)
  | succ d ih =>
    intro i hi
    have hr := ih (i + 1) (by omega)
    rw [pvH_succ] at hr
    rw [drop_at l 0 i (by omega)]
    apply ev_succ
    simp only [impl_heardUp.l0, rdH, impl_in_eq, Option.bind_some, heardGo]
    rw [w64 (x := (i : Int) + 1) (by omega) (by omega)]
    refine ev_pos (by omega) (ev_pos (by omega) (ev_pos (by omega) (ev_ite (fun h1 => ?_) (fun h1 => ev_some (by rw [Bool.eq_false_iff.2 h1]; rfl)))))
    rw [h1, Bool.true_and]
    refine ev_ite (fun h2 => ?_) (fun h2 => ?_)
    · have h0 : 0 < i := by omega
      have hp : pvH l i = some (l.getD (i - 1) 0) := by unfold pvH; rw [if_neg (by omega)]
      rw [hp]
      simp only [rdHp l i h0 (by omega), Option.all_some]
      refine ev_pos (by rw [w64 (by omega) (by omega)]; omega) (ev_pos (by rw [w64 (by omega) (by omega)]; omega) ?_)
      refine ev_ite (fun h3 => ev_some ?_) (fun h3 => ev_to hr ?_)
      · rw [decide_eq_false (show ¬ l.getD (i - 1) 0 < l.getD i 0 by omega)]
        rfl
      · rw [decide_eq_true (show l.getD (i - 1) 0 < l.getD i 0 by omega), Bool.true_and]
    · have h0 : i = 0 := by omega
      have hp : pvH l i = none := by rw [h0]; rfl
      rw [hp]
      exact ev_to hr rfl
theorem impl_heardUp_ev (l : List Int) (hh : l.length ≤ 9223372036854775000) : Ev (fun k => impl_heardUp.f k l) (heardB l) := impl_heardUp_l0_ev l hh l.length 0 (by omega)
theorem impl_sumsOk_l0_ev (l : List S24) (hs : Small l) (d : Nat) : ∀ i : Nat, i + d = l.length →
    Ev (fun k => impl_sumsOk.l0 k l (l.length : Int) i) ((l.drop i).all sumB) := by
  have hl1 := hs.1
  induction d with
  | zero =>
    intro i hi
    rw [List.drop_eq_nil_of_le (by omega)]
    apply ev_succ
    simp only [impl_sumsOk.l0]
    exact ev_neg (by omega) (ev_some rfl)
  | succ d ih =>
    intro i hi
    have hr := ih (i + 1) (by omega)
    obtain ⟨x, hx⟩ : ∃ x, rd_T24 l (i : Int) = x := ⟨_, rfl⟩
    have hx2 : l.getD i z24 = x := hx
    rw [drop_at l z24 i (by omega), hx2, List.all_cons]
    have h1 := (sumB_ev x).2.1
    apply ev_succ
    simp only [impl_sumsOk.l0, hx, impl_header_eq x, Option.bind_some]
    rw [w64 (x := (i : Int) + 1) (by omega) (by omega)]
    refine ev_pos (by omega) (ev_pos (by omega) (ev_pos (by omega) (Ev.bind h1 (ev_ite (fun h5 => ev_to hr ?_) (fun h5 => ev_some ?_)))))
    · rw [show sumB x = true from h5, Bool.true_and]
    · rw [show sumB x = false from Bool.eq_false_iff.2 h5, Bool.false_and]
theorem impl_PacketOk_l0_ev (kd fr tn ar : Int) (hd : List Int) (l : List S24) (hs : Small l) (d : Nat) : ∀ i : Nat, i + d = l.length →
    Ev (fun k => impl_PacketOk.l0 k l (l.length : Int) i kd fr tn ar hd l) ((l.drop i).all (areaB ar) && (decide (hd.length = 0) && (storeB l && (decide (kd = 3) || l.all sumB)))) := by
  have hl1 := hs.1
  induction d with
  | zero =>
    intro i hi
    rw [List.drop_eq_nil_of_le (by omega)]
    apply ev_succ
    simp only [impl_PacketOk.l0, List.all_nil, Bool.true_and]
    refine ev_neg (by omega) (ev_ite (fun h1 => ?_) (fun h1 => ev_some ?_))
    · rw [decide_eq_true (show hd.length = 0 by omega), Bool.true_and]
      refine Ev.bind (impl_StoreOk_ev l hs.lens) (ev_ite (fun h2 => ?_) (fun h2 => ev_some (by rw [Bool.eq_false_iff.2 h2]; rfl)))
      rw [h2, Bool.true_and]
      refine ev_ite (fun h3 => ev_some (by rw [decide_eq_true h3]; rfl)) (fun h3 => ?_)
      rw [decide_eq_false h3, Bool.false_or]
      exact Ev.bind (impl_sumsOk_l0_ev l hs l.length 0 (by omega)) (Ev.now _)
    · rw [decide_eq_false (show ¬ hd.length = 0 by omega)]
      rfl
  | succ d ih =>
    intro i hi
    have hr := ih (i + 1) (by omega)
    obtain ⟨x, hx⟩ : ∃ x, rd_T24 l (i : Int) = x := ⟨_, rfl⟩
    have hx2 : l.getD i z24 = x := hx
    rw [drop_at l z24 i (by omega), hx2, List.all_cons]
    apply ev_succ
    simp only [impl_PacketOk.l0, hx]
    rw [w64 (x := (i : Int) + 1) (by omega) (by omega)]
    refine ev_pos (by omega) (ev_pos (by omega) (ev_pos (by omega) (ev_ite (fun h2 => ev_to hr ?_) (fun h2 => ev_ite (fun h3 => ev_to hr ?_) (fun h3 => ev_some ?_)))))
    · simp [areaB, h2]
    · simp [areaB, h3]
    · simp [areaB, h2, h3]
theorem impl_PacketOk_j0_ev (kd fr tn ar : Int) (hd : List Int) (l : List S24) (hh : hd.length ≤ 9223372036854775000) (hs : Small l) (hk : 1 ≤ kd ∧ kd ≤ 3) (b : Bool) :
    Ev (fun k => impl_PacketOk.j0 k b kd fr tn ar hd l) (!b && coreB kd ar hd l) := by
  apply ev_succ
  simp only [impl_PacketOk.j0]
  refine ev_ite (fun h1 => ev_some (by simp [h1])) (fun h1 => ?_)
  rw [Bool.not_eq_true] at h1
  rw [h1, Bool.not_false, Bool.true_and, coreB]
  refine ev_ite (fun h2 => ?_) (fun h2 => ?_)
  · rw [if_pos h2]
    refine Ev.bind (impl_heardUp_ev hd hh) (ev_ite (fun h3 => ev_some ?_) (fun h3 => ev_some (by rw [Bool.eq_false_iff.2 h3]; rfl)))
    rw [h3, Bool.true_and, Bool.eq_iff_iff, beq_iff_eq, decide_eq_true_eq]
    omega
  · rw [if_neg h2]
    refine ev_to (impl_PacketOk_l0_ev kd fr tn ar hd l hs l.length 0 (by omega)) ?_
    rw [List.drop_zero]
    have e : l.all (okB kd ar) = (l.all (areaB ar) && (decide (kd = 3) || l.all sumB)) := by
      by_cases h3 : kd = 3
      · rw [decide_eq_true h3, Bool.true_or, Bool.and_true]
        congr 1
        funext x
        simp [okB, h3]
      · have h4 : kd = 2 := by omega
        rw [decide_eq_false h3, Bool.false_or, ← all_both]
        congr 1
        funext x
        simp [okB, h4]
    rw [e]
    cases l.all (areaB ar) <;> cases decide (hd.length = 0) <;> cases storeB l <;> rfl
theorem impl_PacketOk_ev (kd fr tn ar : Int) (hd : List Int) (l : List S24) (hh : hd.length ≤ 9223372036854775000) (hs : Small l) :
    Ev (fun k => impl_PacketOk.f k kd fr tn ar hd l) (packB kd fr tn ar hd l) := by
  have J0 : Ev (fun k => impl_PacketOk.j0 k true kd fr tn ar hd l) false := ev_succ (by simp only [impl_PacketOk.j0]; exact ev_pos trivial (Ev.now _))
  unfold impl_PacketOk.f packB
  simp only [impl_in_eq, Option.bind_some]
  refine ev_ite (fun h1 => ?_) (fun h1 => ev_to J0 (by rw [Bool.eq_false_iff.2 h1]; rfl))
  have J := impl_PacketOk_j0_ev kd fr tn ar hd l hh hs (of_decide_eq_true h1)
  rw [h1, Bool.true_and]
  refine ev_ite (fun h1 => ?_) (fun h1 => ev_to J0 (by rw [Bool.eq_false_iff.2 h1]; rfl))
  rw [h1, Bool.true_and]
  refine ev_ite (fun h1 => ?_) (fun h1 => ev_to J0 (by rw [Bool.eq_false_iff.2 h1]; rfl))
  rw [h1, Bool.true_and]
  refine ev_ite (fun h1 => ev_to J0 (by rw [decide_eq_true h1]; rfl)) (fun h1 => ev_to (J _) ?_)
  rw [decide_eq_false h1, Bool.not_not, Bool.not_false, Bool.true_and]

theorem laws_szIntS_eq (l : List Int) (hl : l.length ≤ 9223372036854775807) (n : Int) (h0 : 0 ≤ n) (h1 : n ≤ 1048576) : laws_szIntS.f l n = some (if n < (l.length : Int) then -1 else n - l.length) := by
  unfold laws_szIntS.f
  rw [w64 (by omega) (by omega)]
  by_cases h : n < (l.length : Int)
  · rw [if_pos (by omega), if_pos h]
  · rw [if_neg (by omega), if_neg h]
theorem laws_toIntS_l0_ev (l : List Int) (hl : l.length ≤ 9223372036854775807) (d : Nat) : ∀ i : Nat, i + d = l.length →
    Ev (fun k => laws_toIntS.l0 k l (l.take i ++ List.replicate d 0) i) l := by
  induction d with
  | zero =>
    intro i hi
    apply ev_succ
    simp only [laws_toIntS.l0]
    refine ev_neg (by omega) (ev_some ?_)
    rw [List.take_of_length_le (by omega)]
    simp
  | succ d ih =>
    intro i hi
    have hr := ih (i + 1) (by omega)
    have hlt : i < l.length := by omega
    apply ev_succ
    simp only [laws_toIntS.l0]
    have hset : (l.take i ++ List.replicate (d + 1) (0 : Int)).set ((i : Int).toNat) (rd l i) = l.take (i + 1) ++ List.replicate d 0 := by
      rw [List.replicate_succ, set_mid _ _ _ _ _ (by rw [List.length_take]; omega), List.take_succ_eq_append_getElem hlt, List.append_assoc]
      simp [rd, List.getD_eq_getElem?_getD, hlt]
    rw [hset, w64 (by omega) (by omega)]
    refine ev_pos (by omega) (ev_pos (by omega) (ev_pos ?_ hr))
    simp only [List.length_append, List.length_take, List.length_replicate]
    omega
theorem laws_toIntS_ev (l : List Int) (hl : l.length ≤ 1048576) : Ev (fun k => laws_toIntS.f k l) l := by
  unfold laws_toIntS.f
  exact ev_pos (by omega) (ev_pos (by omega) (laws_toIntS_l0_ev l (by omega) l.length 0 (by omega)))
theorem laws_eqIntS_l0_ev (l : List Int) (hl : l.length ≤ 9223372036854775807) (d : Nat) : ∀ i : Nat, i + d = l.length → Ev (fun k => laws_eqIntS.l0 k l l i) true := by
  induction d with
  | zero =>
    intro i hi
    apply ev_succ
    simp only [laws_eqIntS.l0]
    exact ev_neg (by omega) (Ev.now _)
  | succ d ih =>
    intro i hi
    apply ev_succ
    simp only [laws_eqIntS.l0, if_true]
    rw [w64 (by omega) (by omega)]
    exact ev_pos (by omega) (ev_pos (by omega) (ev_pos (by omega) (ih (i + 1) (by omega))))
theorem laws_eqIntS_refl (l : List Int) (hl : l.length ≤ 9223372036854775807) : Ev (fun k => laws_eqIntS.f k l l) true := by
  unfold laws_eqIntS.f
  exact ev_pos rfl (laws_eqIntS_l0_ev l hl l.length 0 (by omega))

theorem FnExactPacketOk : ∀ (a0_0 : Int) (a0_1 : Int) (a0_2 : Int) (a0_3 : Int) (l0_4 : List Int) (l0_5 : List (S100)), (l0_4.length ≤ 9223372036854775807) → (l0_5.length ≤ 9223372036854775807) → (∀ x ∈ l0_5, x.f5.length ≤ 9223372036854775807) → ∃ k, laws_FnExactPacketOk.f k a0_0 a0_1 a0_2 a0_3 l0_4 l0_5 = some true := by
  intro a b c d hd l hh hl hx
  refine ev_ex ?_
  unfold laws_FnExactPacketOk.f
  have Z : Ev (fun k => laws_szPacket.f k a b c d hd l 1048576) (-1) ∨ ∃ t, Ev (fun k => laws_szPacket.f k a b c d hd l 1048576) t ∧ 0 ≤ t ∧ hd.length ≤ 1048576 ∧ l.length ≤ 1048576 ∧ ∀ x ∈ l, x.f5.length ≤ 1048576 := by
    unfold laws_szPacket.f
    rw [laws_szIntS_eq hd hh 1048576 (by omega) (by omega)]
    simp only [Option.bind_some]
    by_cases h : (1048576 : Int) < hd.length
    · left
      rw [if_pos h]
      exact ev_pos (by omega) (Ev.now _)
    · rw [if_neg h]
      rcases laws_szRecordS_cases l hl hx (1048576 - hd.length) (by omega) (by omega) with h' | ⟨t', h', h1', h2', h3', h4'⟩
      · exact Or.inl (ev_neg (by omega) (Ev.bind h' (ev_pos (by omega) (Ev.now _))))
      · exact Or.inr ⟨t', ev_neg (by omega) (Ev.bind h' (ev_neg (by omega) (Ev.now _))), h1', by omega, h3', h4'⟩
  rcases Z with h | ⟨t, h, h1, h2, h3, h4⟩
  · exact Ev.bind h (ev_pos (by omega) (Ev.now _))
  refine Ev.bind h (ev_neg (by omega) ?_)
  have T : Ev (fun k => laws_toPacket.f k a b c d hd l) (a, b, c, d, hd, toRecL l) := Ev.bind (laws_toIntS_ev hd h2) (Ev.bind (laws_toRecordS_ev l h3 h4) (Ev.now _))
  have hs := toRecL_small l h3 h4
  refine Ev.bind T (Ev.bind (spec_PacketOk_ev a b c d hd (toRecL l) (by omega) hs) (Ev.bind T (Ev.bind (impl_PacketOk_ev a b c d hd (toRecL l) (by omega) hs) (ev_neg (by simp) (Ev.bind T ?_)))))
  have E : Ev (fun k => laws_eqPacket.f k a b c d hd (toRecL l) a b c d hd (toRecL l)) true := by
    unfold laws_eqPacket.f
    simp only [if_true]
    exact Ev.bind (laws_eqIntS_refl hd (by omega)) (ev_pos rfl (Ev.bind (laws_eqRecordS_refl _ hs.lens) (ev_pos rfl (Ev.now _))))
  exact Ev.bind E (ev_pos rfl (Ev.now _))

end Go.Proofs.Ytnecbkognpponaa.Pure
