import Derived.Test.YtnecbkognpponaaXReadPacketQlawsFnExactReadPacket
/- Proved: the pure statement of the law FnExactReadPacket, for every input that its statement lets in. -/

set_option linter.unusedVariables false
set_option linter.unusedSimpArgs false
namespace Go.Proofs.Ytnecbkognpponaa.Pure
open Go.RowKit Go.Proofs.Ytnecbkognpponaa.Q Go.Proofs.YtnecbkognpponaaW.PrintWords Go.Proofs.YtnecbkognpponaaW.PrintLast

theorem w64 {x : Int} (h0 : -9223372036854775808 ≤ x) (h1 : x ≤ 9223372036854775807) : wrap64 x = x := by unfold wrap64; omega
theorem bt_b (s : ByteArray) (i : Int) : 0 ≤ bt s i ∧ bt s i < 256 := by have := bt_range s i; omega
theorem wbt (s : ByteArray) (i : Int) : wrap64 (bt s i) = bt s i := by have := bt_range s i; exact w64 (by omega) (by omega)
theorem tmodp {x m : Int} (h : 0 ≤ x) : Int.tmod x m = x % m := Int.tmod_eq_emod_of_nonneg h
theorem tdivp {x m : Int} (h : 0 ≤ x) : Int.tdiv x m = x / m := Int.tdiv_eq_ediv_of_nonneg h
/-- The bytes of a text, as numbers. -/
def B (s : ByteArray) : List Int := s.data.toList.map fun u => (u.toNat : Int)
def Byt (xs : List Int) : Prop := ∀ x ∈ xs, 0 ≤ x ∧ x < 256
theorem B_len (s : ByteArray) : (B s).length = s.size := by simp [B]
theorem B_byt (s : ByteArray) : Byt (B s) := by
 intro x hx
 obtain ⟨u, _, rfl⟩ := List.mem_map.1 hx
 have := u.toNat_lt
 omega
theorem B_str (xs : List Int) (h : Byt xs) : B (strOfNums xs) = xs := by
 simp only [B, strOfNums, List.map_map]
 conv => rhs; rw [← List.map_id xs]
 apply List.map_congr_left
 intro x hx
 have := h x hx
 simp only [Function.comp, UInt8.toNat_ofNat', id]
 omega
theorem str_B (s : ByteArray) : strOfNums (B s) = s := by
 apply Go.WideShapes.bytes_inj
 simp only [B, strOfNums, List.map_map]
 conv => rhs; rw [← List.map_id s.data.toList]
 apply List.map_congr_left
 intro x hx
 simp [Function.comp]
theorem B_inj {s t : ByteArray} (h : B s = B t) : s = t := by rw [← str_B s, ← str_B t, h]
theorem B_append (s t : ByteArray) : B (s ++ t) = B s ++ B t := by simp [B, ByteArray.data_append]
theorem B_extract (s : ByteArray) (a b : Nat) : B (s.extract a b) = ((B s).take b).drop a := by
 simp only [B, ByteArray.data_extract, Array.toList_extract, List.extract_eq_take_drop]
 rw [← List.map_take, ← List.map_drop, List.drop_take]
theorem B_bt (s : ByteArray) (i : Nat) (h : i < s.size) : (B s)[i]? = some (bt s i) := by
 have h' : i < s.data.toList.length := by rw [Array.length_toList]; exact h
 rw [B, List.getElem?_map, List.getElem?_eq_getElem h']
 simp [bt, h, ByteArray.getElem_eq_getElem_data]
theorem tl_iff (s t : ByteArray) : s.toList = t.toList ↔ B s = B t := by
 rw [ByteArray.toList_eq, ByteArray.toList_eq]
 constructor
 ·intro h; simp [B, h]
 ·intro h; rw [B_inj h]
theorem byt_app {xs ys : List Int} (h : Byt xs) (k : Byt ys) : Byt (xs ++ ys) := by
 intro x hx
 rcases List.mem_append.1 hx with hx | hx
 ·exact h x hx
 ·exact k x hx
theorem ev_ex {α : Type} {g : Nat → Option α} {r : α} (h : Ev g r) : ∃ k, g k = some r := h.rounds

theorem ev_ite {α : Type} {c : Prop} [Decidable c] {g f : Nat → Option α} {r : α} (h : c → Ev g r) (k : ¬ c → Ev f r) : Ev (fun n => if c then g n else f n) r := by
 by_cases hc : c
 ·exact Ev.congr (fun n => by rw [if_pos hc]) (h hc)
 ·exact Ev.congr (fun n => by rw [if_neg hc]) (k hc)
theorem ev_pos {α : Type} {c : Prop} [Decidable c] {g f : Nat → Option α} {r : α} (hc : c) (h : Ev g r) : Ev (fun n => if c then g n else f n) r := Ev.congr (fun n => by rw [if_pos hc]) h
theorem ev_neg {α : Type} {c : Prop} [Decidable c] {g f : Nat → Option α} {r : α} (hc : ¬ c) (h : Ev f r) : Ev (fun n => if c then g n else f n) r := Ev.congr (fun n => by rw [if_neg hc]) h
theorem ev_some {α : Type} {x r : α} (h : x = r) : Ev (fun _ => some x) r := by rw [h]; exact Ev.now _
theorem ev_succ {α : Type} {g : Nat → Option α} {r : α} (h : Ev (fun k => g (k + 1)) r) : Ev g r := Ev.step (fun _ => rfl) h
theorem ev_to {α : Type} {g : Nat → Option α} {r r' : α} (h : Ev g r) (e : r = r') : Ev g r' := e ▸ h

theorem set_mid {α : Type} (p : List α) (x y : α) (r : List α) (i : Nat) (h : p.length = i) : (p ++ x :: r).set i y = p ++ y :: r := by
 subst h
 simp
theorem drop_at {α : Type} (l : List α) (z : α) (i : Nat) (h : i < l.length) : l.drop i = l.getD i z :: l.drop (i + 1) := by
 rw [List.drop_eq_getElem_cons h, List.getD_eq_getElem?_getD, List.getElem?_eq_getElem h]
 rfl
-- toNear
/-! Near: lists -/
theorem laws_eqNear_refl (a b : Int) : laws_eqNear.f a b a b = some true := by
 unfold laws_eqNear.f
 simp
theorem laws_eqNearS_l0_ev (l : List S63) (hl : l.length ≤ 9223372036854775807) (d : Nat) : ∀ i : Nat, i + d = l.length → Ev (fun k => laws_eqNearS.l0 k l l i) true := by
 induction d with
 | zero =>
  intro i hi
  apply ev_succ
  simp only [laws_eqNearS.l0]
  exact ev_neg (by omega) (Ev.now _)
 | succ d ih =>
  intro i hi
  apply ev_succ
  simp only [laws_eqNearS.l0, laws_eqNear_refl, if_true, Option.bind_some]
  rw [w64 (by omega) (by omega)]
  exact ev_pos (by omega) (ev_pos (by omega) (ev_pos (by omega) (ih (i + 1) (by omega))))
theorem laws_eqNearS_refl (l : List S63) (hl : l.length ≤ 9223372036854775807) : Ev (fun k => laws_eqNearS.f k l l) true := by
 unfold laws_eqNearS.f
 exact ev_pos rfl (laws_eqNearS_l0_ev l hl l.length 0 (by omega))

theorem laws_eqRecord_refl (a b c d e : Int) (l : List S63) (f : Int) (g : Bool) (hl : l.length ≤ 9223372036854775807) : Ev (fun k => laws_eqRecord.f k a b c d e l f g a b c d e l f g) true := by
 unfold laws_eqRecord.f
 simp only [if_true]
 refine Ev.bind (laws_eqNearS_refl l hl) ?_
 simp
 exact Ev.now _

/-- No list of a record is longer than can be counted. -/
def Lens (s : List S24) : Prop := s.length ≤ 9223372036854775000 ∧ ∀ x ∈ s, x.f5.length ≤ 9223372036854775000
theorem getD_mem {α : Type} (l : List α) (z : α) (i : Nat) (h : i < l.length) : l.getD i z ∈ l := by
 rw [List.getD_eq_getElem?_getD, List.getElem?_eq_getElem h]
 exact List.getElem_mem h
theorem laws_eqRecordS_l0_ev (l : List S24) (hl : Lens l) (d : Nat) : ∀ i : Nat, i + d = l.length → Ev (fun k => laws_eqRecordS.l0 k l l i) true := by
 induction d with
 | zero =>
  intro i hi
  apply ev_succ
  simp only [laws_eqRecordS.l0]
  exact ev_neg (by omega) (Ev.now _)
 | succ d ih =>
  intro i hi
  have h1 := hl.1; obtain ⟨x, hxe⟩ : ∃ x, rd_T24 l (i : Int) = x := ⟨_, rfl⟩
  have hx2 : l.getD i z24 = x := hxe
  have hm : x ∈ l := by rw [← hx2]; exact getD_mem l _ i (by omega)
  have h2 := hl.2 x hm
  apply ev_succ
  simp only [laws_eqRecordS.l0, hxe]
  rw [w64 (by omega) (by omega)]
  refine ev_pos (by omega) (ev_pos (by omega) (ev_pos (by omega) (Ev.bind (laws_eqRecord_refl _ _ _ _ _ _ _ _ (by omega)) (ev_pos rfl (ih (i + 1) (by omega))))))
theorem laws_eqRecordS_refl (l : List S24) (hl : Lens l) : Ev (fun k => laws_eqRecordS.f k l l) true := by
 unfold laws_eqRecordS.f
 exact ev_pos rfl (laws_eqRecordS_l0_ev l hl l.length 0 (by omega))

def sameKey (a b : S24) : Bool := decide (a.f0 = b.f0 ∧ a.f1 = b.f1 ∧ a.f2 = b.f2 ∧ a.f3 = b.f3)
def beforeB (a b : S24) : Bool := decide (a.f0 < b.f0 ∨ a.f0 = b.f0 ∧ (a.f1 < b.f1 ∨ a.f1 = b.f1 ∧ (a.f2 < b.f2 ∨ a.f2 = b.f2 ∧ a.f3 < b.f3)))
theorem spec_l01In_eq (a b c : Int) : spec_l01In.f a b c = some (decide (b ≤ a ∧ a ≤ c)) := by
 unfold spec_l01In.f
 by_cases h : a ≥ b
 ·rw [if_pos h]; congr 1; simp; omega
 ·rw [if_neg h]; congr 1; simp; omega

theorem impl_in_eq (a b c : Int) : impl_in.f a b c = some (decide (b ≤ a ∧ a ≤ c)) := by
 unfold impl_in.f
 by_cases h : a ≥ b
 ·rw [if_pos h]; congr 1; simp; omega
 ·rw [if_neg h]; congr 1; simp; omega

/-- What is near ascends, and is right; the one before, if there is one. -/
def nearGo (ow : Int) : Option Int → List S63 → Bool
 | _, [] => true
 | p, x :: xs => decide (1 ≤ x.f0 ∧ x.f0 ≤ 6) && !decide (x.f0 = ow) && decide (1 ≤ x.f1 ∧ x.f1 ≤ 1000) && p.all (fun y => decide (y < x.f0)) && nearGo ow (some x.f0) xs
def nearB (ow : Int) (l : List S63) : Bool := nearGo ow none l
def pvN (l : List S63) (i : Nat) : Option Int := if i = 0 then none else some (l.getD (i - 1) z63).f0
theorem pvN_succ (l : List S63) (i : Nat) : pvN l (i + 1) = some (l.getD i z63).f0 := by simp [pvN]
theorem rdNp (l : List S63) (i : Nat) (h : 0 < i) (hl : i < 9223372036854775807) : rd_T63 l (wrap64 ((i : Int) - 1)) = l.getD (i - 1) z63 := by
 rw [w64 (by omega) (by omega), show (i : Int) - 1 = ((i - 1 : Nat) : Int) by omega]
 rfl

/-- Is what a record holds right for its kind? -/
def recK (ar ki ow ke : Int) (l : List S63) (co : Int) (fa : Bool) : Bool :=
 if ki = 1 then decide (0 ≤ ar ∧ ar ≤ 2) && decide (ke = 0) && nearB ow l && decide (co = 0) && !fa
 else if ki = 2 then decide (0 ≤ ar ∧ ar ≤ 2) && decide (1 ≤ ke ∧ ke ≤ 6) && decide (l.length = 0) && decide (0 ≤ co ∧ co ≤ 60000) && !fa
 else if ki = 3 then decide (ar = 9) && decide (1 ≤ ke ∧ ke ≤ 9) && decide (l.length = 0) && (decide (1 ≤ co ∧ co ≤ 1000) || (co == 60000))
 else false
def recB (ar ki ow ke se : Int) (l : List S63) (co : Int) (fa : Bool) : Bool := decide (1 ≤ ow ∧ ow ≤ 6) && decide (1 ≤ se ∧ se ≤ 100000) && recK ar ki ow ke l co fa

def recR (r : S24) : Bool := recB r.f0 r.f1 r.f2 r.f3 r.f4 r.f5 r.f6 r.f7
/-- Right records, one ahead of the other; the one before, if there is one. -/
def storeGo : Option S24 → List S24 → Bool
 | _, [] => true
 | p, x :: xs => recR x && p.all (fun y => beforeB y x) && storeGo (some x) xs
def storeB (s : List S24) : Bool := decide (s.length ≤ 150) && storeGo none s
def pvR (l : List S24) (i : Nat) : Option S24 := if i = 0 then none else some (l.getD (i - 1) z24)
theorem pvR_succ (l : List S24) (i : Nat) : pvR l (i + 1) = some (l.getD i z24) := by simp [pvR]
theorem rdRp (l : List S24) (i : Nat) (h : 0 < i) (hl : i < 9223372036854775807) : rd_T24 l (wrap64 ((i : Int) - 1)) = l.getD (i - 1) z24 := by
 rw [w64 (by omega) (by omega), show (i : Int) - 1 = ((i - 1 : Nat) : Int) by omega]
 rfl

theorem spec_Before_eq (a b : S24) : spec_Before.f a.f0 a.f1 a.f2 a.f3 a.f4 a.f5 a.f6 a.f7 b.f0 b.f1 b.f2 b.f3 b.f4 b.f5 b.f6 b.f7 = some (beforeB a b) := by
 unfold spec_Before.f beforeB
 by_cases h0 : a.f0 = b.f0
 ·by_cases h1 : a.f1 = b.f1
  ·by_cases h2 : a.f2 = b.f2
   ·rw [if_pos h0, if_pos h1, if_pos h2]
    congr 1
    rw [Bool.eq_iff_iff, decide_eq_true_eq, decide_eq_true_eq]
    omega
   ·rw [if_pos h0, if_pos h1, if_neg h2]
    congr 1
    rw [Bool.eq_iff_iff, decide_eq_true_eq, decide_eq_true_eq]
    omega
  ·rw [if_pos h0, if_neg h1]
   congr 1
   rw [Bool.eq_iff_iff, decide_eq_true_eq, decide_eq_true_eq]
   omega
 ·rw [if_neg h0]
  congr 1
  rw [Bool.eq_iff_iff, decide_eq_true_eq, decide_eq_true_eq]
  omega

theorem spec_l04Near_l0_ev (q0 q1 ow q3 q4 q6 : Int) (q7 : Bool) (l : List S63) (hl : l.length ≤ 9223372036854775807) (d : Nat) : ∀ i : Nat, i + d = l.length →
  Ev (fun k => spec_l04Near.l0 k i q0 q1 ow q3 q4 l q6 q7) (nearGo ow (pvN l i) (l.drop i)) := by
 induction d with
 | zero =>
  intro i hi
  rw [List.drop_eq_nil_of_le (by omega)]
  apply ev_succ
  simp only [spec_l04Near.l0]
  exact ev_neg (by omega) (ev_some rfl)
 | succ d ih =>
  intro i hi
  have hr := ih (i + 1) (by omega)
  obtain ⟨x, hx⟩ : ∃ x, rd_T63 l (i : Int) = x := ⟨_, rfl⟩
  have hx2 : l.getD i z63 = x := hx
  rw [pvN_succ, hx2] at hr
  rw [drop_at l z63 i (by omega), hx2]
  apply ev_succ
  simp only [spec_l04Near.l0, spec_l01In_eq, Option.bind_some, decide_eq_true_eq, hx]
  rw [nearGo]
  refine ev_pos (by omega) (ev_pos (by omega) ?_)
  refine ev_ite (fun h1 => ?_) (fun h1 => ev_some (by rw [decide_eq_false h1]; rfl))
  refine ev_ite (fun h2 => ev_some (by rw [decide_eq_true h1, decide_eq_true h2]; rfl)) (fun h2 => ?_)
  refine ev_ite (fun h3 => ?_) (fun h3 => ev_some (by rw [decide_eq_true h1, decide_eq_false h2, decide_eq_false h3]; rfl))
  refine ev_ite (fun h4 => ?_) (fun h4 => ?_)
  ·have h0 : 0 < i := by omega
   refine ev_pos (by rw [w64 (by omega) (by omega)]; omega) (ev_pos (by rw [w64 (by omega) (by omega)]; omega) ?_)
   have hp : pvN l i = some (l.getD (i - 1) z63).f0 := by unfold pvN; rw [if_neg (by omega)]
   rw [hp, rdNp l i h0 (by omega)]
   refine ev_ite (fun h5 => ev_some ?_) (fun h5 => ?_)
   ·have h6 : ¬ ((l.getD (i - 1) z63).f0 < x.f0) := by omega
    simp only [Option.all_some, decide_eq_false h6, Bool.and_false, Bool.false_and]
   ·have h6 : (l.getD (i - 1) z63).f0 < x.f0 := by omega
    rw [w64 (by omega) (by omega)]
    refine ev_to hr ?_
    simp only [Option.all_some, decide_eq_true h6, decide_eq_true h1, decide_eq_false h2, decide_eq_true h3, Bool.true_and, Bool.not_false]
  ·have h0 : i = 0 := by omega
   have hp : pvN l i = none := by rw [h0]; rfl
   rw [hp, w64 (by omega) (by omega)]
   refine ev_to hr ?_
   simp only [Option.all_none, decide_eq_true h1, decide_eq_false h2, decide_eq_true h3, Bool.true_and, Bool.not_false]
theorem spec_l04Near_ev (q0 q1 ow q3 q4 q6 : Int) (q7 : Bool) (l : List S63) (hl : l.length ≤ 9223372036854775807) : Ev (fun k => spec_l04Near.f k q0 q1 ow q3 q4 l q6 q7) (nearB ow l) :=
 spec_l04Near_l0_ev q0 q1 ow q3 q4 q6 q7 l hl l.length 0 (by omega)

-- spec_RecordOk
/-! spec_RecordOk -/
theorem spec_RecordOk_ev (ar ki ow ke se : Int) (l : List S63) (co : Int) (fa : Bool) (hl : l.length ≤ 9223372036854775807) : Ev (fun k => spec_RecordOk.f k ar ki ow ke se l co fa) (recB ar ki ow ke se l co fa) := by
 have hj : ∀ b : Bool, Ev (fun k => spec_RecordOk.j0 k b ar ki ow ke se l co fa) (!b && recK ar ki ow ke l co fa) := by
  intro b
  apply ev_succ
  simp only [spec_RecordOk.j0, spec_l01In_eq, Option.bind_some, decide_eq_true_eq]
  refine ev_ite (fun hb => ev_some (by simp [hb])) (fun hb => ?_)
  have hb' : b = false := by simpa using hb
  rw [hb']
  unfold recK
  refine ev_ite (fun h1 => ?_) (fun h1 => ?_)
  ·rw [if_pos h1]
   refine ev_ite (fun h2 => ?_) (fun h2 => ev_some (by simp [h2]))
   refine ev_ite (fun h3 => ?_) (fun h3 => ev_some (by simp [h3]))
   refine Ev.bind (spec_l04Near_ev ar ki ow ke se co fa l hl) ?_
   refine ev_ite (fun h4 => ?_) (fun h4 => ev_some (by simp [h4]))
   refine ev_ite (fun h5 => ev_some ?_) (fun h5 => ev_some (by simp [h5]))
   simp [h2, h3, h4, h5]
  ·rw [if_neg h1]
   refine ev_ite (fun h1 => ?_) (fun h1 => ?_)
   ·rw [if_pos h1]
    refine ev_ite (fun h2 => ?_) (fun h2 => ev_some (by simp [h2]))
    refine ev_ite (fun h3 => ?_) (fun h3 => ev_some (by simp [h3]))
    refine ev_ite (fun h4 => ?_) (fun h4 => ev_some ?_)
    ·have h4' : l.length = 0 := by omega
     refine ev_ite (fun h5 => ev_some ?_) (fun h5 => ev_some (by simp [h5]))
     simp [h2, h3, h4', h5]
    ·have h4' : ¬ l.length = 0 := by omega
     simp [h4']
   ·rw [if_neg h1]
    refine ev_ite (fun h1 => ?_) (fun h1 => ?_)
    ·rw [if_pos h1]
     refine ev_ite (fun h2 => ?_) (fun h2 => ev_some (by simp [h2]))
     refine ev_ite (fun h3 => ?_) (fun h3 => ev_some (by simp [h3]))
     refine ev_ite (fun h4 => ?_) (fun h4 => ev_some ?_)
     ·have h4' : l.length = 0 := by omega
      refine ev_ite (fun h5 => ev_some ?_) (fun h5 => ev_some ?_)
      ·simp [h2, h3, h4', h5]
      ·simp [h2, h3, h4', h5]
     ·have h4' : ¬ l.length = 0 := by omega
      simp [h4']
    ·rw [if_neg h1]
     exact ev_some (by simp)
 unfold spec_RecordOk.f
 simp only [spec_l01In_eq, Option.bind_some, decide_eq_true_eq]
 unfold recB
 refine ev_ite (fun h1 => ?_) (fun h1 => ?_)
 ·exact ev_to (hj _) (by simp [h1])
 ·exact ev_to (hj _) (by simp [h1])

theorem spec_StoreOk_l0_ev (l : List S24) (hl : Lens l) (d : Nat) : ∀ i : Nat, i + d = l.length →
  Ev (fun k => spec_StoreOk.l0 k l i) (storeGo (pvR l i) (l.drop i)) := by
 have hl1 := hl.1
 induction d with
 | zero =>
  intro i hi
  rw [List.drop_eq_nil_of_le (by omega)]
  apply ev_succ
  simp only [spec_StoreOk.l0]
  exact ev_neg (by omega) (ev_some (by simp [storeGo]))
 | succ d ih =>
  intro i hi
  have hr := ih (i + 1) (by omega)
  obtain ⟨x, hx⟩ : ∃ x, rd_T24 l (i : Int) = x := ⟨_, rfl⟩
  have hx2 : l.getD i z24 = x := hx
  have hm : x ∈ l := by rw [← hx2]; exact getD_mem l _ i (by omega)
  have hn := hl.2 x hm; rw [pvR_succ, hx2] at hr
  rw [drop_at l z24 i (by omega), hx2, storeGo]
  apply ev_succ
  simp only [spec_StoreOk.l0, hx]
  rw [w64 (x := (i : Int) + 1) (by omega) (by omega)]
  refine ev_pos (by omega) (ev_pos (by omega) ?_)
  refine Ev.bind (spec_RecordOk_ev x.f0 x.f1 x.f2 x.f3 x.f4 x.f5 x.f6 x.f7 (by omega)) ?_
  have hrec : recB x.f0 x.f1 x.f2 x.f3 x.f4 x.f5 x.f6 x.f7 = recR x := rfl
  rw [hrec]
  refine ev_ite (fun h1 => ?_) (fun h1 => ev_some (by simp [h1]))
  refine ev_ite (fun h2 => ?_) (fun h2 => ?_)
  ·have h0 : 0 < i := by omega
   have hp : pvR l i = some (l.getD (i - 1) z24) := by unfold pvR; rw [if_neg (by omega)]
   rw [hp]
   simp only [rdRp l i h0 (by omega), spec_Before_eq, Option.bind_some]
   refine ev_pos (by rw [w64 (by omega) (by omega)]; omega) (ev_pos (by rw [w64 (by omega) (by omega)]; omega) ?_)
   refine ev_ite (fun h3 => ?_) (fun h3 => ev_some ?_)
   ·refine ev_to hr ?_
    simp only [Option.all_some, h1, h3, Bool.true_and]
   ·have h3' : beforeB (l.getD (i - 1) z24) x = false := by simpa using h3
    simp only [Option.all_some, h3', Bool.and_false, Bool.false_and]
  ·have h0 : i = 0 := by omega
   have hp : pvR l i = none := by rw [h0]; rfl
   rw [hp]
   refine ev_to hr ?_
   simp [h1]
theorem spec_StoreOk_ev (l : List S24) (hl : Lens l) : Ev (fun k => spec_StoreOk.f k l) (storeB l) := by
 unfold spec_StoreOk.f storeB
 refine ev_ite (fun h => ev_some ?_) (fun h => ?_)
 ·rw [decide_eq_false (by omega), Bool.false_and]
 ·rw [decide_eq_true (by omega), Bool.true_and]
  exact spec_StoreOk_l0_ev l hl l.length 0 (by omega)

theorem impl_Before_eq (a b : S24) : impl_Before.f a.f0 a.f1 a.f2 a.f3 a.f4 a.f5 a.f6 a.f7 b.f0 b.f1 b.f2 b.f3 b.f4 b.f5 b.f6 b.f7 = some (beforeB a b) := by
 unfold impl_Before.f beforeB
 by_cases h0 : a.f0 = b.f0
 ·by_cases h1 : a.f1 = b.f1
  ·by_cases h2 : a.f2 = b.f2
   ·rw [if_pos h0, if_pos h1, if_pos h2]
    congr 1
    rw [Bool.eq_iff_iff, decide_eq_true_eq, decide_eq_true_eq]
    omega
   ·rw [if_pos h0, if_pos h1, if_neg h2]
    congr 1
    rw [Bool.eq_iff_iff, decide_eq_true_eq, decide_eq_true_eq]
    omega
  ·rw [if_pos h0, if_neg h1]
   congr 1
   rw [Bool.eq_iff_iff, decide_eq_true_eq, decide_eq_true_eq]
   omega
 ·rw [if_neg h0]
  congr 1
  rw [Bool.eq_iff_iff, decide_eq_true_eq, decide_eq_true_eq]
  omega

theorem impl_nearOk_l0_ev (q0 q1 ow q3 q4 q6 : Int) (q7 : Bool) (l : List S63) (hl : l.length ≤ 9223372036854775807) (d : Nat) : ∀ i : Nat, i + d = l.length →
  Ev (fun k => impl_nearOk.l0 k l (l.length : Int) i q0 q1 ow q3 q4 l q6 q7) (nearGo ow (pvN l i) (l.drop i)) := by
 induction d with
 | zero =>
  intro i hi
  rw [List.drop_eq_nil_of_le (by omega)]
  apply ev_succ
  simp only [impl_nearOk.l0]
  exact ev_neg (by omega) (ev_some rfl)
 | succ d ih =>
  intro i hi
  have hr := ih (i + 1) (by omega)
  obtain ⟨x, hx⟩ : ∃ x, rd_T63 l (i : Int) = x := ⟨_, rfl⟩
  have hx2 : l.getD i z63 = x := hx
  rw [pvN_succ, hx2] at hr
  rw [drop_at l z63 i (by omega), hx2]
  apply ev_succ
  simp only [impl_nearOk.l0, impl_in_eq, Option.bind_some, decide_eq_true_eq, hx]
  rw [nearGo]
  refine ev_pos (by omega) (ev_pos (by omega) (ev_pos (by omega) ?_))
  refine ev_ite (fun h1 => ?_) (fun h1 => ev_some (by rw [decide_eq_false h1]; rfl))
  refine ev_ite (fun h2 => ev_some (by rw [decide_eq_true h1, decide_eq_true h2]; rfl)) (fun h2 => ?_)
  refine ev_ite (fun h3 => ?_) (fun h3 => ev_some (by rw [decide_eq_true h1, decide_eq_false h2, decide_eq_false h3]; rfl))
  refine ev_ite (fun h4 => ?_) (fun h4 => ?_)
  ·have h0 : 0 < i := by omega
   refine ev_pos (by rw [w64 (by omega) (by omega)]; omega) (ev_pos (by rw [w64 (by omega) (by omega)]; omega) ?_)
   have hp : pvN l i = some (l.getD (i - 1) z63).f0 := by unfold pvN; rw [if_neg (by omega)]
   rw [hp, rdNp l i h0 (by omega)]
   refine ev_ite (fun h5 => ev_some ?_) (fun h5 => ?_)
   ·have h6 : ¬ ((l.getD (i - 1) z63).f0 < x.f0) := by omega
    simp only [Option.all_some, decide_eq_false h6, Bool.and_false, Bool.false_and]
   ·have h6 : (l.getD (i - 1) z63).f0 < x.f0 := by omega
    rw [w64 (by omega) (by omega)]
    refine ev_to hr ?_
    simp only [Option.all_some, decide_eq_true h6, decide_eq_true h1, decide_eq_false h2, decide_eq_true h3, Bool.true_and, Bool.not_false]
  ·have h0 : i = 0 := by omega
   have hp : pvN l i = none := by rw [h0]; rfl
   rw [hp, w64 (by omega) (by omega)]
   refine ev_to hr ?_
   simp only [Option.all_none, decide_eq_true h1, decide_eq_false h2, decide_eq_true h3, Bool.true_and, Bool.not_false]
theorem impl_nearOk_ev (q0 q1 ow q3 q4 q6 : Int) (q7 : Bool) (l : List S63) (hl : l.length ≤ 9223372036854775807) : Ev (fun k => impl_nearOk.f k q0 q1 ow q3 q4 l q6 q7) (nearB ow l) :=
 impl_nearOk_l0_ev q0 q1 ow q3 q4 q6 q7 l hl l.length 0 (by omega)

-- impl_RecordOk
/-! impl_RecordOk -/
theorem impl_RecordOk_ev (ar ki ow ke se : Int) (l : List S63) (co : Int) (fa : Bool) (hl : l.length ≤ 9223372036854775807) : Ev (fun k => impl_RecordOk.f k ar ki ow ke se l co fa) (recB ar ki ow ke se l co fa) := by
 have hj : ∀ b : Bool, Ev (fun k => impl_RecordOk.j0 k b ar ki ow ke se l co fa) (!b && recK ar ki ow ke l co fa) := by
  intro b
  apply ev_succ
  simp only [impl_RecordOk.j0, impl_in_eq, Option.bind_some, decide_eq_true_eq]
  refine ev_ite (fun hb => ev_some (by simp [hb])) (fun hb => ?_)
  have hb' : b = false := by simpa using hb
  rw [hb']
  unfold recK
  refine ev_ite (fun h1 => ?_) (fun h1 => ?_)
  ·rw [if_pos h1]
   refine ev_ite (fun h2 => ?_) (fun h2 => ev_some (by simp [h2]))
   refine ev_ite (fun h3 => ?_) (fun h3 => ev_some (by simp [h3]))
   refine Ev.bind (impl_nearOk_ev ar ki ow ke se co fa l hl) ?_
   refine ev_ite (fun h4 => ?_) (fun h4 => ev_some (by simp [h4]))
   refine ev_ite (fun h5 => ev_some ?_) (fun h5 => ev_some (by simp [h5]))
   simp [h2, h3, h4, h5]
  ·rw [if_neg h1]
   refine ev_ite (fun h1 => ?_) (fun h1 => ?_)
   ·rw [if_pos h1]
    refine ev_ite (fun h2 => ?_) (fun h2 => ev_some (by simp [h2]))
    refine ev_ite (fun h3 => ?_) (fun h3 => ev_some (by simp [h3]))
    refine ev_ite (fun h4 => ?_) (fun h4 => ev_some ?_)
    ·have h4' : l.length = 0 := by omega
     refine ev_ite (fun h5 => ev_some ?_) (fun h5 => ev_some (by simp [h5]))
     simp [h2, h3, h4', h5]
    ·have h4' : ¬ l.length = 0 := by omega
     simp [h4']
   ·rw [if_neg h1]
    refine ev_ite (fun h1 => ?_) (fun h1 => ?_)
    ·rw [if_pos h1]
     refine ev_ite (fun h2 => ?_) (fun h2 => ev_some (by simp [h2]))
     refine ev_ite (fun h3 => ?_) (fun h3 => ev_some (by simp [h3]))
     refine ev_ite (fun h4 => ?_) (fun h4 => ev_some ?_)
     ·have h4' : l.length = 0 := by omega
      refine ev_ite (fun h5 => ev_some ?_) (fun h5 => ev_some ?_)
      ·simp [h2, h3, h4', h5]
      ·simp [h2, h3, h4', h5]
     ·have h4' : ¬ l.length = 0 := by omega
      simp [h4']
    ·rw [if_neg h1]
     exact ev_some (by simp)
 unfold impl_RecordOk.f
 simp only [impl_in_eq, Option.bind_some, decide_eq_true_eq]
 unfold recB
 refine ev_ite (fun h1 => ?_) (fun h1 => ?_)
 ·exact ev_to (hj _) (by simp [h1])
 ·exact ev_to (hj _) (by simp [h1])

theorem impl_StoreOk_l0_ev (l : List S24) (hl : Lens l) (d : Nat) : ∀ i : Nat, i + d = l.length →
  Ev (fun k => impl_StoreOk.l0 k l l (l.length : Int) i) (decide (l.length ≤ 150) && storeGo (pvR l i) (l.drop i)) := by
 have hl1 := hl.1
 induction d with
 | zero =>
  intro i hi
  rw [List.drop_eq_nil_of_le (by omega)]
  apply ev_succ
  simp only [impl_StoreOk.l0]
  exact ev_neg (by omega) (ev_some (by rw [storeGo, Bool.and_true]; by_cases h : l.length ≤ 150 <;> simp [h] <;> omega))
 | succ d ih =>
  intro i hi
  have hr := ih (i + 1) (by omega)
  obtain ⟨x, hx⟩ : ∃ x, rd_T24 l (i : Int) = x := ⟨_, rfl⟩
  have hx2 : l.getD i z24 = x := hx
  have hm : x ∈ l := by rw [← hx2]; exact getD_mem l _ i (by omega)
  have hn := hl.2 x hm; rw [pvR_succ, hx2] at hr
  rw [drop_at l z24 i (by omega), hx2, storeGo]
  apply ev_succ
  simp only [impl_StoreOk.l0, hx]
  rw [w64 (x := (i : Int) + 1) (by omega) (by omega)]
  refine ev_pos (by omega) (ev_pos (by omega) (ev_pos (by omega) ?_))
  refine Ev.bind (impl_RecordOk_ev x.f0 x.f1 x.f2 x.f3 x.f4 x.f5 x.f6 x.f7 (by omega)) ?_
  have hrec : recB x.f0 x.f1 x.f2 x.f3 x.f4 x.f5 x.f6 x.f7 = recR x := rfl
  rw [hrec]
  refine ev_ite (fun h1 => ?_) (fun h1 => ev_some (by simp [h1]))
  refine ev_ite (fun h2 => ?_) (fun h2 => ?_)
  ·have h0 : 0 < i := by omega
   have hp : pvR l i = some (l.getD (i - 1) z24) := by unfold pvR; rw [if_neg (by omega)]
   rw [hp]
   simp only [rdRp l i h0 (by omega), impl_Before_eq, Option.bind_some]
   refine ev_pos (by rw [w64 (by omega) (by omega)]; omega) (ev_pos (by rw [w64 (by omega) (by omega)]; omega) ?_)
   refine ev_ite (fun h3 => ?_) (fun h3 => ev_some ?_)
   ·refine ev_to hr ?_
    simp only [Option.all_some, h1, h3, Bool.true_and]
   ·have h3' : beforeB (l.getD (i - 1) z24) x = false := by simpa using h3
    simp only [Option.all_some, h3', Bool.and_false, Bool.false_and]
  ·have h0 : i = 0 := by omega
   have hp : pvR l i = none := by rw [h0]; rfl
   rw [hp]
   refine ev_to hr ?_
   simp [h1]
theorem impl_StoreOk_ev (l : List S24) (hl : Lens l) : Ev (fun k => impl_StoreOk.f k l) (storeB l) :=
 impl_StoreOk_l0_ev l hl l.length 0 (by omega)

/-- What is near, marked from m on. -/
def markN : List S63 → Int → List S63
 | [], _ => []
 | _ :: xs, m => ⟨m, m + 1⟩ :: markN xs (m + 2)
theorem rd_mid {α : Type} (p : List α) (x z : α) (r : List α) (i : Nat) (h : p.length = i) : (p ++ x :: r).getD i z = x := by
 subst h
 simp
theorem laws_markNearS_l0 (xs : List S63) : ∀ (p : List S63) (m : Int) (i : Nat), p.length = i → 0 ≤ m → m + 2 * (xs.length : Int) ≤ 4611686018427387904 → (i : Int) + xs.length ≤ 4611686018427387904 →
  Ev (fun k => laws_markNearS.l0 k (p ++ xs) m i) (m + 2 * (xs.length : Int), p ++ markN xs m) := by
 induction xs with
 | nil =>
  intro p m i hp h0 h1 h2
  apply ev_succ
  simp only [laws_markNearS.l0]
  exact ev_neg (by simp; omega) (ev_some (by simp [markN]))
 | cons x xs ih =>
  intro p m i hp h0 h1 h2
  simp only [List.length_cons] at h1 h2
  have hr := ih (p ++ [⟨m, m + 1⟩]) (m + 2) (i + 1) (by simp [hp]) (by omega) (by omega) (by omega)
  apply ev_succ
  simp only [laws_markNearS.l0, Option.bind_some]
  refine ev_pos (by simp; omega) (ev_pos (by omega) ?_)
  rw [w64 (x := m + 1) (by omega) (by omega), w64 (x := m + 1 + 1) (by omega) (by omega), w64 (x := (i : Int) + 1) (by omega) (by omega), Int.toNat_natCast, set_mid _ _ _ _ i hp, set_mid _ _ _ _ i hp]
  have hrd : rd_T63 (p ++ (⟨m, (rd_T63 (p ++ x :: xs) (i : Int)).f1⟩ : S63) :: xs) (i : Int) = ⟨m, (rd_T63 (p ++ x :: xs) (i : Int)).f1⟩ := rd_mid p _ _ xs i hp
  rw [hrd, show m + 1 + 1 = m + 2 by omega]
  have e : p ++ [(⟨m, m + 1⟩ : S63)] ++ xs = p ++ (⟨m, m + 1⟩ : S63) :: xs := by simp
  rw [e] at hr
  refine ev_to hr ?_
  simp only [markN, List.append_assoc, List.cons_append, List.nil_append, List.length_cons, Prod.mk.injEq, and_true]
  push_cast
  omega
theorem laws_markNearS_ev (l : List S63) (m : Int) (h0 : 0 ≤ m) (h1 : m + 2 * (l.length : Int) ≤ 4611686018427387904) :
  Ev (fun k => laws_markNearS.f k l m) (m + 2 * (l.length : Int), markN l m) := laws_markNearS_l0 l [] m 0 rfl h0 h1 (by omega)
theorem laws_heldNearS_l0 (xs : List S63) : ∀ (p : List S63) (m : Int) (i : Nat), p.length = i → 0 ≤ m → m + 2 * (xs.length : Int) ≤ 4611686018427387904 → (i : Int) + xs.length ≤ 4611686018427387904 →
  Ev (fun k => laws_heldNearS.l0 k (p ++ markN xs m) m i) (m + 2 * (xs.length : Int)) := by
 induction xs with
 | nil =>
  intro p m i hp h0 h1 h2
  apply ev_succ
  simp only [laws_heldNearS.l0]
  exact ev_neg (by simp [markN]; omega) (ev_some (by simp))
 | cons x xs ih =>
  intro p m i hp h0 h1 h2
  simp only [List.length_cons] at h1 h2
  have hr := ih (p ++ [⟨m, m + 1⟩]) (m + 2) (i + 1) (by simp [hp]) (by omega) (by omega) (by omega)
  have hrd : rd_T63 (p ++ (⟨m, m + 1⟩ : S63) :: markN xs (m + 2)) (i : Int) = ⟨m, m + 1⟩ := rd_mid p _ _ _ i hp
  apply ev_succ
  simp only [laws_heldNearS.l0, markN, hrd]
  refine ev_pos (by simp; omega) (ev_pos (by omega) (ev_pos (by trivial) ?_))
  rw [w64 (x := m + 1) (by omega) (by omega), w64 (x := m + 1 + 1) (by omega) (by omega), w64 (x := (i : Int) + 1) (by omega) (by omega), show m + 1 + 1 = m + 2 by omega]
  have e : p ++ [(⟨m, m + 1⟩ : S63)] ++ markN xs (m + 2) = p ++ (⟨m, m + 1⟩ : S63) :: markN xs (m + 2) := by simp
  rw [e] at hr
  refine ev_pos rfl (ev_to hr ?_)
  simp only [List.length_cons]
  push_cast
  omega
theorem laws_heldNearS_ev (l : List S63) (m : Int) (h0 : 0 ≤ m) (h1 : m + 2 * (l.length : Int) ≤ 4611686018427387904) :
  Ev (fun k => laws_heldNearS.f k (markN l m) m) (m + 2 * (l.length : Int)) := laws_heldNearS_l0 l [] m 0 rfl h0 h1 (by omega)

/-- Where the marks of records end, and the records marked. -/
def endR : List S24 → Int → Int
 | [], m => m
 | x :: xs, m => endR xs (m + 7 + 2 * (x.f5.length : Int))
def markR : List S24 → Int → List S24
 | [], _ => []
 | x :: xs, m => ⟨m, m + 1, m + 2, m + 3, m + 4, markN x.f5 (m + 5), m + 5 + 2 * (x.f5.length : Int), Int.tmod (m + 6 + 2 * (x.f5.length : Int)) 3 == 0⟩ :: markR xs (m + 7 + 2 * (x.f5.length : Int))
def Small (s : List S24) : Prop := s.length ≤ 8388608 ∧ ∀ x ∈ s, x.f5.length ≤ 1048576
theorem Small.lens {s : List S24} (h : Small s) : Lens s := ⟨by have := h.1; omega, fun x hx => by have := h.2 x hx; omega⟩
theorem endR_ge (xs : List S24) : ∀ m, m ≤ endR xs m := by
 induction xs with
 | nil => intro m; exact Int.le_refl _
 | cons x xs ih => intro m; have := ih (m + 7 + 2 * (x.f5.length : Int)); simp only [endR]; omega
theorem endR_le (xs : List S24) : ∀ m, (∀ x ∈ xs, x.f5.length ≤ 1048576) → endR xs m ≤ m + 2097159 * (xs.length : Int) := by
 induction xs with
 | nil => intro m _; simp [endR]
 | cons x xs ih =>
  intro m h
  have h1 := h x (by simp)
  have := ih (m + 7 + 2 * (x.f5.length : Int)) (fun y hy => h y (by simp [hy]))
  simp only [endR, List.length_cons]
  push_cast
  omega
theorem Small.end {s : List S24} (h : Small s) {m : Int} (hm : m ≤ 1000000000000000) : endR s m ≤ 100000000000000000 := by
 have := endR_le s m h.2
 have := h.1
 omega
theorem laws_markRecordS_l0 (xs : List S24) : ∀ (p : List S24) (m : Int) (i : Nat), p.length = i → 0 ≤ m → endR xs m ≤ 4611686018427387000 → (i : Int) + xs.length ≤ 4611686018427387904 →
  Ev (fun k => laws_markRecordS.l0 k (p ++ xs) m i) (endR xs m, p ++ markR xs m) := by
 induction xs with
 | nil =>
  intro p m i hp h0 h1 h2
  apply ev_succ
  simp only [laws_markRecordS.l0]
  exact ev_neg (by simp; omega) (ev_some (by simp [markR, endR]))
 | cons x xs ih =>
  intro p m i hp h0 h1 h2
  simp only [List.length_cons, endR] at h1 h2
  have hg := endR_ge xs (m + 7 + 2 * (x.f5.length : Int))
  have hrd : rd_T24 (p ++ x :: xs) (i : Int) = x := rd_mid p _ _ xs i hp
  have hw1 : wrap64 (m + 1) = m + 1 := w64 (by omega) (by omega)
  have hw2 : wrap64 (m + 1 + 1) = m + 2 := by rw [w64 (by omega) (by omega)]; omega
  have hw3 : wrap64 (m + 2 + 1) = m + 3 := by rw [w64 (by omega) (by omega)]; omega
  have hw4 : wrap64 (m + 3 + 1) = m + 4 := by rw [w64 (by omega) (by omega)]; omega
  have hw5 : wrap64 (m + 4 + 1) = m + 5 := by rw [w64 (by omega) (by omega)]; omega
  have hw6 : wrap64 (m + 5 + 2 * (x.f5.length : Int) + 1) = m + 6 + 2 * (x.f5.length : Int) := by rw [w64 (by omega) (by omega)]; omega
  have hw7 : wrap64 (m + 6 + 2 * (x.f5.length : Int) + 1) = m + 7 + 2 * (x.f5.length : Int) := by rw [w64 (by omega) (by omega)]; omega
  have hr := ih (p ++ [⟨m, m + 1, m + 2, m + 3, m + 4, markN x.f5 (m + 5), m + 5 + 2 * (x.f5.length : Int), Int.tmod (m + 6 + 2 * (x.f5.length : Int)) 3 == 0⟩]) (m + 7 + 2 * (x.f5.length : Int)) (i + 1) (by simp [hp]) (by omega) h1 (by omega)
  apply ev_succ
  simp only [laws_markRecordS.l0, hrd, hw1, hw2, hw3, hw4, hw5]
  refine ev_pos (by simp; omega) (ev_pos (by omega) (Ev.bind (laws_markNearS_ev x.f5 (m + 5) (by omega) (by omega)) ?_))
  simp only [hw6, hw7]
  rw [w64 (x := (i : Int) + 1) (by omega) (by omega), Int.toNat_natCast, set_mid _ _ _ _ i hp]
  simp only [List.append_assoc, List.cons_append, List.nil_append] at hr
  exact ev_to hr rfl
theorem laws_markRecordS_ev (l : List S24) (m : Int) (hs : Small l) (h0 : 0 ≤ m) (h1 : m ≤ 1000000000000000) :
  Ev (fun k => laws_markRecordS.f k l m) (endR l m, markR l m) := laws_markRecordS_l0 l [] m 0 rfl h0 (by have := hs.end h1; omega) (by have := hs.1; omega)
theorem laws_heldRecordS_l0 (xs : List S24) : ∀ (p : List S24) (m : Int) (i : Nat), p.length = i → 0 ≤ m → endR xs m ≤ 4611686018427387000 → (i : Int) + xs.length ≤ 4611686018427387904 →
  Ev (fun k => laws_heldRecordS.l0 k (p ++ markR xs m) m i) (endR xs m) := by
 induction xs with
 | nil =>
  intro p m i hp h0 h1 h2
  apply ev_succ
  simp only [laws_heldRecordS.l0]
  exact ev_neg (by simp [markR]; omega) (ev_some (by simp [endR]))
 | cons x xs ih =>
  intro p m i hp h0 h1 h2
  simp only [List.length_cons, endR] at h1 h2
  have hg := endR_ge xs (m + 7 + 2 * (x.f5.length : Int))
  have hw1 : wrap64 (m + 1) = m + 1 := w64 (by omega) (by omega)
  have hw2 : wrap64 (m + 1 + 1) = m + 2 := by rw [w64 (by omega) (by omega)]; omega
  have hw3 : wrap64 (m + 2 + 1) = m + 3 := by rw [w64 (by omega) (by omega)]; omega
  have hw4 : wrap64 (m + 3 + 1) = m + 4 := by rw [w64 (by omega) (by omega)]; omega
  have hw5 : wrap64 (m + 4 + 1) = m + 5 := by rw [w64 (by omega) (by omega)]; omega
  have hw6 : wrap64 (m + 5 + 2 * (x.f5.length : Int) + 1) = m + 6 + 2 * (x.f5.length : Int) := by rw [w64 (by omega) (by omega)]; omega
  have hw7 : wrap64 (m + 6 + 2 * (x.f5.length : Int) + 1) = m + 7 + 2 * (x.f5.length : Int) := by rw [w64 (by omega) (by omega)]; omega
  have hr := ih (p ++ [⟨m, m + 1, m + 2, m + 3, m + 4, markN x.f5 (m + 5), m + 5 + 2 * (x.f5.length : Int), Int.tmod (m + 6 + 2 * (x.f5.length : Int)) 3 == 0⟩]) (m + 7 + 2 * (x.f5.length : Int)) (i + 1) (by simp [hp]) (by omega) h1 (by omega)
  have hrd : rd_T24 (p ++ (⟨m, m + 1, m + 2, m + 3, m + 4, markN x.f5 (m + 5), m + 5 + 2 * (x.f5.length : Int), Int.tmod (m + 6 + 2 * (x.f5.length : Int)) 3 == 0⟩ : S24) :: markR xs (m + 7 + 2 * (x.f5.length : Int))) (i : Int) = ⟨m, m + 1, m + 2, m + 3, m + 4, markN x.f5 (m + 5), m + 5 + 2 * (x.f5.length : Int), Int.tmod (m + 6 + 2 * (x.f5.length : Int)) 3 == 0⟩ := rd_mid p _ _ _ i hp
  apply ev_succ
  simp only [laws_heldRecordS.l0, markR, hrd, hw1, hw2, hw3, hw4, hw5]
  refine ev_pos (by simp; omega) (ev_pos (by omega) (ev_pos (by trivial) (ev_pos (by trivial) (ev_pos (by trivial) (ev_pos (by trivial) (ev_pos (by trivial) (Ev.bind (laws_heldNearS_ev x.f5 (m + 5) (by omega) (by omega)) ?_)))))))
  simp only [hw6, hw7]
  rw [w64 (x := (i : Int) + 1) (by omega) (by omega)]
  simp only [List.append_assoc, List.cons_append, List.nil_append] at hr
  exact ev_neg (by omega) (ev_pos (by trivial) (ev_neg (by simp) (ev_to hr rfl)))
theorem laws_heldRecordS_ev (l : List S24) (m : Int) (hs : Small l) (h0 : 0 ≤ m) (h1 : m ≤ 1000000000000000) :
  Ev (fun k => laws_heldRecordS.f k (markR l m) m) (endR l m) := laws_heldRecordS_l0 l [] m 0 rfl h0 (by have := hs.end h1; omega) (by have := hs.1; omega)

theorem spec_l04Copy_eq (x : S24) (h : x.f5.length ≤ 1048576) : spec_l04Copy.f x.f0 x.f1 x.f2 x.f3 x.f4 x.f5 x.f6 x.f7 = some (x.f0, x.f1, x.f2, x.f3, x.f4, x.f5, x.f6, x.f7) := by
 unfold spec_l04Copy.f
 simp only [Option.bind_some]
 rw [if_pos (by simp; omega)]
 simp

def headR (x : S24) : S24 := ⟨x.f0, x.f1, x.f2, x.f3, x.f4, [], if x.f1 = 3 then 1 else 0, false⟩
theorem impl_header_eq (x : S24) : impl_header.f x.f0 x.f1 x.f2 x.f3 x.f4 x.f5 x.f6 x.f7 = some ((headR x).f0, (headR x).f1, (headR x).f2, (headR x).f3, (headR x).f4, (headR x).f5, (headR x).f6, (headR x).f7) := by
 unfold impl_header.f headR
 split <;> simp
theorem spec_l09Head_eq (x : S24) : spec_l09Head.f x.f0 x.f1 x.f2 x.f3 x.f4 x.f5 x.f6 x.f7 = some ((headR x).f0, (headR x).f1, (headR x).f2, (headR x).f3, (headR x).f4, (headR x).f5, (headR x).f6, (headR x).f7) := by
 unfold spec_l09Head.f headR
 simp only [Option.bind_some]
 split <;> simp
theorem spec_SameKey_eq (a b : S24) : spec_SameKey.f a.f0 a.f1 a.f2 a.f3 a.f4 a.f5 a.f6 a.f7 b.f0 b.f1 b.f2 b.f3 b.f4 b.f5 b.f6 b.f7 = some (sameKey a b) := by
 unfold spec_SameKey.f sameKey
 by_cases h0 : a.f0 = b.f0
 ·by_cases h1 : a.f1 = b.f1
  ·by_cases h2 : a.f2 = b.f2
   ·rw [if_pos h0, if_pos h1, if_pos h2]
    congr 1
    rw [Bool.eq_iff_iff]
    simp [h0, h1, h2]
   ·rw [if_pos h0, if_pos h1, if_neg h2, decide_eq_false (by omega)]
  ·rw [if_pos h0, if_neg h1, decide_eq_false (by omega)]
 ·rw [if_neg h0, decide_eq_false (by omega)]

theorem impl_SameKey_eq (a b : S24) : impl_SameKey.f a.f0 a.f1 a.f2 a.f3 a.f4 a.f5 a.f6 a.f7 b.f0 b.f1 b.f2 b.f3 b.f4 b.f5 b.f6 b.f7 = some (sameKey a b) := by
 unfold impl_SameKey.f sameKey
 by_cases h0 : a.f0 = b.f0
 ·by_cases h1 : a.f1 = b.f1
  ·by_cases h2 : a.f2 = b.f2
   ·rw [if_pos h0, if_pos h1, if_pos h2]
    congr 1
    rw [Bool.eq_iff_iff]
    simp [h0, h1, h2]
   ·rw [if_pos h0, if_pos h1, if_neg h2, decide_eq_false (by omega)]
  ·rw [if_pos h0, if_neg h1, decide_eq_false (by omega)]
 ·rw [if_neg h0, decide_eq_false (by omega)]

theorem sameBody_l0 (a0 a1 a2 a3 a4 a6 b0 b1 b2 b3 b4 b6 : Int) (a7 b7 : Bool) (l m : List S63) (hl : l.length ≤ 9223372036854775807) (hm : (m.length : Int) = l.length) (d : Nat) : ∀ i : Nat, i + d = l.length →
  ∃ r, Ev (fun k => spec_SameBody.l0 k i a0 a1 a2 a3 a4 l a6 a7 b0 b1 b2 b3 b4 m b6 b7) r ∧ Ev (fun k => impl_SameBody.l0 k (l.length : Int) i a0 a1 a2 a3 a4 l a6 a7 b0 b1 b2 b3 b4 m b6 b7) r := by
 induction d with
 | zero =>
  intro i hi
  refine ⟨true, ?_, ?_⟩
  ·apply ev_succ
   simp only [spec_SameBody.l0]
   exact ev_neg (by omega) (Ev.now _)
  ·apply ev_succ
   simp only [impl_SameBody.l0]
   exact ev_neg (by omega) (Ev.now _)
 | succ d ih =>
  intro i hi
  obtain ⟨r, h1, h2⟩ := ih (i + 1) (by omega)
  by_cases hc : (!(((rd_T63 l i).f0) == ((rd_T63 m i).f0)) || (!(((rd_T63 l i).f1) == ((rd_T63 m i).f1)))) = true
  ·refine ⟨false, ?_, ?_⟩
   ·apply ev_succ
    simp only [spec_SameBody.l0]
    exact ev_pos (by omega) (ev_pos (by omega) (ev_pos (by omega) (ev_pos hc (Ev.now _))))
   ·apply ev_succ
    simp only [impl_SameBody.l0]
    exact ev_pos (by omega) (ev_pos (by omega) (ev_pos (by omega) (ev_pos (by omega) (ev_pos hc (Ev.now _)))))
  ·refine ⟨r, ?_, ?_⟩
   ·apply ev_succ
    simp only [spec_SameBody.l0]
    rw [w64 (by omega) (by omega)]
    exact ev_pos (by omega) (ev_pos (by omega) (ev_pos (by omega) (ev_neg hc h1)))
   ·apply ev_succ
    simp only [impl_SameBody.l0]
    rw [w64 (by omega) (by omega)]
    exact ev_pos (by omega) (ev_pos (by omega) (ev_pos (by omega) (ev_pos (by omega) (ev_neg hc h2))))
theorem sameBody_j0 (x : Bool) (a b : S24) (hl : a.f5.length ≤ 9223372036854775807) (hm : x = false → (b.f5.length : Int) = a.f5.length) :
  ∃ r, Ev (fun k => spec_SameBody.j0 k x a.f0 a.f1 a.f2 a.f3 a.f4 a.f5 a.f6 a.f7 b.f0 b.f1 b.f2 b.f3 b.f4 b.f5 b.f6 b.f7) r ∧ Ev (fun k => impl_SameBody.j0 k x a.f0 a.f1 a.f2 a.f3 a.f4 a.f5 a.f6 a.f7 b.f0 b.f1 b.f2 b.f3 b.f4 b.f5 b.f6 b.f7) r ∧ (x = true → r = false) := by
 by_cases hx : x = true
 ·refine ⟨false, ?_, ?_, fun _ => rfl⟩
  ·apply ev_succ
   simp only [spec_SameBody.j0]
   exact ev_pos hx (Ev.now _)
  ·apply ev_succ
   simp only [impl_SameBody.j0]
   exact ev_pos hx (Ev.now _)
 ·obtain ⟨r, h1, h2⟩ := sameBody_l0 a.f0 a.f1 a.f2 a.f3 a.f4 a.f6 b.f0 b.f1 b.f2 b.f3 b.f4 b.f6 a.f7 b.f7 a.f5 b.f5 hl (hm (by simpa using hx)) a.f5.length 0 (by omega)
  refine ⟨r, ?_, ?_, fun h => absurd h hx⟩
  ·apply ev_succ
   simp only [spec_SameBody.j0]
   exact ev_neg hx h1
  ·apply ev_succ
   simp only [impl_SameBody.j0]
   exact ev_neg hx h2
theorem sameBody_ev (a b : S24) (hl : a.f5.length ≤ 9223372036854775807) :
  ∃ r, Ev (fun k => spec_SameBody.f k a.f0 a.f1 a.f2 a.f3 a.f4 a.f5 a.f6 a.f7 b.f0 b.f1 b.f2 b.f3 b.f4 b.f5 b.f6 b.f7) r ∧ Ev (fun k => impl_SameBody.f k a.f0 a.f1 a.f2 a.f3 a.f4 a.f5 a.f6 a.f7 b.f0 b.f1 b.f2 b.f3 b.f4 b.f5 b.f6 b.f7) r ∧ (r = true → sameKey a b = true) := by
 unfold spec_SameBody.f impl_SameBody.f
 rw [spec_SameKey_eq, impl_SameKey_eq]
 simp only [Option.bind_some]
 obtain ⟨r, h1, h2, h3⟩ := sameBody_j0 true a b hl (fun h => by cases h)
 by_cases hk : sameKey a b = true
 ·by_cases hc : a.f6 = b.f6
  ·by_cases hf : (a.f7 != b.f7) = true
   ·exact ⟨r, ev_pos hk (ev_pos hc (ev_pos hf h1)), ev_pos hk (ev_pos hc (ev_pos hf h2)), fun _ => hk⟩
   ·obtain ⟨r', h1', h2', h3'⟩ := sameBody_j0 ((a.f5.length : Int) != (b.f5.length : Int)) a b hl (fun h => by simp at h; omega)
    exact ⟨r', ev_pos hk (ev_pos hc (ev_neg hf h1')), ev_pos hk (ev_pos hc (ev_neg hf h2')), fun _ => hk⟩
  ·exact ⟨r, ev_pos hk (ev_neg hc h1), ev_pos hk (ev_neg hc h2), fun _ => hk⟩
 ·exact ⟨r, ev_neg hk h1, ev_neg hk h2, fun h => by rw [h3 rfl] at h; cases h⟩

def heardGo : Option Int → List Int → Bool
 | _, [] => true
 | p, x :: xs => decide (1 ≤ x ∧ x ≤ 6) && p.all (fun y => decide (y < x)) && heardGo (some x) xs
def heardB (l : List Int) : Bool := heardGo none l
def pvH (l : List Int) (i : Nat) : Option Int := if i = 0 then none else some (l.getD (i - 1) 0)
theorem pvH_succ (l : List Int) (i : Nat) : pvH l (i + 1) = some (l.getD i 0) := by simp [pvH]
theorem rdH (l : List Int) (i : Nat) : rd l (i : Int) = l.getD i 0 := rfl
theorem rdHp (l : List Int) (i : Nat) (h : 0 < i) (hl : i < 9223372036854775807) : rd l (wrap64 ((i : Int) - 1)) = l.getD (i - 1) 0 := by
 rw [w64 (by omega) (by omega), show (i : Int) - 1 = ((i - 1 : Nat) : Int) by omega]
 rfl
noncomputable def hsumB (x : S24) : Bool := (sameBody_ev (headR x) x (Nat.zero_le _)).choose
theorem hsumB_ev (x : S24) : Ev (fun k => spec_SameBody.f k (headR x).f0 (headR x).f1 (headR x).f2 (headR x).f3 (headR x).f4 (headR x).f5 (headR x).f6 (headR x).f7 x.f0 x.f1 x.f2 x.f3 x.f4 x.f5 x.f6 x.f7) (hsumB x) ∧ Ev (fun k => impl_SameBody.f k (headR x).f0 (headR x).f1 (headR x).f2 (headR x).f3 (headR x).f4 (headR x).f5 (headR x).f6 (headR x).f7 x.f0 x.f1 x.f2 x.f3 x.f4 x.f5 x.f6 x.f7) (hsumB x) ∧ (hsumB x = true → sameKey (headR x) x = true) := (sameBody_ev (headR x) x (Nat.zero_le _)).choose_spec
def areaB (ar : Int) (x : S24) : Bool := decide (x.f0 = ar) || decide (x.f0 = 9)
noncomputable def okB (kd ar : Int) (x : S24) : Bool := areaB ar x && (!decide (kd = 2) || hsumB x)
noncomputable def coreB (kd ar : Int) (hd : List Int) (l : List S24) : Bool :=
 if kd = 1 then heardB hd && decide (l.length = 0) else decide (hd.length = 0) && (storeB l && l.all (okB kd ar))
noncomputable def packB (kd fr tn ar : Int) (hd : List Int) (l : List S24) : Bool :=
 decide (1 ≤ kd ∧ kd ≤ 3) && (decide (1 ≤ fr ∧ fr ≤ 6) && (decide (1 ≤ tn ∧ tn ≤ 6) && (!decide (fr = tn) && (decide (0 ≤ ar ∧ ar ≤ 2) && coreB kd ar hd l))))
theorem all_both {α : Type} (p q : α → Bool) (l : List α) : (l.all fun x => p x && q x) = (l.all p && l.all q) := by
 induction l with
 | nil => rfl
 | cons x xs ih =>
  simp only [List.all_cons, ih]
  cases p x <;> cases q x <;> cases xs.all p <;> rfl
theorem spec_PacketOk_l1_ev (kd fr tn ar : Int) (hd : List Int) (l : List S24) (hs : Small l) (d : Nat) : ∀ i : Nat, i + d = l.length →
  Ev (fun k => spec_PacketOk.l1 k i kd fr tn ar hd l) ((l.drop i).all (okB kd ar)) := by
 have hl1 := hs.1
 induction d with
 | zero =>
  intro i hi
  rw [List.drop_eq_nil_of_le (by omega)]
  apply ev_succ
  simp only [spec_PacketOk.l1]
  exact ev_neg (by omega) (ev_some rfl)
 | succ d ih =>
  intro i hi
  have hr := ih (i + 1) (by omega)
  obtain ⟨x, hx⟩ : ∃ x, rd_T24 l (i : Int) = x := ⟨_, rfl⟩
  have hx2 : l.getD i z24 = x := hx
  have hm : x ∈ l := by rw [← hx2]; exact getD_mem l _ i (by omega)
  have hn := hs.2 x hm
  rw [drop_at l z24 i (by omega), hx2, List.all_cons]
  have h1 := (hsumB_ev x).1
  apply ev_succ
  simp only [spec_PacketOk.l1, hx, spec_l04Copy_eq x hn, spec_l09Head_eq x, Option.bind_some]
  rw [w64 (x := (i : Int) + 1) (by omega) (by omega)]
  refine ev_pos (by omega) (ev_pos (by omega) (ev_ite (fun h2 => ?_) (fun h2 => ev_ite (fun h3 => ?_) (fun h3 => ev_some ?_))))
  ·have ha : areaB ar x = true := by simp [areaB, h2]
   refine ev_ite (fun h4 => ?_) (fun h4 => ev_to hr (by simp [okB, ha, h4]))
   refine Ev.bind h1 (ev_ite (fun h5 => ev_to hr ?_) (fun h5 => ev_some ?_))
   ·rw [show okB kd ar x = true by rw [okB, ha, h5]; simp, Bool.true_and]
   ·rw [show okB kd ar x = false by rw [okB, ha, Bool.eq_false_iff.2 h5]; simp [h4], Bool.false_and]
  ·have ha : areaB ar x = true := by simp [areaB, h3]
   refine ev_ite (fun h4 => ?_) (fun h4 => ev_to hr (by simp [okB, ha, h4]))
   refine Ev.bind h1 (ev_ite (fun h5 => ev_to hr ?_) (fun h5 => ev_some ?_))
   ·rw [show okB kd ar x = true by rw [okB, ha, h5]; simp, Bool.true_and]
   ·rw [show okB kd ar x = false by rw [okB, ha, Bool.eq_false_iff.2 h5]; simp [h4], Bool.false_and]
  ·simp [okB, areaB, h2, h3]
theorem spec_PacketOk_j2_ev (kd fr tn ar : Int) (hd : List Int) (l : List S24) (hs : Small l) (b : Bool) :
  Ev (fun k => spec_PacketOk.j2 k b kd fr tn ar hd l) (!b && l.all (okB kd ar)) := by
 apply ev_succ
 simp only [spec_PacketOk.j2]
 refine ev_ite (fun h1 => ev_some (by simp [h1])) (fun h1 => ev_to (spec_PacketOk_l1_ev kd fr tn ar hd l hs l.length 0 (by omega)) ?_)
 rw [Bool.not_eq_true] at h1
 simp [h1]
theorem spec_PacketOk_l0_ev (kd fr tn ar : Int) (hd : List Int) (l : List S24) (hh : hd.length ≤ 9223372036854775000) (hs : Small l) (d : Nat) : ∀ i : Nat, i + d = hd.length →
  Ev (fun k => spec_PacketOk.l0 k i kd fr tn ar hd l) (heardGo (pvH hd i) (hd.drop i) && (if kd = 1 then decide (l.length = 0) else decide (hd.length = 0) && (storeB l && l.all (okB kd ar)))) := by
 induction d with
 | zero =>
  intro i hi
  rw [List.drop_eq_nil_of_le (by omega)]
  apply ev_succ
  simp only [spec_PacketOk.l0, heardGo, Bool.true_and]
  refine ev_neg (by omega) (ev_ite (fun h1 => ?_) (fun h1 => ?_))
  ·rw [if_pos h1]
   refine ev_ite (fun h2 => ev_to (spec_PacketOk_j2_ev kd fr tn ar hd l hs true) (by rw [decide_eq_false (show ¬ l.length = 0 by omega)]; rfl)) (fun h2 => ?_)
   have h3 : l = [] := List.length_eq_zero_iff.1 (by omega)
   subst h3
   refine Ev.bind (spec_StoreOk_ev [] hs.lens) (ev_to (spec_PacketOk_j2_ev kd fr tn ar hd [] hs _) ?_)
   simp [storeB, storeGo]
  ·rw [if_neg h1]
   refine ev_ite (fun h2 => ev_to (spec_PacketOk_j2_ev kd fr tn ar hd l hs true) ?_) (fun h2 => ?_)
   ·rw [decide_eq_false (show ¬ hd.length = 0 by omega)]
    rfl
   ·refine Ev.bind (spec_StoreOk_ev l hs.lens) (ev_to (spec_PacketOk_j2_ev kd fr tn ar hd l hs _) ?_)
    rw [decide_eq_true (show hd.length = 0 by omega), Bool.not_not, Bool.true_and]
 | succ d ih =>
  intro i hi
  have hr := ih (i + 1) (by omega)
  rw [pvH_succ] at hr
  rw [drop_at hd 0 i (by omega)]
  apply ev_succ
  simp only [spec_PacketOk.l0, rdH, spec_l01In_eq, Option.bind_some, heardGo]
  rw [w64 (x := (i : Int) + 1) (by omega) (by omega)]
  refine ev_pos (by omega) (ev_pos (by omega) (ev_ite (fun h1 => ?_) (fun h1 => ev_some (by rw [Bool.eq_false_iff.2 h1]; rfl))))
  rw [h1, Bool.true_and]
  refine ev_ite (fun h2 => ?_) (fun h2 => ?_)
  ·have h0 : 0 < i := by omega
   have hp : pvH hd i = some (hd.getD (i - 1) 0) := by unfold pvH; rw [if_neg (by omega)]
   rw [hp]
   simp only [rdHp hd i h0 (by omega), Option.all_some]
   refine ev_pos (by rw [w64 (by omega) (by omega)]; omega) (ev_pos (by rw [w64 (by omega) (by omega)]; omega) ?_)
   refine ev_ite (fun h3 => ev_some ?_) (fun h3 => ev_to hr ?_)
   ·rw [decide_eq_false (show ¬ hd.getD (i - 1) 0 < hd.getD i 0 by omega)]
    rfl
   ·rw [decide_eq_true (show hd.getD (i - 1) 0 < hd.getD i 0 by omega), Bool.true_and]
  ·have h0 : i = 0 := by omega
   have hp : pvH hd i = none := by rw [h0]; rfl
   rw [hp]
   exact ev_to hr rfl
theorem spec_PacketOk_j0_ev (kd fr tn ar : Int) (hd : List Int) (l : List S24) (hh : hd.length ≤ 9223372036854775000) (hs : Small l) (b : Bool) :
  Ev (fun k => spec_PacketOk.j0 k b kd fr tn ar hd l) (!b && coreB kd ar hd l) := by
 apply ev_succ
 simp only [spec_PacketOk.j0]
 refine ev_ite (fun h1 => ev_some (by simp [h1])) (fun h1 => ev_to (spec_PacketOk_l0_ev kd fr tn ar hd l hh hs hd.length 0 (by omega)) ?_)
 rw [Bool.not_eq_true] at h1
 rw [h1, Bool.not_false, Bool.true_and, coreB]
 show (heardB hd && _) = _
 by_cases h2 : kd = 1
 ·rw [if_pos h2, if_pos h2]
 ·rw [if_neg h2, if_neg h2]
  by_cases h3 : hd.length = 0
  ·have h4 : hd = [] := List.length_eq_zero_iff.1 h3
   subst h4
   simp [heardB, heardGo]
  ·rw [decide_eq_false h3]
   simp
theorem spec_PacketOk_ev (kd fr tn ar : Int) (hd : List Int) (l : List S24) (hh : hd.length ≤ 9223372036854775000) (hs : Small l) :
  Ev (fun k => spec_PacketOk.f k kd fr tn ar hd l) (packB kd fr tn ar hd l) := by
 have J := spec_PacketOk_j0_ev kd fr tn ar hd l hh hs
 unfold spec_PacketOk.f packB
 simp only [spec_l01In_eq, Option.bind_some]
 refine ev_ite (fun h1 => ?_) (fun h1 => ev_to (J true) (by rw [Bool.eq_false_iff.2 h1]; rfl))
 rw [h1, Bool.true_and]
 refine ev_ite (fun h1 => ?_) (fun h1 => ev_to (J true) (by rw [Bool.eq_false_iff.2 h1]; rfl))
 rw [h1, Bool.true_and]
 refine ev_ite (fun h1 => ?_) (fun h1 => ev_to (J true) (by rw [Bool.eq_false_iff.2 h1]; rfl))
 rw [h1, Bool.true_and]
 refine ev_ite (fun h1 => ev_to (J true) (by rw [decide_eq_true h1]; rfl)) (fun h1 => ev_to (J _) ?_)
 rw [decide_eq_false h1, Bool.not_not, Bool.not_false, Bool.true_and]
theorem impl_heardUp_l0_ev (l : List Int) (hh : l.length ≤ 9223372036854775000) (d : Nat) : ∀ i : Nat, i + d = l.length →
  Ev (fun k => impl_heardUp.l0 k l l (l.length : Int) i) (heardGo (pvH l i) (l.drop i)) := by
 induction d with
 | zero =>
  intro i hi
  rw [List.drop_eq_nil_of_le (by omega)]
  apply ev_succ
  simp only [impl_heardUp.l0]
  exact ev_neg (by omega) (ev_some rfl)
 | succ d ih =>
  intro i hi
  have hr := ih (i + 1) (by omega)
  rw [pvH_succ] at hr
  rw [drop_at l 0 i (by omega)]
  apply ev_succ
  simp only [impl_heardUp.l0, rdH, impl_in_eq, Option.bind_some, heardGo]
  rw [w64 (x := (i : Int) + 1) (by omega) (by omega)]
  refine ev_pos (by omega) (ev_pos (by omega) (ev_pos (by omega) (ev_ite (fun h1 => ?_) (fun h1 => ev_some (by rw [Bool.eq_false_iff.2 h1]; rfl)))))
  rw [h1, Bool.true_and]
  refine ev_ite (fun h2 => ?_) (fun h2 => ?_)
  ·have h0 : 0 < i := by omega
   have hp : pvH l i = some (l.getD (i - 1) 0) := by unfold pvH; rw [if_neg (by omega)]
   rw [hp]
   simp only [rdHp l i h0 (by omega), Option.all_some]
   refine ev_pos (by rw [w64 (by omega) (by omega)]; omega) (ev_pos (by rw [w64 (by omega) (by omega)]; omega) ?_)
   refine ev_ite (fun h3 => ev_some ?_) (fun h3 => ev_to hr ?_)
   ·rw [decide_eq_false (show ¬ l.getD (i - 1) 0 < l.getD i 0 by omega)]
    rfl
   ·rw [decide_eq_true (show l.getD (i - 1) 0 < l.getD i 0 by omega), Bool.true_and]
  ·have h0 : i = 0 := by omega
   have hp : pvH l i = none := by rw [h0]; rfl
   rw [hp]
   exact ev_to hr rfl
theorem impl_heardUp_ev (l : List Int) (hh : l.length ≤ 9223372036854775000) : Ev (fun k => impl_heardUp.f k l) (heardB l) := impl_heardUp_l0_ev l hh l.length 0 (by omega)
theorem impl_sumsOk_l0_ev (l : List S24) (hs : Small l) (d : Nat) : ∀ i : Nat, i + d = l.length →
  Ev (fun k => impl_sumsOk.l0 k l (l.length : Int) i) ((l.drop i).all hsumB) := by
 have hl1 := hs.1
 induction d with
 | zero =>
  intro i hi
  rw [List.drop_eq_nil_of_le (by omega)]
  apply ev_succ
  simp only [impl_sumsOk.l0]
  exact ev_neg (by omega) (ev_some rfl)
 | succ d ih =>
  intro i hi
  have hr := ih (i + 1) (by omega)
  obtain ⟨x, hx⟩ : ∃ x, rd_T24 l (i : Int) = x := ⟨_, rfl⟩
  have hx2 : l.getD i z24 = x := hx
  rw [drop_at l z24 i (by omega), hx2, List.all_cons]
  have h1 := (hsumB_ev x).2.1
  apply ev_succ
  simp only [impl_sumsOk.l0, hx, impl_header_eq x, Option.bind_some]
  rw [w64 (x := (i : Int) + 1) (by omega) (by omega)]
  refine ev_pos (by omega) (ev_pos (by omega) (ev_pos (by omega) (Ev.bind h1 (ev_ite (fun h5 => ev_to hr ?_) (fun h5 => ev_some ?_)))))
  ·rw [show hsumB x = true from h5, Bool.true_and]
  ·rw [show hsumB x = false from Bool.eq_false_iff.2 h5, Bool.false_and]
theorem impl_PacketOk_l0_ev (kd fr tn ar : Int) (hd : List Int) (l : List S24) (hs : Small l) (d : Nat) : ∀ i : Nat, i + d = l.length →
  Ev (fun k => impl_PacketOk.l0 k l (l.length : Int) i kd fr tn ar hd l) ((l.drop i).all (areaB ar) && (decide (hd.length = 0) && (storeB l && (decide (kd = 3) || l.all hsumB)))) := by
 have hl1 := hs.1
 induction d with
 | zero =>
  intro i hi
  rw [List.drop_eq_nil_of_le (by omega)]
  apply ev_succ
  simp only [impl_PacketOk.l0, List.all_nil, Bool.true_and]
  refine ev_neg (by omega) (ev_ite (fun h1 => ?_) (fun h1 => ev_some ?_))
  ·rw [decide_eq_true (show hd.length = 0 by omega), Bool.true_and]
   refine Ev.bind (impl_StoreOk_ev l hs.lens) (ev_ite (fun h2 => ?_) (fun h2 => ev_some (by rw [Bool.eq_false_iff.2 h2]; rfl)))
   rw [h2, Bool.true_and]
   refine ev_ite (fun h3 => ev_some (by rw [decide_eq_true h3]; rfl)) (fun h3 => ?_)
   rw [decide_eq_false h3, Bool.false_or]
   exact Ev.bind (impl_sumsOk_l0_ev l hs l.length 0 (by omega)) (Ev.now _)
  ·rw [decide_eq_false (show ¬ hd.length = 0 by omega)]
   rfl
 | succ d ih =>
  intro i hi
  have hr := ih (i + 1) (by omega)
  obtain ⟨x, hx⟩ : ∃ x, rd_T24 l (i : Int) = x := ⟨_, rfl⟩
  have hx2 : l.getD i z24 = x := hx
  rw [drop_at l z24 i (by omega), hx2, List.all_cons]
  apply ev_succ
  simp only [impl_PacketOk.l0, hx]
  rw [w64 (x := (i : Int) + 1) (by omega) (by omega)]
  refine ev_pos (by omega) (ev_pos (by omega) (ev_pos (by omega) (ev_ite (fun h2 => ev_to hr ?_) (fun h2 => ev_ite (fun h3 => ev_to hr ?_) (fun h3 => ev_some ?_)))))
  ·simp [areaB, h2]
  ·simp [areaB, h3]
  ·simp [areaB, h2, h3]
theorem impl_PacketOk_j0_ev (kd fr tn ar : Int) (hd : List Int) (l : List S24) (hh : hd.length ≤ 9223372036854775000) (hs : Small l) (hk : 1 ≤ kd ∧ kd ≤ 3) (b : Bool) :
  Ev (fun k => impl_PacketOk.j0 k b kd fr tn ar hd l) (!b && coreB kd ar hd l) := by
 apply ev_succ
 simp only [impl_PacketOk.j0]
 refine ev_ite (fun h1 => ev_some (by simp [h1])) (fun h1 => ?_)
 rw [Bool.not_eq_true] at h1
 rw [h1, Bool.not_false, Bool.true_and, coreB]
 refine ev_ite (fun h2 => ?_) (fun h2 => ?_)
 ·rw [if_pos h2]
  refine Ev.bind (impl_heardUp_ev hd hh) (ev_ite (fun h3 => ev_some ?_) (fun h3 => ev_some (by rw [Bool.eq_false_iff.2 h3]; rfl)))
  rw [h3, Bool.true_and, Bool.eq_iff_iff, beq_iff_eq, decide_eq_true_eq]
  omega
 ·rw [if_neg h2]
  refine ev_to (impl_PacketOk_l0_ev kd fr tn ar hd l hs l.length 0 (by omega)) ?_
  rw [List.drop_zero]
  have e : l.all (okB kd ar) = (l.all (areaB ar) && (decide (kd = 3) || l.all hsumB)) := by
   by_cases h3 : kd = 3
   ·rw [decide_eq_true h3, Bool.true_or, Bool.and_true]
    congr 1
    funext x
    simp [okB, h3]
   ·have h4 : kd = 2 := by omega
    rw [decide_eq_false h3, Bool.false_or, ← all_both]
    congr 1
    funext x
    simp [okB, h4]
  rw [e]
  cases l.all (areaB ar) <;> cases decide (hd.length = 0) <;> cases storeB l <;> rfl
theorem impl_PacketOk_ev (kd fr tn ar : Int) (hd : List Int) (l : List S24) (hh : hd.length ≤ 9223372036854775000) (hs : Small l) :
  Ev (fun k => impl_PacketOk.f k kd fr tn ar hd l) (packB kd fr tn ar hd l) := by
 have J0 : Ev (fun k => impl_PacketOk.j0 k true kd fr tn ar hd l) false := ev_succ (by simp only [impl_PacketOk.j0]; exact ev_pos trivial (Ev.now _))
 unfold impl_PacketOk.f packB
 simp only [impl_in_eq, Option.bind_some]
 refine ev_ite (fun h1 => ?_) (fun h1 => ev_to J0 (by rw [Bool.eq_false_iff.2 h1]; rfl))
 have J := impl_PacketOk_j0_ev kd fr tn ar hd l hh hs (of_decide_eq_true h1)
 rw [h1, Bool.true_and]
 refine ev_ite (fun h1 => ?_) (fun h1 => ev_to J0 (by rw [Bool.eq_false_iff.2 h1]; rfl))
 rw [h1, Bool.true_and]
 refine ev_ite (fun h1 => ?_) (fun h1 => ev_to J0 (by rw [Bool.eq_false_iff.2 h1]; rfl))
 rw [h1, Bool.true_and]
 refine ev_ite (fun h1 => ev_to J0 (by rw [decide_eq_true h1]; rfl)) (fun h1 => ev_to (J _) ?_)
 rw [decide_eq_false h1, Bool.not_not, Bool.not_false, Bool.true_and]

/-- A number in bytes, of seven bits each. -/
def varL : Nat → Int → List Int
 | 0, n => [n % 256]
 | d + 1, n => if n > 127 then (n % 128 + 128) :: varL d (n / 128) else [n % 256]
theorem varL_byt (d : Nat) : ∀ n, Byt (varL d n) := by
 induction d with
 | zero => intro n x hx; rw [varL, List.mem_singleton] at hx; omega
 | succ d ih =>
  intro n x hx
  rw [varL] at hx
  split at hx
  ·rcases List.mem_cons.1 hx with rfl | hx
   ·omega
   ·exact ih _ x hx
  ·rw [List.mem_singleton] at hx; omega
theorem varL_len (d : Nat) : ∀ n, 0 < (varL d n).length ∧ (varL d n).length ≤ d + 1 := by
 induction d with
 | zero => intro n; simp [varL]
 | succ d ih =>
  intro n
  rw [varL]
  split
  ·have := ih (n / 128); simp only [List.length_cons]; omega
  ·simp
def varN (n : Int) : List Int := varL 9 n
theorem varN_byt (n : Int) : Byt (varN n) := varL_byt 9 n
theorem varN_len (n : Int) : 0 < (varN n).length ∧ (varN n).length ≤ 10 := varL_len 9 n

theorem str_app (xs ys : List Int) : strOfNums xs ++ strOfNums ys = strOfNums (xs ++ ys) := by
 apply Go.WideShapes.bytes_inj
 simp [strOfNums, ByteArray.data_append]
theorem nearGo_all (ow : Int) (l : List S63) : ∀ p, nearGo ow p l = true → ∀ x ∈ l, 1 ≤ x.f0 ∧ x.f0 ≤ 6 ∧ 1 ≤ x.f1 ∧ x.f1 ≤ 1000 := by
 induction l with
 | nil => intro p _ x hx; simp at hx
 | cons y l ih =>
  intro p h x hx
  rw [nearGo] at h
  simp only [Bool.and_eq_true, decide_eq_true_eq] at h
  rcases List.mem_cons.1 hx with rfl | hx
  ·omega
  ·exact ih _ h.2 x hx
theorem recB_facts {ar ki ow ke se : Int} {l : List S63} {co : Int} {fa : Bool} (h : recB ar ki ow ke se l co fa = true) :
  1 ≤ ow ∧ ow ≤ 6 ∧ 1 ≤ se ∧ se ≤ 100000 ∧ 0 ≤ ar ∧ ar ≤ 9 ∧ 1 ≤ ki ∧ ki ≤ 3 ∧ 0 ≤ ke ∧ ke ≤ 9 ∧ 0 ≤ co ∧ co ≤ 60000 ∧ (nearB ow l = true ∨ l = []) := by
 unfold recB recK at h
 simp only [Bool.and_eq_true, decide_eq_true_eq] at h
 obtain ⟨⟨h1, h2⟩, h3⟩ := h
 split at h3
 ·simp only [Bool.and_eq_true, decide_eq_true_eq] at h3
  exact ⟨by omega, by omega, by omega, by omega, by omega, by omega, by omega, by omega, by omega, by omega, by omega, by omega, .inl h3.1.1.2⟩
 ·split at h3
  ·simp only [Bool.and_eq_true, decide_eq_true_eq] at h3
   exact ⟨by omega, by omega, by omega, by omega, by omega, by omega, by omega, by omega, by omega, by omega, by omega, by omega, .inr (List.eq_nil_of_length_eq_zero h3.1.1.2)⟩
  ·split at h3
   ·simp only [Bool.and_eq_true, Bool.or_eq_true, decide_eq_true_eq, beq_iff_eq] at h3
    exact ⟨by omega, by omega, by omega, by omega, by omega, by omega, by omega, by omega, by omega, by omega, by omega, by omega, .inr (List.eq_nil_of_length_eq_zero h3.1.2)⟩
   ·cases h3
theorem recB_near {ar ki ow ke se : Int} {l : List S63} {co : Int} {fa : Bool} (h : recB ar ki ow ke se l co fa = true) : ∀ x ∈ l, 1 ≤ x.f0 ∧ x.f0 ≤ 6 ∧ 1 ≤ x.f1 ∧ x.f1 ≤ 1000 := by
 obtain ⟨_, _, _, _, _, _, _, _, _, _, _, _, h⟩ := recB_facts h
 rcases h with h | rfl
 ·exact nearGo_all _ _ _ h
 ·intro x hx; simp at hx
def nearT : List S63 → List Int
 | [] => []
 | x :: xs => (x.f0 % 256) :: (varN x.f1 ++ nearT xs)
def farT (b : Bool) : List Int := [if b = true then 1 else 0]
/-- A record in bytes. -/
def recT (ar ki ow ke se : Int) (l : List S63) (co : Int) (fa : Bool) : List Int :=
 [ar % 256, ki % 256, ow % 256, ke % 256] ++ varN se ++ varN (l.length : Int) ++ nearT l ++ varN co ++ farT fa

def U32 (x : Int) : Prop := 0 ≤ x ∧ x < 4294967296
theorem u32_bits (o : BinOp) (x y : Int) : U32 (Go.bits o .u32 x y) := by
 unfold Go.bits
 simp only [Go.IntKind.wrap_u32]
 unfold U32
 omega
theorem u32_and1 {x : Int} (h : U32 x) : Go.bits .and .u32 x 1 = x % 2 :=
 Go.bits_mask .u32 32 (by decide) (fun n h0 h1 => by rw [Go.IntKind.wrap_u32]; omega) 1 (by decide) x h.1 h.2
/-- One bit of the sum. -/
def crc1 (x : Int) : Int := if x % 2 = 1 then Go.bits .xor .u32 (x / 2) 3558460437 else x / 2
theorem crc1_u32 {x : Int} (h : U32 x) : U32 (crc1 x) := by
 unfold crc1
 split
 ·exact u32_bits _ _ _
 ·unfold U32 at *; omega
def crcN : Nat → Int → Int
 | 0, x => x
 | n + 1, x => crcN n (crc1 x)
theorem crcN_u32 (n : Nat) : ∀ {x : Int}, U32 x → U32 (crcN n x) := by
 induction n with
 | zero => intro x h; exact h
 | succ n ih => intro x h; exact ih (crc1_u32 h)
/-- One byte of the sum. -/
def crcB (x b : Int) : Int := crcN 8 (Go.bits .xor .u32 x b)
theorem crcB_u32 (x b : Int) : U32 (crcB x b) := crcN_u32 8 (u32_bits _ _ _)
/-- The sum of bytes. -/
def crcS : List Int → Int → Int
 | [], x => x
 | b :: bs, x => crcS bs (crcB x b)
theorem B_drop (s : ByteArray) (i : Nat) (h : i < s.size) : (B s).drop i = bt s i :: (B s).drop (i + 1) := by
 have hl : i < (B s).length := by rw [B_len]; exact h
 rw [List.drop_eq_getElem_cons hl]
 have h1 := B_bt s i h
 rw [List.getElem?_eq_getElem hl] at h1
 rw [Option.some.inj h1]
theorem B_dropAll (s : ByteArray) (i : Nat) (h : s.size ≤ i) : (B s).drop i = [] := List.drop_eq_nil_of_le (by rw [B_len]; exact h)
theorem u32_mod {b : Int} (h : 0 ≤ b ∧ b < 256) : b % 4294967296 = b := by omega

def valL : List Int → Int
 | [] => 0
 | b :: bs => b % 128 + 128 * valL bs
theorem valL_bd (bs : List Int) : 0 ≤ valL bs ∧ valL bs < 128 ^ bs.length := by
 induction bs with
 | nil => simp [valL]
 | cons b bs ih =>
  simp only [valL, List.length_cons, Int.pow_succ]
  omega
theorem valL_snoc (bs : List Int) (b : Int) : valL (bs ++ [b]) = valL bs + b % 128 * 128 ^ bs.length := by
 induction bs with
 | nil => simp [valL]
 | cons c bs ih =>
  simp only [List.cons_append, valL, ih, List.length_cons, Int.pow_succ]
  generalize (128 : Int) ^ bs.length = p
  generalize b % 128 = q
  have e : q * (p * 128) = 128 * (q * p) := by rw [← Int.mul_assoc, Int.mul_comm]
  omega
theorem pw_bd (j : Nat) (h : j ≤ 5) : 1 ≤ (128 : Int) ^ j ∧ (128 : Int) ^ j ≤ 34359738368 := by
 have h' : ∀ n : Fin 6, 1 ≤ (128 : Int) ^ n.val ∧ (128 : Int) ^ n.val ≤ 34359738368 := by decide
 exact h' ⟨j, by omega⟩
/-- A number is told by its bytes alone, the last of them not 0 behind others. -/
theorem varL_val (pre : List Int) : ∀ (d : Nat) (b : Int), (∀ x ∈ pre, 128 ≤ x ∧ x < 256) → 0 ≤ b → b < 128 → pre.length ≤ d →
  (varL d (valL (pre ++ [b])) = pre ++ [b] ↔ ¬ (b = 0 ∧ pre ≠ [])) := by
 induction pre with
 | nil =>
  intro d b _ h0 h1 _
  have hb : b % 128 = b := by omega
  simp only [List.nil_append, valL, hb]
  constructor
  ·intro _ h; exact h.2 rfl
  ·intro _
   cases d with
   | zero => simp only [varL]; congr 1; omega
   | succ d => simp only [varL]; rw [if_neg (by omega)]; congr 1; omega
 | cons c pre ih =>
  intro d b hp h0 h1 hl
  obtain ⟨d, rfl⟩ : ∃ m, d = m + 1 := ⟨d - 1, by simp only [List.length_cons] at hl; omega⟩
  have hc := hp c List.mem_cons_self
  have hi := ih d b (fun x hx => hp x (List.mem_cons_of_mem _ hx)) h0 h1 (by simp only [List.length_cons] at hl; omega)
  have hv := valL_bd (pre ++ [b])
  simp only [List.cons_append, valL]
  generalize hq : valL (pre ++ [b]) = q at hi hv ⊢
  simp only [varL]
  by_cases hq0 : q = 0
  ·have hb0 : b = 0 := by
    rw [valL_snoc] at hq; have h2 := valL_bd pre
    have h3 : 0 < (128 : Int) ^ pre.length := Int.pow_pos (by decide)
    have h4 : 0 ≤ b % 128 * 128 ^ pre.length := Int.mul_nonneg (by omega) (Int.le_of_lt h3)
    have h5 : b % 128 * 128 ^ pre.length = 0 := by omega
    rcases Int.mul_eq_zero.1 h5 with h6 | h6
    ·omega
    ·omega
   rw [if_neg (by omega)]
   constructor
   ·intro h
    have := congrArg List.length h
    simp at this
   ·intro h
    exact absurd ⟨hb0, by simp⟩ h
  ·rw [if_pos (by omega), show (c % 128 + 128 * q) % 128 + 128 = c by omega, show (c % 128 + 128 * q) / 128 = q by omega, List.cons.injEq]
   constructor
   ·rintro ⟨_, h⟩ ⟨hb0, _⟩
    have h2 := hi.1 h
    by_cases hpn : pre = []
    ·subst hpn
     simp only [List.nil_append, valL, hb0] at hq
     omega
    ·exact h2 ⟨hb0, hpn⟩
   ·intro h
    exact ⟨rfl, hi.2 (fun h2 => h ⟨h2.1, by simp⟩)⟩
/-- Reading a number: what is read is n, the place i. -/
def rvM (a : Nat) : Nat → List Int → Int → Int → Nat → Int × Int × Bool
 | 0, _, _, _, _ => (0, 0, false)
 | _ + 1, [], _, _, _ => (0, 0, false)
 | f + 1, b :: bs, n, u, i => if b < 128 then (if (b = 0 ∧ a < i) ∨ n + b % 128 * u > 1000000000 then (0, 0, false) else (n + b % 128 * u, (i : Int) + 1, true)) else rvM a f bs (n + b % 128 * u) (u * 128) (i + 1)
def rvB (s : ByteArray) (a : Nat) : Int × Int × Bool := rvM a 5 ((B s).drop a) 0 1 a
/-- What was read till place i. -/
def preB (s : ByteArray) (a i : Nat) : List Int := ((B s).take i).drop a
theorem preB_nil (s : ByteArray) (a : Nat) : preB s a a = [] := List.drop_eq_nil_of_le (by rw [List.length_take]; omega)
theorem preB_len (s : ByteArray) (a i : Nat) (hi : i ≤ s.size) : (preB s a i).length = i - a := by
 simp only [preB, List.length_drop, List.length_take, B_len]; omega
theorem preB_snoc (s : ByteArray) (a i : Nat) (ha : a ≤ i) (hi : i < s.size) : preB s a (i + 1) = preB s a i ++ [bt s i] := by
 have hl : i < (B s).length := by rw [B_len]; exact hi
 have h1 := B_bt s i hi
 rw [List.getElem?_eq_getElem hl] at h1
 unfold preB
 rw [List.take_succ_eq_append_getElem hl, List.drop_append_of_le_length (by rw [List.length_take]; omega), Option.some.inj h1]

theorem rvM_ok (a : Nat) (f : Nat) : ∀ (L : List Int) (n u : Int) (i : Nat) (m j : Int), 0 ≤ n → 0 ≤ u → rvM a f L n u i = (m, j, true) → 0 ≤ m ∧ m ≤ 1000000000 ∧ (i : Int) < j ∧ j ≤ i + L.length := by
 induction f with
 | zero => intro L n u i m j _ _ h; simp [rvM] at h
 | succ f ih =>
  intro L n u i m j hn hu h
  cases L with
  | nil => simp [rvM] at h
  | cons b bs =>
   have hp : 0 ≤ b % 128 * u := Int.mul_nonneg (by omega) hu
   rw [rvM] at h
   by_cases hb : b < 128
   ·rw [if_pos hb] at h
    split at h
    ·simp at h
    ·rename_i hc
     simp only [Prod.mk.injEq, and_true] at h
     simp only [List.length_cons]
     omega
   ·rw [if_neg hb] at h
    have := ih bs (n + b % 128 * u) (u * 128) (i + 1) m j (by omega) (by omega) h
    simp only [List.length_cons]
    omega
theorem rvB_ok (s : ByteArray) (a : Nat) (ha : a ≤ s.size) {m j : Int} (h : rvB s a = (m, j, true)) : 0 ≤ m ∧ m ≤ 1000000000 ∧ (a : Int) < j ∧ j ≤ s.size := by
 have := rvM_ok a 5 _ 0 1 a m j (by omega) (by omega) h
 rw [List.length_drop, B_len] at this
 omega

/-- What a number was read from is its bytes. -/
theorem rvM_enc (a : Nat) : ∀ (f : Nat) (L : List Int) (n u : Int) (i : Nat) (m j : Int) (pre : List Int), Byt L → (∀ x ∈ pre, 128 ≤ x ∧ x < 256) → pre.length + f = 5 → i = a + pre.length → n = valL pre → u = 128 ^ pre.length → rvM a f L n u i = (m, j, true) →
  ∃ p rest, L = p ++ rest ∧ j = (i : Int) + p.length ∧ varN m = pre ++ p
 | 0, L, n, u, i, m, j, pre, _, _, _, _, _, _, h => by simp [rvM] at h
 | f + 1, [], n, u, i, m, j, pre, _, _, _, _, _, _, h => by simp [rvM] at h
 | f + 1, b :: bs, n, u, i, m, j, pre, hL, hp, hl, hi, hn, hu, h => by
  have hb := hL b List.mem_cons_self; rw [rvM] at h
  by_cases hb1 : b < 128
  ·rw [if_pos hb1] at h
   split at h
   ·simp at h
   ·rename_i hc
    simp only [Prod.mk.injEq, and_true] at h
    have hval : valL (pre ++ [b]) = n + b % 128 * u := by rw [valL_snoc, ← hn, ← hu]
    refine ⟨[b], bs, rfl, by rw [← h.2]; simp, ?_⟩
    rw [← h.1, ← hval]
    refine (varL_val pre 9 b hp (by omega) hb1 (by omega)).2 (fun h2 => hc (Or.inl ⟨h2.1, ?_⟩))
    have : 0 < pre.length := List.length_pos_iff.mpr h2.2
    omega
  ·rw [if_neg hb1] at h
   obtain ⟨p, rest, e1, e2, e3⟩ := rvM_enc a f bs _ _ (i + 1) m j (pre ++ [b]) (fun x hx => hL x (List.mem_cons_of_mem _ hx)) (by
    intro x hx
    rcases List.mem_append.1 hx with hx | hx
    ·exact hp x hx
    ·simp only [List.mem_singleton] at hx; omega) (by simp; omega) (by simp; omega) (by rw [valL_snoc, ← hn, ← hu]) (by rw [hu, List.length_append, List.length_singleton, Int.pow_succ]) h
   refine ⟨b :: p, rest, by rw [e1]; rfl, by rw [e2]; simp; omega, by rw [e3]; simp⟩
theorem rvB_enc (s : ByteArray) (a : Nat) (ha : a ≤ s.size) {m j : Int} (h : rvB s a = (m, j, true)) : (B s).take j.toNat = (B s).take a ++ varN m ∧ j = (a : Int) + (varN m).length := by
 obtain ⟨p, rest, e1, e2, e3⟩ := rvM_enc a 5 ((B s).drop a) 0 1 a m j [] (fun x hx => B_byt s x (List.mem_of_mem_drop hx)) (by intro x hx; cases hx) rfl rfl rfl rfl h
 rw [List.nil_append] at e3
 have hj : j.toNat = a + p.length := by omega
 refine ⟨?_, by rw [e3]; exact e2⟩
 rw [hj, List.take_add, e1, e3]
 simp

theorem spec_l01Var_l0_ev (d : Nat) : ∀ (n : Int) (acc : List Int), 0 ≤ n → n ≤ 9223372036854775807 → n < 128 ^ (d + 1) → acc.length + d < 1000 →
  Ev (fun k => spec_l01Var.l0 k n acc) (strOfNums (acc ++ varL d n)) := by
 induction d with
 | zero =>
  intro n acc h0 hm h1 hl
  refine Ev.step (f := fun _ => some (strOfNums (acc ++ varL 0 n))) (fun k => ?_) (Ev.now _)
  simp only [spec_l01Var.l0, varL]
  rw [if_neg (by omega), if_pos (by omega)]
 | succ d ih =>
  intro n acc h0 hm h1 hl
  by_cases hn : n > 127
  ·have hi := ih (n / 128) (acc ++ [n % 128 + 128]) (by omega) (by omega) (by rw [Int.pow_succ] at h1; omega) (by simp only [List.length_append, List.length_cons, List.length_nil]; omega)
   rw [List.append_assoc, List.singleton_append] at hi
   rw [varL, if_pos hn]
   refine Ev.step (fun k => ?_) hi
   simp only [spec_l01Var.l0]
   rw [if_pos hn, if_pos (by omega), tdivp h0, tmodp h0, w64 (by omega) (by omega), w64 (by omega) (by omega), show (n % 128 + 128) % 256 = n % 128 + 128 by omega]
  ·rw [varL, if_neg hn]
   refine Ev.step (f := fun _ => some (strOfNums (acc ++ [n % 256]))) (fun k => ?_) (Ev.now _)
   simp only [spec_l01Var.l0]
   rw [if_neg hn, if_pos (by omega)]
theorem spec_l01Var_ev (n : Int) (h0 : 0 ≤ n) (h1 : n ≤ 9223372036854775807) : Ev (fun k => spec_l01Var.f k n) (strOfNums (varN n)) :=
 spec_l01Var_l0_ev 9 n [] h0 h1 (by omega) (by simp)

theorem spec_ReadVar_l0_ev (s : ByteArray) (hs : s.size ≤ 9223372036854775000) (a : Nat) (f : Nat) : ∀ i : Nat, a ≤ i → i - a + f = 5 → i ≤ s.size → (∀ x ∈ preB s a i, 128 ≤ x ∧ x < 256) →
  Ev (fun k => spec_ReadVar.l0 k s a (valL (preB s a i)) (128 ^ (i - a)) i) (rvM a f ((B s).drop i) (valL (preB s a i)) (128 ^ (i - a)) i) := by
 have fail : ∀ (i : Nat) (n u : Int), Ev (fun k => spec_ReadVar.j1 k s a n u i false) (0, 0, false) := by
  intro i n u
  refine Ev.step (f := fun _ => some (0, 0, false)) (fun k => ?_) (Ev.now _)
  simp only [spec_ReadVar.j1]
  rfl
 induction f with
 | zero =>
  intro i ha hf hi _
  rw [rvM]
  refine Ev.step (fun k => ?_) (fail i (valL (preB s a i)) (128 ^ (i - a)))
  simp only [spec_ReadVar.l0]
  by_cases hlt : (i : Int) < s.size
  ·rw [if_pos hlt, w64 (by omega) (by omega), decide_eq_false (by omega)]
  ·rw [if_neg hlt]
 | succ f ih =>
  intro i ha hf hi hpre
  by_cases hlt : i < s.size
  ·have hsn := preB_snoc s a i ha hlt
   have hv := valL_snoc (preB s a i) (bt s i); have hlen := preB_len s a i hi; rw [hlen, ← hsn] at hv; have hb0 := valL_bd (preB s a i); have hb1 := valL_bd (preB s a (i + 1)); have hl1 := preB_len s a (i + 1) hlt
   have hp0 := pw_bd (i - a) (by omega)
   have hp1 := pw_bd (i + 1 - a) (by omega)
   rw [hlen] at hb0; rw [hl1] at hb1; have hbt := bt_b s i
   have hpw : (128 : Int) ^ (i - a) * 128 = 128 ^ (i + 1 - a) := by rw [show i + 1 - a = (i - a) + 1 by omega, Int.pow_succ]
   rw [B_drop s i hlt, rvM]
   have hprod0 : 0 ≤ bt s i % 128 * 128 ^ (i - a) := Int.mul_nonneg (by omega) (by omega)
   have hw1 : wrap64 (bt s i % 128 * 128 ^ (i - a)) = bt s i % 128 * 128 ^ (i - a) := w64 (by omega) (by omega)
   have hw2 : wrap64 (valL (preB s a i) + bt s i % 128 * 128 ^ (i - a)) = valL (preB s a (i + 1)) := by rw [← hv]; exact w64 (by omega) (by omega)
   have hstep : ∀ r, Ev (fun k => spec_ReadVar.j1 k s a (valL (preB s a i)) (128 ^ (i - a)) i true) r → Ev (fun k => spec_ReadVar.l0 k s a (valL (preB s a i)) (128 ^ (i - a)) i) r := by
    intro r h
    refine Ev.step (fun k => ?_) h
    simp only [spec_ReadVar.l0]
    rw [if_pos (by omega), w64 (by omega) (by omega), decide_eq_true (by omega)]
   apply hstep
   rw [← hv]
   by_cases hsm : bt s i < 128
   ·rw [if_pos hsm]
    have hiff := varL_val (preB s a i) 9 (bt s i) hpre hbt.1 hsm (by omega)
    rw [← hsn] at hiff
    have hne : preB s a i ≠ [] ↔ a < i := by rw [ne_eq, ← List.length_eq_zero_iff, hlen]; omega
    by_cases hmx : valL (preB s a (i + 1)) > 1000000000
    ·rw [if_pos (.inr hmx)]
     refine Ev.step (f := fun _ => some (0, 0, false)) (fun k => ?_) (Ev.now _)
     simp only [spec_ReadVar.j1]
     rw [if_pos trivial, if_pos (by omega), if_pos (by omega), if_pos hsm, wbt, tmodp hbt.1, hw1, hw2, if_pos hmx]
    ·have htx : (strOfNums (varN (valL (preB s a (i + 1))))).toList = (s.extract a (i + 1)).toList ↔ ¬ (bt s i = 0 ∧ a < i) := by
      rw [tl_iff, B_str _ (varN_byt _), B_extract]
      show varL 9 (valL (preB s a (i + 1))) = preB s a (i + 1) ↔ _
      rw [hiff, hne]
     have hb := Ev.bind (spec_l01Var_ev (valL (preB s a (i + 1))) hb1.1 (by omega))
      (f := fun _ t => if t.toList = (s.extract a (i + 1)).toList then some (valL (preB s a (i + 1)), (i : Int) + 1, true) else some (0, 0, false))
      (r := if bt s i = 0 ∧ a < i ∨ valL (preB s a (i + 1)) > 1000000000 then (0, 0, false) else (valL (preB s a (i + 1)), (i : Int) + 1, true))
      (by
       by_cases hz : bt s i = 0 ∧ a < i
       ·have e : (if bt s i = 0 ∧ a < i ∨ valL (preB s a (i + 1)) > 1000000000 then ((0 : Int), (0 : Int), false) else (valL (preB s a (i + 1)), (i : Int) + 1, true)) = (0, 0, false) := if_pos (.inl hz)
        rw [e]
        exact ev_neg (fun h => (htx.1 h) hz) (Ev.now _)
       ·have e : (if bt s i = 0 ∧ a < i ∨ valL (preB s a (i + 1)) > 1000000000 then ((0 : Int), (0 : Int), false) else (valL (preB s a (i + 1)), (i : Int) + 1, true)) = (valL (preB s a (i + 1)), (i : Int) + 1, true) := if_neg (fun h => h.elim hz hmx)
        rw [e]
        exact ev_pos (htx.2 hz) (Ev.now _))
     refine Ev.step (fun k => ?_) hb
     simp only [spec_ReadVar.j1]
     rw [if_pos trivial, if_pos (by omega), if_pos (by omega), if_pos hsm, wbt, tmodp hbt.1, hw1, hw2, if_neg hmx, w64 (x := (i : Int) + 1) (by omega) (by omega)]
     congr 1
     funext t
     rw [if_pos (by omega), if_pos (by omega), if_pos (by omega)]
     rfl
   ·have ih' := ih (i + 1) (by omega) (by omega) (by omega) (by
     intro x hx
     rw [hsn] at hx
     rcases List.mem_append.1 hx with hx | hx
     ·exact hpre x hx
     ·rw [List.mem_singleton.1 hx]; omega)
    rw [if_neg hsm, hpw]
    refine Ev.step (fun k => ?_) ih'
    simp only [spec_ReadVar.j1]
    rw [if_pos trivial, if_pos (by omega), if_pos (by omega), if_neg hsm, wbt, tmodp hbt.1, hw1, hw2, hpw, w64 (x := 128 ^ (i + 1 - a)) (by omega) (by omega), w64 (x := (i : Int) + 1) (by omega) (by omega)]
    rfl
  ·rw [B_dropAll s i (by omega), rvM]
   refine Ev.step (fun k => ?_) (fail i (valL (preB s a i)) (128 ^ (i - a)))
   simp only [spec_ReadVar.l0]
   rw [if_neg (by omega)]
theorem spec_ReadVar_yes (s : ByteArray) (hs : s.size ≤ 9223372036854775000) (a : Nat) (ha : a ≤ s.size) : Ev (fun k => spec_ReadVar.f k s a) (rvB s a) := by
 have h := spec_ReadVar_l0_ev s hs a 5 a (Nat.le_refl _) (by omega) ha (by rw [preB_nil]; simp)
 rw [preB_nil, Nat.sub_self] at h
 refine Ev.congr (fun k => ?_) h
 simp only [spec_ReadVar.f, spec_l01In_eq, Option.bind_some]
 rw [if_pos (by simp; omega)]
 rfl
theorem impl_ReadVar_l0_ev (s : ByteArray) (hs : s.size ≤ 9223372036854775000) (a : Nat) (f : Nat) : ∀ i : Nat, a ≤ i → i - a + f = 5 → i ≤ s.size →
  Ev (fun k => impl_ReadVar.l0 k s a (valL (preB s a i)) (128 ^ (i - a)) i) (rvM a f ((B s).drop i) (valL (preB s a i)) (128 ^ (i - a)) i) := by
 have fail : ∀ (i : Nat) (n u : Int), Ev (fun k => impl_ReadVar.j1 k s a n u i false) (0, 0, false) := by
  intro i n u
  refine Ev.step (f := fun _ => some (0, 0, false)) (fun k => ?_) (Ev.now _)
  simp only [impl_ReadVar.j1]
  rfl
 induction f with
 | zero =>
  intro i ha hf hi
  rw [rvM]
  refine Ev.step (fun k => ?_) (fail i (valL (preB s a i)) (128 ^ (i - a)))
  simp only [impl_ReadVar.l0]
  by_cases hlt : (i : Int) < s.size
  ·rw [if_pos hlt, w64 (by omega) (by omega), decide_eq_false (by omega)]
  ·rw [if_neg hlt]
 | succ f ih =>
  intro i ha hf hi
  by_cases hlt : i < s.size
  ·have hsn := preB_snoc s a i ha hlt
   have hv := valL_snoc (preB s a i) (bt s i); have hlen := preB_len s a i hi; rw [hlen, ← hsn] at hv; have hb0 := valL_bd (preB s a i); have hb1 := valL_bd (preB s a (i + 1)); have hl1 := preB_len s a (i + 1) hlt
   have hp0 := pw_bd (i - a) (by omega)
   have hp1 := pw_bd (i + 1 - a) (by omega)
   rw [hlen] at hb0; rw [hl1] at hb1; have hbt := bt_b s i
   have hpw : (128 : Int) ^ (i - a) * 128 = 128 ^ (i + 1 - a) := by rw [show i + 1 - a = (i - a) + 1 by omega, Int.pow_succ]
   have ih' := ih (i + 1) (by omega) (by omega) (by omega)
   rw [B_drop s i hlt, rvM]
   have hprod0 : 0 ≤ bt s i % 128 * 128 ^ (i - a) := Int.mul_nonneg (by omega) (by omega)
   have hw1 : wrap64 (bt s i % 128 * 128 ^ (i - a)) = bt s i % 128 * 128 ^ (i - a) := w64 (by omega) (by omega)
   have hw2 : wrap64 (valL (preB s a i) + bt s i % 128 * 128 ^ (i - a)) = valL (preB s a (i + 1)) := by rw [← hv]; exact w64 (by omega) (by omega)
   have hstep : ∀ r, Ev (fun k => impl_ReadVar.j1 k s a (valL (preB s a i)) (128 ^ (i - a)) i true) r → Ev (fun k => impl_ReadVar.l0 k s a (valL (preB s a i)) (128 ^ (i - a)) i) r := by
    intro r h
    refine Ev.step (fun k => ?_) h
    simp only [impl_ReadVar.l0]
    rw [if_pos (by omega), w64 (by omega) (by omega), decide_eq_true (by omega)]
   apply hstep
   rw [← hv]
   by_cases hsm : bt s i < 128
   ·rw [if_pos hsm]
    refine Ev.step (f := fun _ => some (if bt s i = 0 ∧ a < i ∨ valL (preB s a (i + 1)) > 1000000000 then (0, 0, false) else (valL (preB s a (i + 1)), (i : Int) + 1, true))) (fun k => ?_) (Ev.now _)
    simp only [impl_ReadVar.j1]
    rw [if_pos trivial, if_pos (by omega), if_pos (by omega), wbt, if_pos hsm, tmodp hbt.1, hw1, hw2, w64 (x := (i : Int) + 1) (by omega) (by omega)]
    by_cases hz : bt s i = 0
    ·rw [if_pos hz]
     by_cases hai : a < i
     ·rw [if_pos (by omega), if_pos (.inl ⟨hz, hai⟩)]
     ·rw [if_neg (by omega)]
      by_cases hmx : valL (preB s a (i + 1)) > 1000000000
      ·rw [if_pos hmx, if_pos (.inr hmx)]
      ·rw [if_neg hmx, if_neg (by omega)]
    ·rw [if_neg hz]
     by_cases hmx : valL (preB s a (i + 1)) > 1000000000
     ·rw [if_pos hmx, if_pos (.inr hmx)]
     ·rw [if_neg hmx, if_neg (by omega)]
   ·rw [if_neg hsm, hpw]
    refine Ev.step (fun k => ?_) ih'
    simp only [impl_ReadVar.j1]
    rw [if_pos trivial, if_pos (by omega), if_pos (by omega), wbt, if_neg hsm, tmodp hbt.1, hw1, hw2, hpw, w64 (x := 128 ^ (i + 1 - a)) (by omega) (by omega), w64 (x := (i : Int) + 1) (by omega) (by omega)]
    rfl
  ·rw [B_dropAll s i (by omega), rvM]
   refine Ev.step (fun k => ?_) (fail i (valL (preB s a i)) (128 ^ (i - a)))
   simp only [impl_ReadVar.l0]
   rw [if_neg (by omega)]
theorem impl_ReadVar_yes (s : ByteArray) (hs : s.size ≤ 9223372036854775000) (a : Nat) (ha : a ≤ s.size) : Ev (fun k => impl_ReadVar.f k s a) (rvB s a) := by
 have h := impl_ReadVar_l0_ev s hs a 5 a (Nat.le_refl _) (by omega) ha
 rw [preB_nil, Nat.sub_self] at h
 refine Ev.congr (fun k => ?_) h
 simp only [impl_ReadVar.f, impl_in_eq, Option.bind_some]
 rw [if_pos (by simp; omega)]
 rfl
theorem spec_RecordText_l0_ev (q0 q1 q2 q3 q4 co : Int) (fa : Bool) (l : List S63) (hl : l.length ≤ 1048576) (hn : ∀ x ∈ l, 1 ≤ x.f0 ∧ x.f0 ≤ 6 ∧ 1 ≤ x.f1 ∧ x.f1 ≤ 1000) (hc : 0 ≤ co ∧ co ≤ 60000) (d : Nat) :
  ∀ (i : Nat) (acc : List Int), i + d = l.length → acc.length ≤ 100 + 11 * i →
  Ev (fun k => spec_RecordText.l0 k (strOfNums acc) i q0 q1 q2 q3 q4 l co fa) (strOfNums (acc ++ nearT (l.drop i) ++ varN co ++ farT fa), true) := by
 induction d with
 | zero =>
  intro i acc hi ha
  have hv := varN_len co
  rw [List.drop_eq_nil_of_le (by omega), nearT, List.append_nil]
  apply ev_succ
  simp only [spec_RecordText.l0]
  refine ev_neg (by omega) (Ev.bind (spec_l01Var_ev co hc.1 (by omega)) ?_)
  rw [str_app]
  refine ev_pos (by rw [Go.strOfNums_size, Go.strOfNums_size]; omega) ?_
  have hs : (strOfNums (acc ++ varN co)).size + 1 ≤ 9223372036854775807 := by rw [Go.strOfNums_size, List.length_append]; omega
  cases fa with
  | true => exact ev_pos rfl (ev_pos hs (ev_some (by rw [show (⟨#[1]⟩ : ByteArray) = strOfNums [1] from rfl, str_app]; rfl)))
  | false => exact ev_neg (by simp) (ev_pos hs (ev_some (by rw [show (⟨#[0]⟩ : ByteArray) = strOfNums [0] from rfl, str_app]; rfl)))
 | succ d ih =>
  intro i acc hi ha
  obtain ⟨x, hx⟩ : ∃ x, rd_T63 l (i : Int) = x := ⟨_, rfl⟩
  have hx2 : l.getD i z63 = x := hx
  have hm : x ∈ l := by rw [← hx2, List.getD_eq_getElem?_getD, List.getElem?_eq_getElem (by omega)]; exact List.getElem_mem _
  have hx3 := hn x hm; have hv := varN_len x.f1
  have hr := ih (i + 1) (acc ++ [x.f0 % 256] ++ varN x.f1) (by omega) (by simp only [List.length_append, List.length_cons, List.length_nil]; omega)
  rw [drop_at l z63 i (by omega), hx2, nearT]
  apply ev_succ
  simp only [spec_RecordText.l0, hx, spec_l04Byte.f, Option.bind_some, str_app]
  rw [w64 (by omega) (by omega)]
  refine ev_pos (by omega) (ev_pos (by omega) (ev_pos (by rw [Go.strOfNums_size, Go.strOfNums_size]; simp only [List.length_cons, List.length_nil]; omega) ?_))
  refine Ev.bind (spec_l01Var_ev x.f1 (by omega) (by omega)) ?_
  refine ev_pos (by rw [Go.strOfNums_size, Go.strOfNums_size, List.length_append]; simp only [List.length_cons, List.length_nil]; omega) ?_
  rw [str_app]
  refine ev_to hr ?_
  congr 2
  simp only [List.append_assoc, List.cons_append, List.nil_append]
theorem spec_RecordText_yes (ar ki ow ke se : Int) (l : List S63) (co : Int) (fa : Bool) (hl : l.length ≤ 1048576) (h : recB ar ki ow ke se l co fa = true) :
  Ev (fun k => spec_RecordText.f k ar ki ow ke se l co fa) (strOfNums (recT ar ki ow ke se l co fa), true) := by
 have hf := recB_facts h; have hv := varN_len se; have hw := varN_len (l.length : Int)
 unfold spec_RecordText.f
 refine Ev.bind (spec_RecordOk_ev ar ki ow ke se l co fa (by omega)) ?_
 rw [h]
 simp only [spec_l04Byte.f, Option.bind_some, str_app]
 refine ev_pos trivial ?_
 refine ev_pos (by simp only [Go.strOfNums_size, List.length_cons, List.length_nil, List.length_append]; omega) ?_
 refine ev_pos (by simp only [Go.strOfNums_size, List.length_cons, List.length_nil, List.length_append]; omega) ?_
 refine ev_pos (by simp only [Go.strOfNums_size, List.length_cons, List.length_nil, List.length_append]; omega) ?_
 refine Ev.bind (spec_l01Var_ev se (by omega) (by omega)) ?_
 refine ev_pos (by simp only [Go.strOfNums_size, List.length_cons, List.length_nil, List.length_append]; omega) ?_
 refine Ev.bind (spec_l01Var_ev (l.length : Int) (by omega) (by omega)) ?_
 simp only [str_app]
 refine ev_pos (by simp only [Go.strOfNums_size, List.length_cons, List.length_nil, List.length_append]; omega) ?_
 have hr := spec_RecordText_l0_ev ar ki ow ke se co fa l hl (recB_near h) (by omega) l.length 0 ([ar % 256] ++ [ki % 256] ++ [ow % 256] ++ [ke % 256] ++ varN se ++ varN (l.length : Int)) (by omega) (by simp only [List.length_cons, List.length_nil, List.length_append]; omega)
 exact hr
theorem spec_RecordText_no (ar ki ow ke se : Int) (l : List S63) (co : Int) (fa : Bool) (hl : l.length ≤ 9223372036854775807) (h : ¬ recB ar ki ow ke se l co fa = true) :
  Ev (fun k => spec_RecordText.f k ar ki ow ke se l co fa) (⟨#[]⟩, false) := by
 unfold spec_RecordText.f
 exact Ev.bind (spec_RecordOk_ev ar ki ow ke se l co fa hl) (ev_neg h (Ev.now _))

def oneB (s : ByteArray) (p : Int) (b : Bool) : Int × Int × Bool := if b = true then (0, p, true) else if p ≥ (s.size : Int) then (0, p, true) else (bt s p, p + 1, false)
def numB (s : ByteArray) (p : Int) (b : Bool) : Int × Int × Bool := if b = true then (0, p, true) else if (rvB s p.toNat).2.2 = true then ((rvB s p.toNat).1, (rvB s p.toNat).2.1, false) else (0, p, true)
theorem evUnique {α : Type} {g : Nat → Option α} {r r' : α} (h : Ev g r) (h' : Ev g r') : r = r' := by
 obtain ⟨K, h⟩ := h; obtain ⟨K', h'⟩ := h'
 have e := h (K + K') (by omega)
 rw [h' (K + K') (by omega)] at e
 exact (Option.some.inj e).symm
theorem impl_one_eq (s : ByteArray) (hs : s.size ≤ 9223372036854775000) (p : Int) (b : Bool) (h0 : 0 ≤ p) (h1 : p ≤ s.size) : impl_reader_one.f s p b = some ((oneB s p b).1, s, (oneB s p b).2.1, (oneB s p b).2.2) := by
 unfold impl_reader_one.f oneB
 by_cases hb : b = true
 ·rw [if_pos hb, if_pos hb]
 ·rw [if_neg hb, if_neg hb]
  by_cases hp : p ≥ (s.size : Int)
  ·rw [if_pos hp, if_pos hp]
  ·rw [if_neg hp, if_neg hp, w64 (x := p + 1) (by omega) (by omega), show p + 1 - 1 = p by omega, w64 (x := p) (by omega) (by omega), if_pos h0, if_pos (by omega), wbt]
   have : b = false := by simpa using hb
   rw [this]
theorem spec_one_eq (s : ByteArray) (hs : s.size ≤ 9223372036854775000) (p : Int) (b : Bool) (h0 : 0 ≤ p) (h1 : p ≤ s.size) : spec_l04One.f s p b = some ((oneB s p b).1, s, (oneB s p b).2.1, (oneB s p b).2.2) := by
 unfold spec_l04One.f spec_l04Take.f oneB
 by_cases hb : b = true
 ·rw [if_pos hb, if_pos hb]
  simp
 ·have hb' : b = false := by simpa using hb
  subst hb'
  simp only [Bool.false_eq_true, if_false]
  rw [w64 (x := (s.size : Int) - p) (by omega) (by omega)]
  by_cases hp : p ≥ (s.size : Int)
  ·rw [if_pos (by omega), if_pos hp]
   simp
  ·rw [if_neg (by omega), if_neg hp, w64 (x := p + 1) (by omega) (by omega), show p + 1 - 1 = p by omega, w64 (x := p) (by omega) (by omega), if_pos h0, if_pos (by omega), if_pos (by omega)]
   simp only [Option.bind_some]
   have hsz : (s.extract p.toNat (p + 1).toNat).size = 1 := by rw [ByteArray.size_extract]; omega
   have hbt : bt (s.extract p.toNat (p + 1).toNat) 0 = bt s p := by
    have h3 := B_bt (s.extract p.toNat (p + 1).toNat) 0 (by omega)
    have h4 := B_bt s p.toNat (by omega)
    rw [B_extract] at h3
    have e : (((B s).take (p + 1).toNat).drop p.toNat)[0]? = (B s)[p.toNat]? := by
     rw [List.getElem?_drop, Nat.add_zero, List.getElem?_take, if_pos (by omega)]
    rw [e, h4] at h3
    have e2 : ((p.toNat : Nat) : Int) = p := by omega
    rw [e2] at h3
    exact (Option.some.inj h3).symm
   rw [if_neg (by decide), if_pos (by omega), hbt, wbt]
theorem impl_num_ev (s : ByteArray) (hs : s.size ≤ 9223372036854775000) (p : Int) (b : Bool) (h0 : 0 ≤ p) (h1 : p ≤ s.size) : Ev (fun k => impl_reader_num.f k s p b) ((numB s p b).1, s, (numB s p b).2.1, (numB s p b).2.2) := by
 have h := impl_ReadVar_yes s hs p.toNat (by omega)
 have e : ((p.toNat : Nat) : Int) = p := by omega
 rw [e] at h
 unfold impl_reader_num.f
 refine Ev.bind h ?_
 cases b with
 | true => exact ev_pos (by simp) (Ev.now _)
 | false =>
  refine ev_neg (by decide) ?_
  unfold numB
  cases ho : (rvB s p.toNat).2.2 <;> simp only [ho, Bool.false_eq_true, if_true, if_false] <;> exact Ev.now _
theorem spec_num_ev (s : ByteArray) (hs : s.size ≤ 9223372036854775000) (p : Int) (b : Bool) (h0 : 0 ≤ p) (h1 : p ≤ s.size) : Ev (fun k => spec_l04Var.f k s p b) ((numB s p b).1, s, (numB s p b).2.1, (numB s p b).2.2) := by
 have h := spec_ReadVar_yes s hs p.toNat (by omega)
 have e : ((p.toNat : Nat) : Int) = p := by omega
 rw [e] at h
 unfold spec_l04Var.f
 refine Ev.bind h ?_
 cases b with
 | true => exact ev_pos (by simp) (Ev.now _)
 | false =>
  refine ev_neg (by decide) ?_
  unfold numB
  cases ho : (rvB s p.toNat).2.2 <;> simp only [ho, Bool.false_eq_true, if_true, if_false] <;> exact Ev.now _
theorem oneB_bad (s : ByteArray) (p : Int) : oneB s p true = (0, p, true) := rfl
theorem numB_bad (s : ByteArray) (p : Int) : numB s p true = (0, p, true) := rfl
/-- A byte, read: it is bad, or the byte is told. -/
theorem oneB_cases (s : ByteArray) (p : Int) (h0 : 0 ≤ p) (h1 : p ≤ s.size) : oneB s p false = (0, p, true) ∨ ∃ r, oneB s p false = (r, p + 1, false) ∧ 0 ≤ r ∧ r < 256 ∧ p < s.size ∧ (B s).take (p + 1).toNat = (B s).take p.toNat ++ [r] := by
 unfold oneB
 by_cases hp : p ≥ (s.size : Int)
 ·left; rw [if_neg (by decide), if_pos hp]
 ·right
  have hb := bt_b s p
  refine ⟨bt s p, by rw [if_neg (by decide), if_neg hp], hb.1, hb.2, by omega, ?_⟩
  have h4 := B_bt s p.toNat (by omega)
  have e2 : ((p.toNat : Nat) : Int) = p := by omega
  rw [e2] at h4
  have hl : p.toNat < (B s).length := by rw [B_len]; omega
  rw [List.getElem?_eq_getElem hl] at h4
  rw [show (p + 1).toNat = p.toNat + 1 by omega, List.take_succ_eq_append_getElem hl, Option.some.inj h4]
theorem numB_cases (s : ByteArray) (p : Int) (h0 : 0 ≤ p) (h1 : p ≤ s.size) : numB s p false = (0, p, true) ∨ ∃ r j, numB s p false = (r, j, false) ∧ 0 ≤ r ∧ r ≤ 1000000000 ∧ p < j ∧ j ≤ s.size ∧ (B s).take j.toNat = (B s).take p.toNat ++ varN r := by
 unfold numB
 rw [if_neg (by decide)]
 generalize hv : rvB s p.toNat = v
 obtain ⟨m, j, o⟩ := v
 cases o with
 | false => left; rfl
 | true =>
  right
  have h2 := rvB_ok s p.toNat (by omega) hv
  have h3 := rvB_enc s p.toNat (by omega) hv
  exact ⟨m, j, rfl, h2.1, h2.2.1, by omega, by omega, h3.1⟩
def zRec : Int × Int × Int × Int × Int × (List S63) × Int × Bool × Bool := (0, 0, 0, 0, 0, [], 0, false, false)
def goodR (s : ByteArray) (R : Int × Int × Int × Int × Int × (List S63) × Int × Bool × Bool) : Prop :=
 R.2.2.2.2.2.1.length ≤ 7 ∧ (R.2.2.2.2.2.2.2.2 = true → recB R.1 R.2.1 R.2.2.1 R.2.2.2.1 R.2.2.2.2.1 R.2.2.2.2.2.1 R.2.2.2.2.2.2.1 R.2.2.2.2.2.2.2.1 = true ∧ (strOfNums (recT R.1 R.2.1 R.2.2.1 R.2.2.2.1 R.2.2.2.2.1 R.2.2.2.2.2.1 R.2.2.2.2.2.2.1 R.2.2.2.2.2.2.2.1)).toList = s.toList) ∧ (R.2.2.2.2.2.2.2.2 = false → R = zRec)
theorem goodR_z (s : ByteArray) : goodR s zRec := ⟨by simp [zRec], fun h => by simp [zRec] at h, fun _ => rfl⟩
theorem spec_text_some (a b c d e : Int) (l : List S63) (co : Int) (fa : Bool) (hl : l.length ≤ 1048576) : ∃ r, Ev (fun k => spec_RecordText.f k a b c d e l co fa) r := by
 by_cases h : recB a b c d e l co fa = true
 ·exact ⟨_, spec_RecordText_yes a b c d e l co fa hl h⟩
 ·exact ⟨_, spec_RecordText_no a b c d e l co fa (by omega) h⟩
/-- Once something was not as it must be, nothing is read. -/
theorem impl_rec_bad (s : ByteArray) (hs : s.size ≤ 9223372036854775000) (n p : Int) (h0 : 0 ≤ p) (h1 : p ≤ s.size) (a b c d e : Int) (l : List S63) : Ev (fun k => impl_ReadRecord.l0 k s n s p true a b c d e l 0 false) zRec := by
 have hj : Ev (fun k => impl_ReadRecord.j1 k s n false s p true a b c d e l 0 false) zRec := by
  apply ev_succ
  simp only [impl_ReadRecord.j1]
  refine ev_neg (by decide) (Ev.bind (impl_num_ev s hs p true h0 h1) ?_)
  simp only [numB_bad, impl_one_eq s hs p true h0 h1, Option.bind_some, oneB_bad]
  exact ev_pos (by simp) (Ev.now _)
 apply ev_succ
 simp only [impl_ReadRecord.l0, Bool.not_true]
 exact ev_ite (fun _ => hj) (fun _ => hj)
theorem spec_rec_bad (s : ByteArray) (hs : s.size ≤ 9223372036854775000) (n i p : Int) (h0 : 0 ≤ p) (h1 : p ≤ s.size) (a b c d e : Int) (l : List S63) (hl : l.length ≤ 1048576) : Ev (fun k => spec_ReadRecord.l0 k s n i s p true a b c d e l 0 false) zRec := by
 have hj : Ev (fun k => spec_ReadRecord.j1 k s n i false s p true a b c d e l 0 false) zRec := by
  apply ev_succ
  simp only [spec_ReadRecord.j1]
  refine ev_neg (by decide) (Ev.bind (spec_num_ev s hs p true h0 h1) ?_)
  simp only [numB_bad, spec_one_eq s hs p true h0 h1, Option.bind_some, oneB_bad]
  obtain ⟨r, hr⟩ := spec_text_some a b c d e l 0 ((0 : Int) == 1) hl
  exact Ev.bind hr (ev_pos (by simp) (Ev.now _))
 apply ev_succ
 simp only [spec_ReadRecord.l0, Bool.not_true]
 exact ev_ite (fun _ => ev_ite (fun _ => hj) (fun _ => hj)) (fun _ => hj)
theorem nearGo_len (ow : Int) : ∀ (l : List S63) (q : Int), nearGo ow (some q) l = true → 0 ≤ q → q ≤ 6 → (l.length : Int) ≤ 6 - q
 | [], q, _, h0, h1 => by simp; omega
 | x :: l, q, h, h0, h1 => by
  rw [nearGo] at h
  simp only [Bool.and_eq_true, decide_eq_true_eq, Option.all_some] at h
  have h2 := nearGo_len ow l x.f0 h.2 (by omega) (by omega)
  have h3 : q < x.f0 := h.1.2
  simp only [List.length_cons]; omega
theorem nearB_len {ow : Int} {l : List S63} (h : nearB ow l = true) : l.length ≤ 6 := by
 cases l with
 | nil => simp
 | cons x l =>
  unfold nearB at h
  rw [nearGo] at h
  simp only [Bool.and_eq_true, decide_eq_true_eq] at h
  have h2 := nearGo_len ow l x.f0 h.2 (by omega) (by omega)
  simp only [List.length_cons]; omega
theorem recB_len {ar ki ow ke se : Int} {l : List S63} {co : Int} {fa : Bool} (h : recB ar ki ow ke se l co fa = true) : l.length ≤ 6 := by
 obtain ⟨_, _, _, _, _, _, _, _, _, _, _, _, h⟩ := recB_facts h
 rcases h with h | rfl
 ·exact nearB_len h
 ·simp
/-- The end of a reading that is bad at the last two steps, or of what is no record. -/
theorem impl_rec_end (s : ByteArray) (hs : s.size ≤ 9223372036854775000) (n p : Int) (h0 : 0 ≤ p) (h1 : p ≤ s.size) (a b c d e : Int) (l : List S63) (hl : l.length ≤ 9223372036854775000) (hn : ∀ co fa, recB a b c d e l co fa = false) : Ev (fun k => impl_ReadRecord.j1 k s n false s p false a b c d e l 0 false) zRec := by
 apply ev_succ
 simp only [impl_ReadRecord.j1]
 refine ev_neg (by decide) (Ev.bind (impl_num_ev s hs p false h0 h1) ?_)
 rcases numB_cases s p h0 h1 with h | ⟨co, j, h, c0, c1, hj0, hj1, _⟩
 ·simp only [h, impl_one_eq s hs p true h0 h1, Option.bind_some, oneB_bad]
  exact ev_pos (by simp) (Ev.now _)
 ·simp only [h]
  rcases oneB_cases s j (by omega) (by omega) with h2 | ⟨r, h2, r0, r1, hj2, _⟩
  ·simp only [impl_one_eq s hs j false (by omega) (by omega), Option.bind_some, h2]
   exact ev_pos (by simp) (Ev.now _)
  ·simp only [impl_one_eq s hs j false (by omega) (by omega), Option.bind_some, h2]
   refine ev_neg (by decide) (ev_ite (fun _ => Ev.now _) (fun _ => ev_ite (fun _ => ?_) (fun _ => Ev.now _)))
   refine Ev.bind (impl_RecordOk_ev a b c d e l co (r == 1) (by omega)) ?_
   rw [hn]
   exact ev_neg (by decide) (Ev.now _)
theorem spec_rec_end (s : ByteArray) (hs : s.size ≤ 9223372036854775000) (n i p : Int) (h0 : 0 ≤ p) (h1 : p ≤ s.size) (a b c d e : Int) (l : List S63) (hl : l.length ≤ 1048576) (hn : ∀ co fa, recB a b c d e l co fa = false) : Ev (fun k => spec_ReadRecord.j1 k s n i false s p false a b c d e l 0 false) zRec := by
 apply ev_succ
 simp only [spec_ReadRecord.j1]
 refine ev_neg (by decide) (Ev.bind (spec_num_ev s hs p false h0 h1) ?_)
 have hno : ∀ co fa, Ev (fun k => spec_RecordText.f k a b c d e l co fa) (⟨#[]⟩, false) := fun co fa => spec_RecordText_no a b c d e l co fa (by omega) (by rw [hn]; decide)
 rcases numB_cases s p h0 h1 with h | ⟨co, j, h, c0, c1, hj0, hj1, _⟩
 ·simp only [h, spec_one_eq s hs p true h0 h1, Option.bind_some, oneB_bad]
  exact Ev.bind (hno _ _) (ev_pos (by simp) (Ev.now _))
 ·simp only [h]
  rcases oneB_cases s j (by omega) (by omega) with h2 | ⟨r, h2, r0, r1, hj2, _⟩
  ·simp only [spec_one_eq s hs j false (by omega) (by omega), Option.bind_some, h2]
   exact Ev.bind (hno _ _) (ev_pos (by simp) (Ev.now _))
  ·simp only [spec_one_eq s hs j false (by omega) (by omega), Option.bind_some, h2]
   exact Ev.bind (hno _ _) (ev_neg (by decide) (ev_neg (by decide) (Ev.now _)))
theorem long_no {a b c d e : Int} {l : List S63} (hl : 7 ≤ l.length) : ∀ co fa, recB a b c d e l co fa = false := by
 intro co fa
 cases h : recB a b c d e l co fa with
 | false => rfl
 | true => have := recB_len h; omega
theorem impl_rec_long (s : ByteArray) (hs : s.size ≤ 1048576) (a b c d e : Int) (m : Nat) : ∀ (n p : Int) (l : List S63), 0 ≤ p → p ≤ s.size → (s.size : Int) - p ≤ m → 0 ≤ n → n ≤ 1000000000 → 7 ≤ l.length → l.length + m ≤ 2000000 →
  Ev (fun k => impl_ReadRecord.l0 k s n s p false a b c d e l 0 false) zRec := by
 induction m with
 | zero =>
  intro n p l h0 h1 hm hn hn1 hl hlm
  apply ev_succ
  simp only [impl_ReadRecord.l0, Bool.not_false]
  refine ev_ite (fun _ => ?_) (fun _ => impl_rec_end s (by omega) n p h0 h1 a b c d e l (by omega) (long_no hl))
  apply ev_succ
  simp only [impl_ReadRecord.j1]
  have hb : oneB s p false = (0, p, true) := by unfold oneB; rw [if_neg (by decide), if_pos (by omega)]
  rw [impl_one_eq s (by omega) p false h0 h1, hb]
  simp only [Option.bind_some]
  refine ev_pos trivial (Ev.bind (impl_num_ev s (by omega) p true h0 h1) ?_)
  simp only [numB_bad]
  exact ev_pos (by omega) (impl_rec_bad s (by omega) _ p h0 h1 a b c d e _)
 | succ m ih =>
  intro n p l h0 h1 hm hn hn1 hl hlm
  apply ev_succ
  simp only [impl_ReadRecord.l0, Bool.not_false]
  refine ev_ite (fun hn0 => ?_) (fun _ => impl_rec_end s (by omega) n p h0 h1 a b c d e l (by omega) (long_no hl))
  apply ev_succ
  simp only [impl_ReadRecord.j1]
  rcases oneB_cases s p h0 h1 with h | ⟨r, h, r0, r1, hp, _⟩
  ·rw [impl_one_eq s (by omega) p false h0 h1, h]
   simp only [Option.bind_some]
   refine ev_pos trivial (Ev.bind (impl_num_ev s (by omega) p true h0 h1) ?_)
   simp only [numB_bad]
   exact ev_pos (by omega) (impl_rec_bad s (by omega) _ p h0 h1 a b c d e _)
  ·rw [impl_one_eq s (by omega) p false h0 h1, h]
   simp only [Option.bind_some]
   refine ev_pos trivial (Ev.bind (impl_num_ev s (by omega) (p + 1) false (by omega) (by omega)) ?_)
   rcases numB_cases s (p + 1) (by omega) (by omega) with h2 | ⟨co, j, h2, c0, c1, hj0, hj1, _⟩
   ·simp only [h2]
    exact ev_pos (by omega) (impl_rec_bad s (by omega) _ (p + 1) (by omega) (by omega) a b c d e _)
   ·simp only [h2]
    rw [w64 (x := n - 1) (by omega) (by omega)]
    exact ev_pos (by omega) (ih (n - 1) j _ (by omega) (by omega) (by omega) (by omega) (by omega) (by simp; omega) (by simp; omega))
theorem spec_rec_long (s : ByteArray) (hs : s.size ≤ 1048576) (a b c d e n : Int) (m : Nat) : ∀ (i : Nat) (p : Int) (l : List S63), i + m = 50 → 0 ≤ p → p ≤ s.size → 7 ≤ l.length → l.length ≤ i →
  Ev (fun k => spec_ReadRecord.l0 k s n i s p false a b c d e l 0 false) zRec := by
 induction m with
 | zero =>
  intro i p l hi h0 h1 hl hli
  apply ev_succ
  simp only [spec_ReadRecord.l0, Bool.not_false]
  exact ev_ite (fun _ => ev_neg (by omega) (spec_rec_end s (by omega) n i p h0 h1 a b c d e l (by omega) (long_no hl))) (fun _ => spec_rec_end s (by omega) n i p h0 h1 a b c d e l (by omega) (long_no hl))
 | succ m ih =>
  intro i p l hi h0 h1 hl hli
  apply ev_succ
  simp only [spec_ReadRecord.l0, Bool.not_false]
  refine ev_ite (fun _ => ev_pos (by omega) ?_) (fun _ => spec_rec_end s (by omega) n i p h0 h1 a b c d e l (by omega) (long_no hl))
  apply ev_succ
  simp only [spec_ReadRecord.j1]
  have ew : wrap64 ((i : Int) + 1) = ((i + 1 : Nat) : Int) := by rw [w64 (by omega) (by omega)]; omega
  rcases oneB_cases s p h0 h1 with h | ⟨r, h, r0, r1, hp, _⟩
  ·rw [spec_one_eq s (by omega) p false h0 h1, h]
   simp only [Option.bind_some]
   refine ev_pos trivial (Ev.bind (spec_num_ev s (by omega) p true h0 h1) ?_)
   simp only [numB_bad]
   exact ev_pos (by omega) (spec_rec_bad s (by omega) _ _ p h0 h1 a b c d e _ (by simp; omega))
  ·rw [spec_one_eq s (by omega) p false h0 h1, h]
   simp only [Option.bind_some]
   refine ev_pos trivial (Ev.bind (spec_num_ev s (by omega) (p + 1) false (by omega) (by omega)) ?_)
   rcases numB_cases s (p + 1) (by omega) (by omega) with h2 | ⟨co, j, h2, c0, c1, hj0, hj1, _⟩
   ·simp only [h2]
    exact ev_pos (by omega) (spec_rec_bad s (by omega) _ _ (p + 1) (by omega) (by omega) a b c d e _ (by simp; omega))
   ·simp only [h2]
    rw [ew]
    exact ev_pos (by omega) (ih (i + 1) j _ (by omega) (by omega) (by omega) (by simp; omega) (by simp; omega))
theorem nearT_snoc (l : List S63) (x : S63) (h0 : 0 ≤ x.f0) (h1 : x.f0 < 256) : nearT (l ++ [x]) = nearT l ++ ([x.f0] ++ varN x.f1) := by
 have hx : x.f0 % 256 = x.f0 := by omega
 induction l with
 | nil => simp [nearT, hx]
 | cons y l ih => simp only [List.cons_append, nearT, ih]; simp
/-- The end of a reading in which nothing was bad so far. -/
theorem rec_end (s : ByteArray) (hs : s.size ≤ 1048576) (n i p : Int) (h0 : 0 ≤ p) (h1 : p ≤ s.size) (a b c d e : Int) (l : List S63) (hl : l.length ≤ 7)
  (ha : 0 ≤ a ∧ a < 256) (hb : 0 ≤ b ∧ b < 256) (hc : 0 ≤ c ∧ c < 256) (hd : 0 ≤ d ∧ d < 256) (hI : (B s).take p.toNat = [a, b, c, d] ++ varN e ++ varN (l.length : Int) ++ nearT l) :
  ∃ R : Int × Int × Int × Int × Int × (List S63) × Int × Bool × Bool, Ev (fun k => impl_ReadRecord.j1 k s n false s p false a b c d e l 0 false) R ∧ Ev (fun k => spec_ReadRecord.j1 k s n i false s p false a b c d e l 0 false) R ∧ goodR s R := by
 rcases numB_cases s p h0 h1 with h | ⟨co, j, h, c0, c1, hj0, hj1, hco⟩
 ·refine ⟨zRec, ?_, ?_, goodR_z s⟩
  ·apply ev_succ
   simp only [impl_ReadRecord.j1]
   refine ev_neg (by decide) (Ev.bind (impl_num_ev s (by omega) p false h0 h1) ?_)
   simp only [h, impl_one_eq s (by omega) p true h0 h1, Option.bind_some, oneB_bad]
   exact ev_pos (by simp) (Ev.now _)
  ·apply ev_succ
   simp only [spec_ReadRecord.j1]
   refine ev_neg (by decide) (Ev.bind (spec_num_ev s (by omega) p false h0 h1) ?_)
   simp only [h, spec_one_eq s (by omega) p true h0 h1, Option.bind_some, oneB_bad]
   obtain ⟨r, hr⟩ := spec_text_some a b c d e l 0 ((0 : Int) == 1) (by omega)
   exact Ev.bind hr (ev_pos (by simp) (Ev.now _))
 ·rcases oneB_cases s j (by omega) (by omega) with h2 | ⟨fb, h2, f0, f1, hj2, hfb⟩
  ·refine ⟨zRec, ?_, ?_, goodR_z s⟩
   ·apply ev_succ
    simp only [impl_ReadRecord.j1]
    refine ev_neg (by decide) (Ev.bind (impl_num_ev s (by omega) p false h0 h1) ?_)
    simp only [h, impl_one_eq s (by omega) j false (by omega) (by omega), Option.bind_some, h2]
    exact ev_pos (by simp) (Ev.now _)
   ·apply ev_succ
    simp only [spec_ReadRecord.j1]
    refine ev_neg (by decide) (Ev.bind (spec_num_ev s (by omega) p false h0 h1) ?_)
    simp only [h, spec_one_eq s (by omega) j false (by omega) (by omega), Option.bind_some, h2]
    obtain ⟨r, hr⟩ := spec_text_some a b c d e l co ((0 : Int) == 1) (by omega)
    exact Ev.bind hr (ev_pos (by simp) (Ev.now _))
  ·have hall : B s = ([a, b, c, d] ++ varN e ++ varN (l.length : Int) ++ nearT l ++ varN co ++ [fb]) ++ (B s).drop (j + 1).toNat := by
    have := (List.take_append_drop (j + 1).toNat (B s)).symm
    rw [hfb, hco, hI] at this
    exact this
   have hlen : ((B s).drop (j + 1).toNat).length = s.size - (j + 1).toNat := by rw [List.length_drop, B_len]
   by_cases hrec : recB a b c d e l co (fb == 1) = true
   ·have hfacts := recB_facts hrec
    have ht : recT a b c d e l co (fb == 1) = [a, b, c, d] ++ varN e ++ varN (l.length : Int) ++ nearT l ++ varN co ++ farT (fb == 1) := by
     unfold recT
     rw [show a % 256 = a by omega, show b % 256 = b by omega, show c % 256 = c by omega, show d % 256 = d by omega]
    have hbyt : Byt (recT a b c d e l co (fb == 1)) := by
     have h3 := B_byt s; rw [hall] at h3
     rw [ht]
     intro x hx
     rcases List.mem_append.1 hx with hx | hx
     ·exact h3 x (List.mem_append_left _ (List.mem_append_left _ hx))
     ·unfold farT at hx
      simp only [List.mem_singleton] at hx
      rw [hx]; split <;> omega
    by_cases hg : fb ≤ 1 ∧ j + 1 = (s.size : Int)
    ·have hdr : (B s).drop (j + 1).toNat = [] := List.eq_nil_of_length_eq_zero (by omega)
     have hfar : farT (fb == 1) = [fb] := by
      unfold farT
      by_cases h3 : fb = 1
      ·rw [h3]; rfl
      ·have h4 : fb = 0 := by omega
       rw [h4]; rfl
     have hst : (strOfNums (recT a b c d e l co (fb == 1))).toList = s.toList := by
      rw [tl_iff, B_str _ hbyt, ht, hfar, hall, hdr, List.append_nil]
     refine ⟨(a, b, c, d, e, l, co, (fb == 1), true), ?_, ?_, hl, fun _ => ⟨hrec, hst⟩, fun h => by simp at h⟩
     ·apply ev_succ
      simp only [impl_ReadRecord.j1]
      refine ev_neg (by decide) (Ev.bind (impl_num_ev s (by omega) p false h0 h1) ?_)
      simp only [h, impl_one_eq s (by omega) j false (by omega) (by omega), Option.bind_some, h2]
      refine ev_neg (by decide) (ev_neg (by omega) (ev_pos hg.2 (Ev.bind (impl_RecordOk_ev a b c d e l co (fb == 1) (by omega)) (ev_pos hrec (Ev.now _)))))
     ·apply ev_succ
      simp only [spec_ReadRecord.j1]
      refine ev_neg (by decide) (Ev.bind (spec_num_ev s (by omega) p false h0 h1) ?_)
      simp only [h, spec_one_eq s (by omega) j false (by omega) (by omega), Option.bind_some, h2]
      exact Ev.bind (spec_RecordText_yes a b c d e l co (fb == 1) (by omega) hrec) (ev_neg (by decide) (ev_pos rfl (ev_pos hst (Ev.now _))))
    ·have hst : ¬ (strOfNums (recT a b c d e l co (fb == 1))).toList = s.toList := by
      rw [tl_iff, B_str _ hbyt, ht, hall]
      intro he
      rw [List.append_assoc _ [fb]] at he
      have h5 := List.append_cancel_left he
      unfold farT at h5
      simp only [List.cons_append, List.nil_append] at h5
      injection h5 with h6 h7
      have h8 := congrArg List.length h7; rw [hlen] at h8
      simp only [List.length_nil] at h8
      refine hg ⟨?_, by omega⟩
      rw [← h6]; split <;> omega
     refine ⟨zRec, ?_, ?_, goodR_z s⟩
     ·apply ev_succ
      simp only [impl_ReadRecord.j1]
      refine ev_neg (by decide) (Ev.bind (impl_num_ev s (by omega) p false h0 h1) ?_)
      simp only [h, impl_one_eq s (by omega) j false (by omega) (by omega), Option.bind_some, h2]
      refine ev_neg (by decide) (ev_ite (fun _ => Ev.now _) (fun h9 => ev_neg (by omega) (Ev.now _)))
     ·apply ev_succ
      simp only [spec_ReadRecord.j1]
      refine ev_neg (by decide) (Ev.bind (spec_num_ev s (by omega) p false h0 h1) ?_)
      simp only [h, spec_one_eq s (by omega) j false (by omega) (by omega), Option.bind_some, h2]
      exact Ev.bind (spec_RecordText_yes a b c d e l co (fb == 1) (by omega) hrec) (ev_neg (by decide) (ev_pos rfl (ev_neg hst (Ev.now _))))
   ·refine ⟨zRec, ?_, ?_, goodR_z s⟩
    ·apply ev_succ
     simp only [impl_ReadRecord.j1]
     refine ev_neg (by decide) (Ev.bind (impl_num_ev s (by omega) p false h0 h1) ?_)
     simp only [h, impl_one_eq s (by omega) j false (by omega) (by omega), Option.bind_some, h2]
     refine ev_neg (by decide) (ev_ite (fun _ => Ev.now _) (fun _ => ev_ite (fun _ => ?_) (fun _ => Ev.now _)))
     exact Ev.bind (impl_RecordOk_ev a b c d e l co (fb == 1) (by omega)) (ev_neg hrec (Ev.now _))
    ·apply ev_succ
     simp only [spec_ReadRecord.j1]
     refine ev_neg (by decide) (Ev.bind (spec_num_ev s (by omega) p false h0 h1) ?_)
     simp only [h, spec_one_eq s (by omega) j false (by omega) (by omega), Option.bind_some, h2]
     exact Ev.bind (spec_RecordText_no a b c d e l co (fb == 1) (by omega) hrec) (ev_neg (by decide) (ev_neg (by decide) (Ev.now _)))
/-- Both readings, in step. -/
theorem rec_loop (s : ByteArray) (hs : s.size ≤ 1048576) (a b c d e n : Int) (ha : 0 ≤ a ∧ a < 256) (hb : 0 ≤ b ∧ b < 256) (hc : 0 ≤ c ∧ c < 256) (hd : 0 ≤ d ∧ d < 256) (hn0 : 0 ≤ n) (hn1 : n ≤ 1000000000) (m : Nat) :
  ∀ (l : List S63) (p : Int), l.length + m = 7 → (l.length : Int) ≤ n → 0 ≤ p → p ≤ s.size → (B s).take p.toNat = [a, b, c, d] ++ varN e ++ varN n ++ nearT l →
  ∃ R : Int × Int × Int × Int × Int × (List S63) × Int × Bool × Bool, Ev (fun k => impl_ReadRecord.l0 k s (n - l.length) s p false a b c d e l 0 false) R ∧ Ev (fun k => spec_ReadRecord.l0 k s n (l.length : Int) s p false a b c d e l 0 false) R ∧ goodR s R := by
 induction m with
 | zero =>
  intro l p hl hln h0 h1 hI
  exact ⟨zRec, impl_rec_long s hs a b c d e s.size (n - l.length) p l h0 h1 (by omega) (by omega) (by omega) (by omega) (by omega), spec_rec_long s hs a b c d e n 43 l.length p l (by omega) h0 h1 (by omega) (by omega), goodR_z s⟩
 | succ m ih =>
  intro l p hl hln h0 h1 hI
  by_cases he : (l.length : Int) = n
  ·obtain ⟨R, r1, r2, r3⟩ := rec_end s hs (n - l.length) l.length p h0 h1 a b c d e l (by omega) ha hb hc hd (by rw [he]; exact hI)
   obtain ⟨R', r1', r2', r3'⟩ := rec_end s hs n l.length p h0 h1 a b c d e l (by omega) ha hb hc hd (by rw [he]; exact hI)
   have hj : ∀ x y : Int, (fun k => impl_ReadRecord.j1 k s x false s p false a b c d e l 0 false) = (fun k => impl_ReadRecord.j1 k s y false s p false a b c d e l 0 false) := by
    intro x y; funext k; cases k with
    | zero => rfl
    | succ k => simp only [impl_ReadRecord.j1]; rw [if_neg (by decide), if_neg (by decide)]
   have eR : R = R' := evUnique r1 (by rw [hj (n - l.length) n]; exact r1')
   subst eR
   refine ⟨R, ev_succ ?_, ev_succ ?_, r3⟩
   ·simp only [impl_ReadRecord.l0]
    exact ev_neg (by omega) r1
   ·simp only [spec_ReadRecord.l0]
    exact ev_neg (by omega) r2'
  ·have ew : wrap64 ((l.length : Int) + 1) = (l.length : Int) + 1 := w64 (by omega) (by omega)
   have ew2 : wrap64 (n - l.length - 1) = n - l.length - 1 := w64 (by omega) (by omega)
   rcases oneB_cases s p h0 h1 with h | ⟨r, h, r0, r1, hp, hr⟩
   ·refine ⟨zRec, ev_succ ?_, ev_succ ?_, goodR_z s⟩
    ·simp only [impl_ReadRecord.l0, Bool.not_false]
     refine ev_pos (by omega) (ev_succ ?_)
     simp only [impl_ReadRecord.j1]
     rw [impl_one_eq s (by omega) p false h0 h1, h]
     simp only [Option.bind_some]
     refine ev_pos trivial (Ev.bind (impl_num_ev s (by omega) p true h0 h1) ?_)
     simp only [numB_bad]
     exact ev_pos (by omega) (impl_rec_bad s (by omega) _ p h0 h1 a b c d e _)
    ·simp only [spec_ReadRecord.l0, Bool.not_false]
     refine ev_pos (by omega) (ev_pos (by omega) (ev_succ ?_))
     simp only [spec_ReadRecord.j1]
     rw [spec_one_eq s (by omega) p false h0 h1, h]
     simp only [Option.bind_some]
     refine ev_pos trivial (Ev.bind (spec_num_ev s (by omega) p true h0 h1) ?_)
     simp only [numB_bad]
     exact ev_pos (by omega) (spec_rec_bad s (by omega) _ _ p h0 h1 a b c d e _ (by simp; omega))
   ·rcases numB_cases s (p + 1) (by omega) (by omega) with h2 | ⟨co, j, h2, c0, c1, hj0, hj1, hco⟩
    ·refine ⟨zRec, ev_succ ?_, ev_succ ?_, goodR_z s⟩
     ·simp only [impl_ReadRecord.l0, Bool.not_false]
      refine ev_pos (by omega) (ev_succ ?_)
      simp only [impl_ReadRecord.j1]
      rw [impl_one_eq s (by omega) p false h0 h1, h]
      simp only [Option.bind_some]
      refine ev_pos trivial (Ev.bind (impl_num_ev s (by omega) (p + 1) false (by omega) (by omega)) ?_)
      simp only [h2]
      exact ev_pos (by omega) (impl_rec_bad s (by omega) _ (p + 1) (by omega) (by omega) a b c d e _)
     ·simp only [spec_ReadRecord.l0, Bool.not_false]
      refine ev_pos (by omega) (ev_pos (by omega) (ev_succ ?_))
      simp only [spec_ReadRecord.j1]
      rw [spec_one_eq s (by omega) p false h0 h1, h]
      simp only [Option.bind_some]
      refine ev_pos trivial (Ev.bind (spec_num_ev s (by omega) (p + 1) false (by omega) (by omega)) ?_)
      simp only [h2]
      exact ev_pos (by omega) (spec_rec_bad s (by omega) _ _ (p + 1) (by omega) (by omega) a b c d e _ (by simp; omega))
    ·obtain ⟨R, q1, q2, q3⟩ := ih (l ++ [(⟨r, co⟩ : S63)]) j (by simp; omega) (by simp; omega) (by omega) (by omega) (by
      rw [hco, hr, hI, nearT_snoc l ⟨r, co⟩ r0 r1]; simp)
     have e1 : ((l ++ [(⟨r, co⟩ : S63)]).length : Int) = (l.length : Int) + 1 := by simp
     have e2 : n - ((l.length : Int) + 1) = n - l.length - 1 := by omega
     rw [e1, e2] at q1; rw [e1] at q2
     refine ⟨R, ev_succ ?_, ev_succ ?_, q3⟩
     ·simp only [impl_ReadRecord.l0, Bool.not_false]
      refine ev_pos (by omega) (ev_succ ?_)
      simp only [impl_ReadRecord.j1]
      rw [impl_one_eq s (by omega) p false h0 h1, h]
      simp only [Option.bind_some]
      refine ev_pos trivial (Ev.bind (impl_num_ev s (by omega) (p + 1) false (by omega) (by omega)) ?_)
      simp only [h2]
      rw [ew2]
      exact ev_pos (by omega) q1
     ·simp only [spec_ReadRecord.l0, Bool.not_false]
      refine ev_pos (by omega) (ev_pos (by omega) (ev_succ ?_))
      simp only [spec_ReadRecord.j1]
      rw [spec_one_eq s (by omega) p false h0 h1, h]
      simp only [Option.bind_some]
      refine ev_pos trivial (Ev.bind (spec_num_ev s (by omega) (p + 1) false (by omega) (by omega)) ?_)
      simp only [h2]
      rw [ew]
      exact ev_pos (by omega) q2
/-- Both readings of a record answer alike. -/
theorem readrec_ev (s : ByteArray) (hs : s.size ≤ 1048576) : ∃ R : Int × Int × Int × Int × Int × (List S63) × Int × Bool × Bool, Ev (fun k => impl_ReadRecord.f k s) R ∧ Ev (fun k => spec_ReadRecord.f k s) R ∧ goodR s R := by
 unfold impl_ReadRecord.f spec_ReadRecord.f
 rcases oneB_cases s 0 (by omega) (by omega) with h0 | ⟨a, h0, a0, a1, hl0, ht0⟩
 ·refine ⟨zRec, ?_, ?_, goodR_z s⟩
  ·simp only [impl_one_eq s (by omega) 0 false (by omega) (by omega), h0, impl_one_eq s (by omega) 0 true (by omega) (by omega), oneB_bad, Option.bind_some]
   refine Ev.bind (impl_num_ev s (by omega) 0 true (by omega) (by omega)) ?_
   simp only [numB_bad]
   refine Ev.bind (impl_num_ev s (by omega) 0 true (by omega) (by omega)) ?_
   simp only [numB_bad]
   exact impl_rec_bad s (by omega) _ 0 (by omega) (by omega) _ _ _ _ _ _
  ·simp only [spec_one_eq s (by omega) 0 false (by omega) (by omega), h0, spec_one_eq s (by omega) 0 true (by omega) (by omega), oneB_bad, Option.bind_some]
   refine Ev.bind (spec_num_ev s (by omega) 0 true (by omega) (by omega)) ?_
   simp only [numB_bad]
   refine Ev.bind (spec_num_ev s (by omega) 0 true (by omega) (by omega)) ?_
   simp only [numB_bad]
   exact spec_rec_bad s (by omega) _ _ 0 (by omega) (by omega) _ _ _ _ _ _ (by simp)
 ·obtain ⟨p1, hp1⟩ : ∃ q : Int, q = 0 + 1 := ⟨_, rfl⟩
  rw [← hp1] at h0 ht0
  rcases oneB_cases s p1 (by omega) (by omega) with h1 | ⟨b, h1, b0, b1, hl1, ht1⟩
  ·refine ⟨zRec, ?_, ?_, goodR_z s⟩
   ·simp only [impl_one_eq s (by omega) 0 false (by omega) (by omega), impl_one_eq s (by omega) p1 false (by omega) (by omega), h0, h1, impl_one_eq s (by omega) p1 true (by omega) (by omega), oneB_bad, Option.bind_some]
    refine Ev.bind (impl_num_ev s (by omega) p1 true (by omega) (by omega)) ?_
    simp only [numB_bad]
    refine Ev.bind (impl_num_ev s (by omega) p1 true (by omega) (by omega)) ?_
    simp only [numB_bad]
    exact impl_rec_bad s (by omega) _ p1 (by omega) (by omega) _ _ _ _ _ _
   ·simp only [spec_one_eq s (by omega) 0 false (by omega) (by omega), spec_one_eq s (by omega) p1 false (by omega) (by omega), h0, h1, spec_one_eq s (by omega) p1 true (by omega) (by omega), oneB_bad, Option.bind_some]
    refine Ev.bind (spec_num_ev s (by omega) p1 true (by omega) (by omega)) ?_
    simp only [numB_bad]
    refine Ev.bind (spec_num_ev s (by omega) p1 true (by omega) (by omega)) ?_
    simp only [numB_bad]
    exact spec_rec_bad s (by omega) _ _ p1 (by omega) (by omega) _ _ _ _ _ _ (by simp)
  ·obtain ⟨p2, hp2⟩ : ∃ q : Int, q = p1 + 1 := ⟨_, rfl⟩
   rw [← hp2] at h1 ht1
   rcases oneB_cases s p2 (by omega) (by omega) with h2 | ⟨c, h2, c0, c1, hl2, ht2⟩
   ·refine ⟨zRec, ?_, ?_, goodR_z s⟩
    ·simp only [impl_one_eq s (by omega) 0 false (by omega) (by omega), impl_one_eq s (by omega) p1 false (by omega) (by omega), impl_one_eq s (by omega) p2 false (by omega) (by omega), h0, h1, h2, impl_one_eq s (by omega) p2 true (by omega) (by omega), oneB_bad, Option.bind_some]
     refine Ev.bind (impl_num_ev s (by omega) p2 true (by omega) (by omega)) ?_
     simp only [numB_bad]
     refine Ev.bind (impl_num_ev s (by omega) p2 true (by omega) (by omega)) ?_
     simp only [numB_bad]
     exact impl_rec_bad s (by omega) _ p2 (by omega) (by omega) _ _ _ _ _ _
    ·simp only [spec_one_eq s (by omega) 0 false (by omega) (by omega), spec_one_eq s (by omega) p1 false (by omega) (by omega), spec_one_eq s (by omega) p2 false (by omega) (by omega), h0, h1, h2, spec_one_eq s (by omega) p2 true (by omega) (by omega), oneB_bad, Option.bind_some]
     refine Ev.bind (spec_num_ev s (by omega) p2 true (by omega) (by omega)) ?_
     simp only [numB_bad]
     refine Ev.bind (spec_num_ev s (by omega) p2 true (by omega) (by omega)) ?_
     simp only [numB_bad]
     exact spec_rec_bad s (by omega) _ _ p2 (by omega) (by omega) _ _ _ _ _ _ (by simp)
   ·obtain ⟨p3, hp3⟩ : ∃ q : Int, q = p2 + 1 := ⟨_, rfl⟩
    rw [← hp3] at h2 ht2
    rcases oneB_cases s p3 (by omega) (by omega) with h3 | ⟨d, h3, d0, d1, hl3, ht3⟩
    ·refine ⟨zRec, ?_, ?_, goodR_z s⟩
     ·simp only [impl_one_eq s (by omega) 0 false (by omega) (by omega), impl_one_eq s (by omega) p1 false (by omega) (by omega), impl_one_eq s (by omega) p2 false (by omega) (by omega), impl_one_eq s (by omega) p3 false (by omega) (by omega), h0, h1, h2, h3, impl_one_eq s (by omega) p3 true (by omega) (by omega), oneB_bad, Option.bind_some]
      refine Ev.bind (impl_num_ev s (by omega) p3 true (by omega) (by omega)) ?_
      simp only [numB_bad]
      refine Ev.bind (impl_num_ev s (by omega) p3 true (by omega) (by omega)) ?_
      simp only [numB_bad]
      exact impl_rec_bad s (by omega) _ p3 (by omega) (by omega) _ _ _ _ _ _
     ·simp only [spec_one_eq s (by omega) 0 false (by omega) (by omega), spec_one_eq s (by omega) p1 false (by omega) (by omega), spec_one_eq s (by omega) p2 false (by omega) (by omega), spec_one_eq s (by omega) p3 false (by omega) (by omega), h0, h1, h2, h3, spec_one_eq s (by omega) p3 true (by omega) (by omega), oneB_bad, Option.bind_some]
      refine Ev.bind (spec_num_ev s (by omega) p3 true (by omega) (by omega)) ?_
      simp only [numB_bad]
      refine Ev.bind (spec_num_ev s (by omega) p3 true (by omega) (by omega)) ?_
      simp only [numB_bad]
      exact spec_rec_bad s (by omega) _ _ p3 (by omega) (by omega) _ _ _ _ _ _ (by simp)
    ·obtain ⟨p4, hp4⟩ : ∃ q : Int, q = p3 + 1 := ⟨_, rfl⟩
     rw [← hp4] at h3 ht3
     rcases numB_cases s p4 (by omega) (by omega) with h4 | ⟨e, p5, h4, e0, e1, hl4, hm4, ht4⟩
     ·refine ⟨zRec, ?_, ?_, goodR_z s⟩
      ·simp only [impl_one_eq s (by omega) 0 false (by omega) (by omega), impl_one_eq s (by omega) p1 false (by omega) (by omega), impl_one_eq s (by omega) p2 false (by omega) (by omega), impl_one_eq s (by omega) p3 false (by omega) (by omega), h0, h1, h2, h3, Option.bind_some]
       refine Ev.bind (impl_num_ev s (by omega) p4 false (by omega) (by omega)) ?_
       simp only [h4]
       refine Ev.bind (impl_num_ev s (by omega) p4 true (by omega) (by omega)) ?_
       simp only [numB_bad]
       exact impl_rec_bad s (by omega) _ p4 (by omega) (by omega) _ _ _ _ _ _
      ·simp only [spec_one_eq s (by omega) 0 false (by omega) (by omega), spec_one_eq s (by omega) p1 false (by omega) (by omega), spec_one_eq s (by omega) p2 false (by omega) (by omega), spec_one_eq s (by omega) p3 false (by omega) (by omega), h0, h1, h2, h3, Option.bind_some]
       refine Ev.bind (spec_num_ev s (by omega) p4 false (by omega) (by omega)) ?_
       simp only [h4]
       refine Ev.bind (spec_num_ev s (by omega) p4 true (by omega) (by omega)) ?_
       simp only [numB_bad]
       exact spec_rec_bad s (by omega) _ _ p4 (by omega) (by omega) _ _ _ _ _ _ (by simp)
     ·skip
      rcases numB_cases s p5 (by omega) (by omega) with h5 | ⟨n, p6, h5, n0, n1, hl5, hm5, ht5⟩
      ·refine ⟨zRec, ?_, ?_, goodR_z s⟩
       ·simp only [impl_one_eq s (by omega) 0 false (by omega) (by omega), impl_one_eq s (by omega) p1 false (by omega) (by omega), impl_one_eq s (by omega) p2 false (by omega) (by omega), impl_one_eq s (by omega) p3 false (by omega) (by omega), h0, h1, h2, h3, Option.bind_some]
        refine Ev.bind (impl_num_ev s (by omega) p4 false (by omega) (by omega)) ?_
        simp only [h4]
        refine Ev.bind (impl_num_ev s (by omega) p5 false (by omega) (by omega)) ?_
        simp only [h5]
        exact impl_rec_bad s (by omega) _ p5 (by omega) (by omega) _ _ _ _ _ _
       ·simp only [spec_one_eq s (by omega) 0 false (by omega) (by omega), spec_one_eq s (by omega) p1 false (by omega) (by omega), spec_one_eq s (by omega) p2 false (by omega) (by omega), spec_one_eq s (by omega) p3 false (by omega) (by omega), h0, h1, h2, h3, Option.bind_some]
        refine Ev.bind (spec_num_ev s (by omega) p4 false (by omega) (by omega)) ?_
        simp only [h4]
        refine Ev.bind (spec_num_ev s (by omega) p5 false (by omega) (by omega)) ?_
        simp only [h5]
        exact spec_rec_bad s (by omega) _ _ p5 (by omega) (by omega) _ _ _ _ _ _ (by simp)
      ·have hz : (B s).take (0 : Int).toNat = [] := by rfl
       have hI : (B s).take p6.toNat = [a, b, c, d] ++ varN e ++ varN n ++ nearT ([] : List S63) := by
        rw [ht5, ht4, ht3, ht2, ht1, ht0, hz]; simp [nearT]
       obtain ⟨R, r1, r2, r3⟩ := rec_loop s hs a b c d e n ⟨a0, a1⟩ ⟨b0, b1⟩ ⟨c0, c1⟩ ⟨d0, d1⟩ n0 n1 7 [] p6 (by simp) (by simp; omega) (by omega) (by omega) hI
       refine ⟨R, ?_, ?_, r3⟩
       ·simp only [impl_one_eq s (by omega) 0 false (by omega) (by omega), impl_one_eq s (by omega) p1 false (by omega) (by omega), impl_one_eq s (by omega) p2 false (by omega) (by omega), impl_one_eq s (by omega) p3 false (by omega) (by omega), h0, h1, h2, h3, Option.bind_some]
        refine Ev.bind (impl_num_ev s (by omega) p4 false (by omega) (by omega)) ?_
        simp only [h4]
        refine Ev.bind (impl_num_ev s (by omega) p5 false (by omega) (by omega)) ?_
        simp only [h5]
        have eq0 : n - ((List.length ([] : List S63) : Nat) : Int) = n := by simp
        rw [eq0] at r1
        exact r1
       ·simp only [spec_one_eq s (by omega) 0 false (by omega) (by omega), spec_one_eq s (by omega) p1 false (by omega) (by omega), spec_one_eq s (by omega) p2 false (by omega) (by omega), spec_one_eq s (by omega) p3 false (by omega) (by omega), h0, h1, h2, h3, Option.bind_some]
        refine Ev.bind (spec_num_ev s (by omega) p4 false (by omega) (by omega)) ?_
        simp only [h4]
        refine Ev.bind (spec_num_ev s (by omega) p5 false (by omega) (by omega)) ?_
        simp only [h5]
        exact r2

theorem nearT_len (l : List S63) : (nearT l).length ≤ 11 * l.length := by
 induction l with
 | nil => simp [nearT]
 | cons x l ih =>
  have := varN_len x.f1
  simp only [nearT, List.length_cons, List.length_append]; omega
theorem nearT_byt (l : List S63) : Byt (nearT l) := by
 induction l with
 | nil => intro x hx; cases hx
 | cons x l ih =>
  intro y hy
  rw [nearT] at hy
  rcases List.mem_cons.1 hy with rfl | hy
  ·omega
  ·exact byt_app (varN_byt _) ih y hy
theorem recT_byt (a b c d e : Int) (l : List S63) (co : Int) (fa : Bool) : Byt (recT a b c d e l co fa) := by
 unfold recT farT
 refine byt_app (byt_app (byt_app (byt_app (byt_app ?_ (varN_byt _)) (varN_byt _)) (nearT_byt _)) (varN_byt _)) ?_
 ·intro x hx
  simp only [List.mem_cons, List.not_mem_nil, or_false] at hx
  omega
 ·intro x hx
  simp only [List.mem_singleton] at hx
  rw [hx]; split <;> omega
theorem recT_len (a b c d e : Int) (l : List S63) (co : Int) (fa : Bool) : (recT a b c d e l co fa).length ≤ 35 + 11 * l.length := by
 have h1 := varN_len e; have h2 := varN_len (l.length : Int); have h3 := nearT_len l; have h4 := varN_len co
 unfold recT farT
 simp only [List.length_append, List.length_cons, List.length_nil]
 omega

theorem u32_ff : U32 4294967295 := by unfold U32; omega
def sumB (s : ByteArray) : Int := crcS (B s) 4294967295
def fourL (x : Int) : List Int := [(x / 16777216) % 256, (x / 65536) % 256, (x / 256) % 256, x % 256]
theorem fourL_byt (x : Int) : Byt (fourL x) := by
 intro y hy
 simp only [fourL, List.mem_cons, List.not_mem_nil, or_false] at hy
 omega
/-- A text with its sum. -/
def sealB (s : ByteArray) : ByteArray := s ++ strOfNums (fourL (sumB s))
theorem four_size (x : Int) : (strOfNums (fourL x)).size = 4 := by rw [Go.strOfNums_size]; rfl

theorem impl_SumMore_l1_ev (s : ByteArray) (m i : Int) (n : Nat) : ∀ (x j r : Int), U32 x → 0 ≤ j → j ≤ 8 → 8 - j = n →
  Ev (fun k => impl_SumMore.l0 k (crcN n x) s m (wrap64 (i + 1))) r → Ev (fun k => impl_SumMore.l1 k x s m i j) r := by
 induction n with
 | zero =>
  intro x j r hx h0 h1 hn h
  refine Ev.step (fun k => ?_) h
  simp only [impl_SumMore.l1]
  rw [if_neg (by omega)]
  rfl
 | succ n ih =>
  intro x j r hx h0 h1 hn h
  refine Ev.step (fun k => ?_) (ih (crc1 x) (j + 1) r (crc1_u32 hx) (by omega) (by omega) (by omega) h)
  simp only [impl_SumMore.l1]
  rw [if_pos (by omega), u32_and1 hx, w64 (by omega) (by omega)]
  unfold crc1
  by_cases hp : x % 2 = 1
  ·rw [if_pos hp, if_pos hp]
  ·rw [if_neg hp, if_neg hp]
theorem impl_SumMore_l0_ev (s : ByteArray) (hs : s.size ≤ 9223372036854775000) (d : Nat) : ∀ (x : Int) (i : Nat), U32 x → i + d = s.size →
  Ev (fun k => impl_SumMore.l0 k x s (s.size : Int) (i : Int)) (crcS ((B s).drop i) x) := by
 induction d with
 | zero =>
  intro x i hx hi
  rw [B_dropAll s i (by omega)]
  refine Ev.step (f := fun _ => some x) (fun k => ?_) (Ev.now _)
  simp only [impl_SumMore.l0]
  rw [if_neg (by omega)]
 | succ d ih =>
  intro x i hx hi
  have hlt : i < s.size := by omega
  rw [B_drop s i hlt, crcS]
  have h1 := ih (crcB x (bt s i)) (i + 1) (crcB_u32 _ _) (by omega)
  have h2 := impl_SumMore_l1_ev s (s.size : Int) i 8 (Go.bits .xor .u32 x (bt s i)) 0 _ (u32_bits _ _ _) (by omega) (by omega) (by omega)
   (by rw [w64 (by omega) (by omega)]; exact h1)
  refine Ev.step (fun k => ?_) h2
  simp only [impl_SumMore.l0]
  rw [if_pos (by omega), if_pos (by omega), if_pos (by omega), u32_mod (bt_b s i)]
theorem impl_SumMore_ev (x : Int) (s : ByteArray) (hx : U32 x) (hs : s.size ≤ 9223372036854775000) : Ev (fun k => impl_SumMore.f k x s) (crcS (B s) x) :=
 impl_SumMore_l0_ev s hs s.size x 0 hx (by omega)

theorem impl_SumOf_ev (s : ByteArray) (hs : s.size ≤ 9223372036854775000) : Ev (fun k => impl_SumOf.f k s) (sumB s) :=
 Ev.bind (f := fun _ t => some t) (impl_SumMore_ev _ s u32_ff hs) (Ev.now _)

theorem impl_Sealed_yes (s : ByteArray) (hs : s.size ≤ 20000) : Ev (fun k => impl_Sealed.f k s) (sealB s, true) := by
 unfold impl_Sealed.f
 refine ev_neg (by omega) ?_
 refine Ev.bind (impl_SumOf_ev s (by omega)) ?_
 refine Ev.bind (Ev.now _) (ev_pos ?_ (Ev.now _))
 have := four_size (sumB s)
 unfold fourL at this
 omega
theorem impl_Sealed_no (s : ByteArray) (hs : ¬ s.size ≤ 20000) : Ev (fun k => impl_Sealed.f k s) (⟨#[]⟩, false) := by
 unfold impl_Sealed.f
 exact ev_pos (by omega) (Ev.now _)

theorem spec_SumMore_l1_ev (s : ByteArray) (i : Int) (n : Nat) : ∀ (x j r : Int), U32 x → 0 ≤ j → j ≤ 8 → 8 - j = n →
  Ev (fun k => spec_SumMore.l0 k (crcN n x) s (wrap64 (i + 1))) r → Ev (fun k => spec_SumMore.l1 k x s i j) r := by
 induction n with
 | zero =>
  intro x j r hx h0 h1 hn h
  refine Ev.step (fun k => ?_) h
  simp only [spec_SumMore.l1]
  rw [if_neg (by omega)]
  rfl
 | succ n ih =>
  intro x j r hx h0 h1 hn h
  refine Ev.step (fun k => ?_) (ih (crc1 x) (j + 1) r (crc1_u32 hx) (by omega) (by omega) (by omega) h)
  have hx' := hx
  unfold U32 at hx'
  simp only [spec_SumMore.l1]
  rw [if_pos (by omega), tmodp hx'.1, tdivp hx'.1, w64 (by omega) (by omega), show x / 2 % 4294967296 = x / 2 by omega]
  unfold crc1
  by_cases hp : x % 2 = 1
  ·rw [if_pos hp, if_pos hp]
  ·rw [if_neg hp, if_neg hp]
theorem spec_SumMore_l0_ev (s : ByteArray) (hs : s.size ≤ 9223372036854775000) (d : Nat) : ∀ (x : Int) (i : Nat), U32 x → i + d = s.size →
  Ev (fun k => spec_SumMore.l0 k x s (i : Int)) (crcS ((B s).drop i) x) := by
 induction d with
 | zero =>
  intro x i hx hi
  rw [B_dropAll s i (by omega)]
  refine Ev.step (f := fun _ => some x) (fun k => ?_) (Ev.now _)
  simp only [spec_SumMore.l0]
  rw [if_neg (by omega)]
 | succ d ih =>
  intro x i hx hi
  have hlt : i < s.size := by omega
  rw [B_drop s i hlt, crcS]
  have h1 := ih (crcB x (bt s i)) (i + 1) (crcB_u32 _ _) (by omega)
  have h2 := spec_SumMore_l1_ev s i 8 (Go.bits .xor .u32 x (bt s i)) 0 _ (u32_bits _ _ _) (by omega) (by omega) (by omega)
   (by rw [w64 (by omega) (by omega)]; exact h1)
  refine Ev.step (fun k => ?_) h2
  simp only [spec_SumMore.l0]
  rw [if_pos (by omega), if_pos (by omega), u32_mod (bt_b s i)]
theorem spec_SumMore_ev (x : Int) (s : ByteArray) (hx : U32 x) (hs : s.size ≤ 9223372036854775000) : Ev (fun k => spec_SumMore.f k x s) (crcS (B s) x) :=
 spec_SumMore_l0_ev s hs s.size x 0 hx (by omega)

theorem spec_SumOf_ev (s : ByteArray) (hs : s.size ≤ 9223372036854775000) : Ev (fun k => spec_SumOf.f k s) (sumB s) :=
 Ev.bind (f := fun _ t => some t) (spec_SumMore_ev _ s u32_ff hs) (Ev.now _)

theorem spec_Sealed_yes (s : ByteArray) (hs : s.size ≤ 20000) : Ev (fun k => spec_Sealed.f k s) (sealB s, true) := by
 unfold spec_Sealed.f
 refine ev_neg (by omega) ?_
 refine Ev.bind (spec_SumOf_ev s (by omega)) ?_
 unfold spec_l02Four.f
 refine Ev.bind (Ev.now _) (ev_pos ?_ (Ev.now _))
 have := four_size (sumB s)
 unfold fourL at this
 omega
def recX (x : S24) : List Int := recT x.f0 x.f1 x.f2 x.f3 x.f4 x.f5 x.f6 x.f7
def oneT (x : S24) : List Int := varN ((recX x).length : Int) ++ recX x
def packL : List S24 → List Int
 | [] => []
 | x :: l => oneT x ++ packL l
def modL (l : List Int) : List Int := l.map (fun x => x % 256)
theorem modL_byt (l : List Int) : Byt (modL l) := by
 intro y hy
 obtain ⟨x, _, rfl⟩ := List.mem_map.1 hy
 omega
theorem recX_len (x : S24) (h : recR x = true) : (recX x).length ≤ 101 := by
 have h1 := recT_len x.f0 x.f1 x.f2 x.f3 x.f4 x.f5 x.f6 x.f7; have h2 := recB_len h
 unfold recX
 omega
theorem oneT_len (x : S24) (h : recR x = true) : (oneT x).length ≤ 111 := by
 have h1 := recX_len x h; have h2 := varN_len ((recX x).length : Int)
 unfold oneT
 rw [List.length_append]
 omega
theorem oneT_byt (x : S24) : Byt (oneT x) := byt_app (varN_byt _) (recT_byt _ _ _ _ _ _ _ _)
theorem storeGo_all (l : List S24) : ∀ p, storeGo p l = true → ∀ x ∈ l, recR x = true := by
 induction l with
 | nil => intro p _ x hx; cases hx
 | cons y l ih =>
  intro p h x hx
  rw [storeGo] at h
  simp only [Bool.and_eq_true] at h
  rcases List.mem_cons.1 hx with rfl | hx
  ·exact h.1.1
  ·exact ih _ h.2 x hx
theorem heardGo_len : ∀ (l : List Int) (q : Int), heardGo (some q) l = true → 0 ≤ q → q ≤ 6 → (l.length : Int) ≤ 6 - q
 | [], q, _, h0, h1 => by simp; omega
 | x :: l, q, h, h0, h1 => by
  rw [heardGo] at h
  simp only [Bool.and_eq_true, decide_eq_true_eq, Option.all_some] at h
  have h2 := heardGo_len l x h.2 (by omega) (by omega)
  have h3 : q < x := h.1.2
  simp only [List.length_cons]; omega
theorem heardB_len {l : List Int} (h : heardB l = true) : l.length ≤ 6 := by
 cases l with
 | nil => simp
 | cons x l =>
  unfold heardB at h
  rw [heardGo] at h
  simp only [Bool.and_eq_true, decide_eq_true_eq] at h
  have h2 := heardGo_len l x h.2 (by omega) (by omega)
  simp only [List.length_cons]; omega
theorem packB_facts {kd fr tn ar : Int} {hd : List Int} {l : List S24} (h : packB kd fr tn ar hd l = true) : 1 ≤ kd ∧ kd ≤ 3 ∧ 1 ≤ fr ∧ fr ≤ 6 ∧ 1 ≤ tn ∧ tn ≤ 6 ∧ 0 ≤ ar ∧ ar ≤ 2 ∧ hd.length ≤ 6 ∧ l.length ≤ 150 ∧ ∀ x ∈ l, recR x = true := by
 unfold packB coreB at h
 simp only [Bool.and_eq_true, decide_eq_true_eq] at h
 obtain ⟨h1, h2, h3, _, h5, h6⟩ := h
 refine ⟨h1.1, h1.2, h2.1, h2.2, h3.1, h3.2, h5.1, h5.2, ?_⟩
 by_cases hk : kd = 1
 ·rw [if_pos hk] at h6
  simp only [Bool.and_eq_true, decide_eq_true_eq] at h6
  have he : l = [] := List.eq_nil_of_length_eq_zero h6.2
  subst he
  exact ⟨heardB_len h6.1, by simp, by intro x hx; cases hx⟩
 ·rw [if_neg hk] at h6
  simp only [Bool.and_eq_true, decide_eq_true_eq] at h6
  obtain ⟨h7, h8, _⟩ := h6
  unfold storeB at h8
  simp only [Bool.and_eq_true, decide_eq_true_eq] at h8
  exact ⟨by omega, h8.1, storeGo_all l none h8.2⟩
theorem str_size (xs : List Int) : (strOfNums xs).size = xs.length := Go.strOfNums_size xs
def packT (kd fr tn ar : Int) (hd : List Int) (l : List S24) : List Int := [kd % 256, fr % 256, tn % 256, ar % 256] ++ varN (hd.length : Int) ++ modL hd ++ varN (l.length : Int) ++ packL l
theorem bytesOf_str (xs : List Int) (h : Byt xs) : bytesOf (strOfNums xs) = xs := B_str xs h
theorem spec_pack_l1_ev (kd fr tn ar : Int) (hd : List Int) (l : List S24) (hl : l.length ≤ 150) (hr : ∀ x ∈ l, recR x = true) (hs : ∀ x ∈ l, x.f5.length ≤ 1048576) (d : Nat) : ∀ (i : Nat) (acc : List Int), i + d = l.length → acc.length + 111 * d ≤ 19900 →
  Ev (fun k => spec_PacketText.l1 k acc i kd fr tn ar hd l) (sealB (strOfNums (acc ++ packL (l.drop i))), true) := by
 induction d with
 | zero =>
  intro i acc hi ha
  rw [List.drop_eq_nil_of_le (by omega), packL, List.append_nil]
  refine ev_succ ?_
  simp only [spec_PacketText.l1]
  have hS := spec_Sealed_yes (strOfNums acc) (by rw [str_size]; omega)
  rw [w64 (x := (acc.length : Int) + 4) (by omega) (by omega)]
  exact ev_neg (by omega) (ev_neg (by omega) (Ev.bind hS (Ev.now _)))
 | succ d ih =>
  intro i acc hi ha
  obtain ⟨x, hx⟩ : ∃ x, rd_T24 l (i : Int) = x := ⟨_, rfl⟩
  have hx2 : l.getD i z24 = x := hx
  have hm : x ∈ l := by rw [← hx2]; exact getD_mem l _ i (by omega)
  have hrx := hr x hm; have hlen := recX_len x hrx; have hone := oneT_len x hrx; have hR := spec_RecordText_yes x.f0 x.f1 x.f2 x.f3 x.f4 x.f5 x.f6 x.f7 (hs x hm) hrx
  have hS : Ev (fun k => spec_l04Short.f k (strOfNums (recX x))) (strOfNums (oneT x)) := by
   unfold spec_l04Short.f
   have hV := spec_l01Var_ev ((recX x).length : Int) (by omega) (by omega)
   have hv := varN_len ((recX x).length : Int)
   simp only [str_size, str_app]
   refine Ev.bind hV ?_
   simp only [str_size, str_app]
   exact ev_pos (by omega) (ev_some rfl)
  have hN := ih (i + 1) (acc ++ oneT x) (by omega) (by rw [List.length_append]; omega)
  rw [drop_at l z24 i (by omega), hx2, packL, ← List.append_assoc]
  refine ev_succ ?_
  simp only [spec_PacketText.l1, hx]
  rw [w64 (x := (i : Int) + 1) (by omega) (by omega)]
  refine ev_pos (by omega) (ev_pos (by omega) (Ev.bind hR (Ev.bind hS ?_)))
  simp only [bytesOf_str (oneT x) (oneT_byt x)]
  exact ev_pos (by rw [str_size]; omega) hN
theorem spec_pack_l0_ev (kd fr tn ar : Int) (hd : List Int) (l : List S24) (hh : hd.length ≤ 6) (hl : l.length ≤ 150) (hr : ∀ x ∈ l, recR x = true) (hs : ∀ x ∈ l, x.f5.length ≤ 1048576) (d : Nat) : ∀ (i : Nat) (acc : List Int), i + d = hd.length → acc.length + d ≤ 100 →
  Ev (fun k => spec_PacketText.l0 k acc i kd fr tn ar hd l) (sealB (strOfNums (acc ++ modL (hd.drop i) ++ varN (l.length : Int) ++ packL l)), true) := by
 induction d with
 | zero =>
  intro i acc hi ha
  rw [List.drop_eq_nil_of_le (by omega), show modL [] = [] from rfl, List.append_nil]
  have hv := varN_len (l.length : Int)
  have hV := spec_l01Var_ev (l.length : Int) (by omega) (by omega)
  have h1 := spec_pack_l1_ev kd fr tn ar hd l hl hr hs l.length 0 (acc ++ varN (l.length : Int)) (by omega) (by rw [List.length_append]; omega)
  refine ev_succ ?_
  simp only [spec_PacketText.l0]
  refine ev_neg (by omega) (Ev.bind hV ?_)
  simp only [bytesOf_str (varN (l.length : Int)) (varN_byt _)]
  exact ev_pos (by rw [str_size]; omega) h1
 | succ d ih =>
  intro i acc hi ha
  have hN := ih (i + 1) (acc ++ [hd.getD i 0 % 256]) (by omega) (by rw [List.length_append, List.length_singleton]; omega)
  rw [drop_at hd 0 i (by omega)]
  have hmod : acc ++ modL (hd.getD i 0 :: hd.drop (i + 1)) = acc ++ [hd.getD i 0 % 256] ++ modL (hd.drop (i + 1)) := by simp [modL]
  rw [hmod]
  refine ev_succ ?_
  simp only [spec_PacketText.l0, rdH]
  rw [w64 (x := (i : Int) + 1) (by omega) (by omega)]
  exact ev_pos (by omega) (ev_pos (by omega) (ev_pos (by omega) hN))
theorem spec_pack_yes (kd fr tn ar : Int) (hd : List Int) (l : List S24) (hs : Small l) (h : packB kd fr tn ar hd l = true) : Ev (fun k => spec_PacketText.f k kd fr tn ar hd l) (sealB (strOfNums (packT kd fr tn ar hd l)), true) := by
 obtain ⟨k0, k1, f0, f1, t0, t1, a0, a1, hh, hl, hr⟩ := packB_facts h; have hv := varN_len (hd.length : Int)
 have hP := spec_PacketOk_ev kd fr tn ar hd l (by omega) hs
 rw [h] at hP
 have hV := spec_l01Var_ev (hd.length : Int) (by omega) (by omega)
 have h0 := spec_pack_l0_ev kd fr tn ar hd l hh hl hr hs.2 hd.length 0 ([kd % 256, fr % 256, tn % 256, ar % 256] ++ varN (hd.length : Int)) (by omega) (by simp only [List.length_append, List.length_cons, List.length_nil]; omega)
 have hb : bytesOf (strOfNums ([kd % 256, fr % 256, tn % 256, ar % 256] ++ varN (hd.length : Int))) = [kd % 256, fr % 256, tn % 256, ar % 256] ++ varN (hd.length : Int) := bytesOf_str _ (byt_app (modL_byt [kd, fr, tn, ar]) (varN_byt _))
 unfold spec_PacketText.f
 refine Ev.bind hP (ev_pos rfl ?_)
 simp only [spec_l04Byte.f, Option.bind_some, str_app, str_size, List.length_append, List.length_cons, List.length_nil]
 refine ev_pos (by omega) (ev_pos (by omega) (ev_pos (by omega) (Ev.bind hV ?_)))
 simp only [str_app, str_size, List.length_append, List.length_cons, List.length_nil]
 refine ev_pos (by omega) (ev_pos (by omega) ?_)
 rw [show [kd % 256] ++ [fr % 256] ++ [tn % 256] ++ [ar % 256] ++ varN (hd.length : Int) = [kd % 256, fr % 256, tn % 256, ar % 256] ++ varN (hd.length : Int) from rfl, hb]
 exact h0
theorem spec_pack_no (kd fr tn ar : Int) (hd : List Int) (l : List S24) (hh : hd.length ≤ 9223372036854775000) (hs : Small l) (h : ¬ packB kd fr tn ar hd l = true) : Ev (fun k => spec_PacketText.f k kd fr tn ar hd l) (⟨#[]⟩, false) := by
 unfold spec_PacketText.f
 exact Ev.bind (spec_PacketOk_ev kd fr tn ar hd l hh hs) (ev_neg h (Ev.now _))
theorem spec_pack_some (kd fr tn ar : Int) (hd : List Int) (l : List S24) (hh : hd.length ≤ 9223372036854775000) (hs : Small l) : ∃ r, Ev (fun k => spec_PacketText.f k kd fr tn ar hd l) r := by
 by_cases h : packB kd fr tn ar hd l = true
 ·exact ⟨_, spec_pack_yes kd fr tn ar hd l hs h⟩
 ·exact ⟨_, spec_pack_no kd fr tn ar hd l hh hs h⟩

/-- The text that was sealed, if it was. -/
def unsealB (s : ByteArray) : ByteArray × Bool :=
 if s.size < 4 ∨ s.size - 4 > 20000 then (⟨#[]⟩, false)
 else if (B s).drop (s.size - 4) = fourL (sumB (s.extract 0 (s.size - 4))) then (s.extract 0 (s.size - 4), true) else (⟨#[]⟩, false)
theorem ext_size (s : ByteArray) (n : Nat) (h : n ≤ s.size) : (s.extract 0 n).size = n := by
 rw [← B_len, B_extract, List.drop_zero, List.length_take, B_len]; omega
theorem seal_iff (s : ByteArray) (h : 4 ≤ s.size) : (sealB (s.extract 0 (s.size - 4))).toList = s.toList ↔ (B s).drop (s.size - 4) = fourL (sumB (s.extract 0 (s.size - 4))) := by
 rw [tl_iff]
 unfold sealB
 rw [B_append, B_str _ (fourL_byt _)]
 conv => lhs; lhs; lhs; rw [B_extract, List.drop_zero]
 conv => lhs; rhs; rw [← List.take_append_drop (s.size - 4) (B s)]
 constructor
 ·intro h2; exact (List.append_cancel_left h2).symm
 ·intro h2; rw [h2]

theorem impl_Unsealed_ev (s : ByteArray) (hs : s.size ≤ 9223372036854775000) : Ev (fun k => impl_Unsealed.f k s) (unsealB s) := by
 unfold impl_Unsealed.f unsealB
 refine ev_ite (fun h => ev_some (by rw [if_pos (by omega)])) (fun h => ?_)
 rw [w64 (by omega) (by omega)]
 have hn : ((s.size : Int) - 4).toNat = s.size - 4 := by omega
 rw [hn]
 refine ev_pos (by omega) (ev_pos (by omega) ?_)
 have he := ext_size s (s.size - 4) (by omega)
 by_cases h2 : s.size - 4 > 20000
 ·rw [if_pos (.inr h2)]
  exact Ev.bind (impl_Sealed_no _ (by omega)) (ev_neg (by simp) (Ev.now _))
 ·rw [if_neg (by omega)]
  refine Ev.bind (impl_Sealed_yes _ (by omega)) (ev_pos rfl ?_)
  have htx := seal_iff s (by omega)
  by_cases hc : (B s).drop (s.size - 4) = fourL (sumB (s.extract 0 (s.size - 4)))
  ·rw [if_pos hc]; exact ev_pos (htx.2 hc) (Ev.now _)
  ·rw [if_neg hc]; exact ev_neg (fun h => hc (htx.1 h)) (Ev.now _)

theorem spec_Unsealed_ev (s : ByteArray) (hs : s.size ≤ 9223372036854775000) : Ev (fun k => spec_Unsealed.f k s) (unsealB s) := by
 unfold spec_Unsealed.f unsealB
 rw [w64 (by omega) (by omega)]
 refine ev_ite (fun h => ev_some (by rw [if_pos (by omega)])) (fun h => ?_)
 refine ev_ite (fun h2 => ev_some (by rw [if_pos (by omega)])) (fun h2 => ?_)
 have hn : ((s.size : Int) - 4).toNat = s.size - 4 := by omega
 rw [if_neg (by omega), hn]
 refine ev_pos (by omega) (ev_pos (by omega) ?_)
 have he := ext_size s (s.size - 4) (by omega)
 refine Ev.bind (spec_SumOf_ev _ (by omega)) ?_
 unfold spec_l02Four.f
 simp only [Option.bind_some]
 have htx : (s.extract (s.size - 4) s.size).toList = (strOfNums (fourL (sumB (s.extract 0 (s.size - 4))))).toList ↔ (B s).drop (s.size - 4) = fourL (sumB (s.extract 0 (s.size - 4))) := by
  rw [tl_iff, B_str _ (fourL_byt _), B_extract, List.take_of_length_le (by rw [B_len]; omega)]
 by_cases hc : (B s).drop (s.size - 4) = fourL (sumB (s.extract 0 (s.size - 4)))
 ·rw [if_pos hc]; exact ev_pos (htx.2 hc) (Ev.now _)
 ·rw [if_neg hc]; exact ev_neg (fun h => hc (htx.1 h)) (Ev.now _)

/-- A text with its length, read. -/
def shortB (s : ByteArray) (v : Int × Int × Bool) : ByteArray × Int × Bool :=
 if v.2.2 = true then (if v.1 > 20000 then (⟨#[]⟩, 0, false) else if v.1 > (s.size : Int) - v.2.1 then (⟨#[]⟩, 0, false) else (s.extract v.2.1.toNat (v.2.1 + v.1).toNat, v.2.1 + v.1, true)) else (⟨#[]⟩, 0, false)

theorem impl_ReadShort_yes (s : ByteArray) (hs : s.size ≤ 9223372036854775000) (a : Nat) (ha : a ≤ s.size) : Ev (fun k => impl_ReadShort.f k s a) (shortB s (rvB s a)) := by
 unfold impl_ReadShort.f
 refine Ev.bind (impl_ReadVar_yes s hs a ha) ?_
 generalize hv : rvB s a = v
 obtain ⟨m, j, o⟩ := v
 cases o with
 | false => exact ev_neg (by simp) (Ev.now _)
 | true =>
  have hb := rvB_ok s a ha hv
  simp only [shortB]
  refine ev_pos trivial ?_
  rw [if_pos trivial, w64 (x := (s.size : Int) - j) (by omega) (by omega)]
  refine ev_ite (fun h1 => ev_some (by rw [if_pos h1])) (fun h1 => ?_)
  rw [if_neg h1]
  refine ev_ite (fun h2 => ev_some (by rw [if_pos h2])) (fun h2 => ?_)
  rw [if_neg h2, w64 (by omega) (by omega)]
  exact ev_pos (by omega) (ev_pos (by omega) (ev_pos (by omega) (Ev.now _)))
def zP : Int × Int × Int × Int × List Int × (List S24) × Bool := (0, 0, 0, 0, [], [], false)
def goodP (R : Int × Int × Int × Int × List Int × (List S24) × Bool) : Prop := R.2.2.2.2.1.length ≤ 6 ∧ R.2.2.2.2.2.1.length ≤ 150 ∧ ∀ x ∈ R.2.2.2.2.2.1, x.f5.length ≤ 7
theorem goodP_z : goodP zP := ⟨by simp [zP], by simp [zP], by intro x hx; simp [zP] at hx⟩
def slim (l : List S24) : Prop := ∀ x ∈ l, x.f5.length ≤ 7
theorem slim_nil : slim [] := by intro x hx; cases hx
theorem slim_snoc {l : List S24} (h : slim l) (x : S24) (hx : x.f5.length ≤ 7) : slim (l ++ [x]) := by
 intro y hy
 rcases List.mem_append.1 hy with hy | hy
 ·exact h y hy
 ·rw [List.mem_singleton] at hy; rw [hy]; exact hx
theorem slim_small {l : List S24} (h : slim l) (hl : l.length ≤ 8000000) : Small l := ⟨by omega, fun x hx => by have := h x hx; omega⟩
def doom (hd : List Int) (l : List S24) : Prop := 7 ≤ hd.length ∨ (∃ x, x ∈ l ∧ recR x = false) ∨ 151 ≤ l.length
theorem doom_snoc {hd : List Int} {l : List S24} (h : doom hd l) (x : S24) : doom hd (l ++ [x]) := by
 rcases h with h | ⟨y, hy, h⟩ | h
 ·exact .inl h
 ·exact .inr (.inl ⟨y, List.mem_append_left _ hy, h⟩)
 ·exact .inr (.inr (by rw [List.length_append]; omega))
theorem doom_no {kd fr tn ar : Int} {hd : List Int} {l : List S24} (h : doom hd l) : ¬ packB kd fr tn ar hd l = true := by
 intro hp
 obtain ⟨_, _, _, _, _, _, _, _, hh, hl, hr⟩ := packB_facts hp
 rcases h with h | ⟨y, hy, h⟩ | h
 ·omega
 ·rw [hr y hy] at h; cases h
 ·omega
theorem oneB_rng (t : ByteArray) (p : Int) (b : Bool) (h0 : 0 ≤ p) (h1 : p ≤ t.size) : 0 ≤ (oneB t p b).1 ∧ (oneB t p b).1 < 256 ∧ 0 ≤ (oneB t p b).2.1 ∧ (oneB t p b).2.1 ≤ t.size := by
 cases b with
 | true => rw [oneB_bad]; simp only; omega
 | false =>
  rcases oneB_cases t p h0 h1 with h | ⟨r, h, r0, r1, r2, _⟩
  ·rw [h]; simp only; omega
  ·rw [h]; simp only; omega
theorem oneB_ok (t : ByteArray) (p : Int) (b : Bool) (h0 : 0 ≤ p) (h1 : p ≤ t.size) (h : (oneB t p b).2.2 = false) : b = false ∧ (B t).take (oneB t p b).2.1.toNat = (B t).take p.toNat ++ [(oneB t p b).1] := by
 cases b with
 | true => rw [oneB_bad] at h; cases h
 | false =>
  rcases oneB_cases t p h0 h1 with h' | ⟨r, h', r0, r1, r2, r3⟩
  ·rw [h'] at h; cases h
  ·rw [h']; exact ⟨rfl, r3⟩
theorem numB_rng (t : ByteArray) (p : Int) (b : Bool) (h0 : 0 ≤ p) (h1 : p ≤ t.size) : 0 ≤ (numB t p b).1 ∧ (numB t p b).1 ≤ 1000000000 ∧ 0 ≤ (numB t p b).2.1 ∧ (numB t p b).2.1 ≤ t.size := by
 cases b with
 | true => rw [numB_bad]; simp only; omega
 | false =>
  rcases numB_cases t p h0 h1 with h | ⟨r, j, h, r0, r1, r2, r3, _⟩
  ·rw [h]; simp only; omega
  ·rw [h]; simp only; omega
theorem numB_ok (t : ByteArray) (p : Int) (b : Bool) (h0 : 0 ≤ p) (h1 : p ≤ t.size) (h : (numB t p b).2.2 = false) : b = false ∧ (B t).take (numB t p b).2.1.toNat = (B t).take p.toNat ++ varN (numB t p b).1 := by
 cases b with
 | true => rw [numB_bad] at h; cases h
 | false =>
  rcases numB_cases t p h0 h1 with h' | ⟨r, j, h', r0, r1, r2, r3, r4⟩
  ·rw [h'] at h; cases h
  ·rw [h']; exact ⟨rfl, r4⟩
theorem e0size : (⟨#[]⟩ : ByteArray).size ≤ 1048576 := Nat.zero_le _
/-- A text with its length, read by both. -/
theorem short_both (t : ByteArray) (ht : t.size ≤ 1048576) (p : Int) (h0 : 0 ≤ p) (h1 : p ≤ t.size) :
  (Ev (fun k => impl_reader_short.f k t p false) (⟨#[]⟩, t, p, true) ∧ ∃ v q b, Ev (fun k => spec_l04Var.f k t p false) (v, t, q, b) ∧ 0 ≤ q ∧ q ≤ t.size ∧ (spec_l04Take.f t q b v = some (⟨#[]⟩, t, q, true) ∨ ∃ s j, spec_l04Take.f t q b v = some (s, t, j, false) ∧ 20000 < s.size ∧ s.size ≤ t.size ∧ 0 ≤ j ∧ j ≤ t.size)) ∨
  (∃ s j v q b, Ev (fun k => impl_reader_short.f k t p false) (s, t, j, false) ∧ Ev (fun k => spec_l04Var.f k t p false) (v, t, q, b) ∧ spec_l04Take.f t q b v = some (s, t, j, false) ∧ p < j ∧ j ≤ t.size ∧ s.size ≤ 20000 ∧ (B t).take j.toNat = (B t).take p.toNat ++ (varN (s.size : Int) ++ B s)) := by
 have e : ((p.toNat : Nat) : Int) = p := by omega
 have hI := impl_ReadShort_yes t (by omega) p.toNat (by omega)
 have hS := spec_num_ev t (by omega) p false h0 h1
 rw [e] at hI
 have hi : Ev (fun k => impl_reader_short.f k t p false) (if (shortB t (rvB t p.toNat)).2.2 = true then ((shortB t (rvB t p.toNat)).1, t, (shortB t (rvB t p.toNat)).2.1, false) else (⟨#[]⟩, t, p, true)) := by
  unfold impl_reader_short.f
  refine Ev.bind hI (ev_neg (by decide) (ev_ite (fun h => ?_) (fun h => ?_)))
  ·rw [if_pos h]; exact Ev.now _
  ·rw [if_neg h]; exact Ev.now _
 have hnum : numB t p false = if (rvB t p.toNat).2.2 = true then ((rvB t p.toNat).1, (rvB t p.toNat).2.1, false) else (0, p, true) := by unfold numB; rw [if_neg (by decide)]
 generalize hv : rvB t p.toNat = v at hi hnum
 obtain ⟨m, j, o⟩ := v
 cases o with
 | false =>
  left
  simp only [Bool.false_eq_true, if_false] at hnum
  rw [hnum] at hS
  simp only [shortB, Bool.false_eq_true, if_false] at hi
  exact ⟨hi, 0, p, true, hS, h0, h1, .inl (by unfold spec_l04Take.f; rw [if_pos rfl])⟩
 | true =>
  have hb := rvB_ok t p.toNat (by omega) hv
  have henc := rvB_enc t p.toNat (by omega) hv
  simp only [if_true] at hnum
  rw [hnum] at hS
  simp only [shortB, if_true] at hi
  have hj : 0 ≤ j ∧ j ≤ t.size := by omega
  have w1 : wrap64 ((t.size : Int) - j) = (t.size : Int) - j := w64 (by omega) (by omega)
  by_cases hbig : m > (t.size : Int) - j
  ·left
   rw [if_pos hbig] at hi
   have hi2 : Ev (fun k => impl_reader_short.f k t p false) (⟨#[]⟩, t, p, true) := by
    refine ev_to hi ?_
    by_cases h2 : m > 20000
    ·rw [if_pos h2]; rfl
    ·rw [if_neg h2]; rfl
   refine ⟨hi2, m, j, false, hS, hj.1, hj.2, .inl ?_⟩
   unfold spec_l04Take.f
   rw [if_neg (by decide), w1, if_pos hbig]
  ·have w2 : wrap64 (j + m) = j + m := w64 (by omega) (by omega)
   have w3 : wrap64 (j + m - m) = j := by rw [w64 (by omega) (by omega)]; omega
   have htake : spec_l04Take.f t j false m = some (t.extract j.toNat (j + m).toNat, t, j + m, false) := by
    unfold spec_l04Take.f
    rw [if_neg (by decide), w1, if_neg hbig, w2, w3, if_pos (by omega), if_pos (by omega), if_pos (by omega)]
   have hsz : (t.extract j.toNat (j + m).toNat).size = m.toNat := by rw [ByteArray.size_extract]; omega
   by_cases h2 : m > 20000
   ·left
    rw [if_pos h2] at hi
    refine ⟨hi, m, j, false, hS, hj.1, hj.2, .inr ⟨_, _, htake, by omega, by omega, by omega, by omega⟩⟩
   ·right
    rw [if_neg h2, if_neg hbig] at hi
    refine ⟨t.extract j.toNat (j + m).toNat, j + m, m, j, false, hi, hS, htake, by omega, by omega, by omega, ?_⟩
    have hms : ((t.extract j.toNat (j + m).toNat).size : Int) = m := by rw [hsz]; omega
    have h3 := henc.1
    have h4 : (B t).take (j + m).toNat = (B t).take j.toNat ++ ((B t).take (j + m).toNat).drop j.toNat := by
     have h5 := (List.take_append_drop j.toNat ((B t).take (j + m).toNat)).symm
     rw [List.take_take, Nat.min_eq_left (by omega)] at h5
     exact h5
    rw [hms, B_extract]
    refine h4.trans ?_
    rw [h3, List.append_assoc]
theorem impl_rp_bad3 (t : ByteArray) (n p kd fr tn ar : Int) (hd : List Int) (l : List S24) : Ev (fun k => impl_ReadPacket.j3 k t n false t p true kd fr tn ar hd l) zP := by
 refine ev_succ ?_
 simp only [impl_ReadPacket.j3]
 exact ev_neg (by decide) (ev_pos trivial (Ev.now _))
theorem impl_rp_bad1 (t : ByteArray) (n p kd fr tn ar : Int) (hd : List Int) (l : List S24) : Ev (fun k => impl_ReadPacket.l1 k t n t p true kd fr tn ar hd l) zP := by
 refine ev_succ ?_
 simp only [impl_ReadPacket.l1, Bool.not_true]
 exact ev_ite (fun _ => impl_rp_bad3 ..) (fun _ => impl_rp_bad3 ..)
theorem impl_rp_bad0 (t : ByteArray) (ht : t.size ≤ 1048576) (n p kd fr tn ar : Int) (h0 : 0 ≤ p) (h1 : p ≤ t.size) (hd : List Int) : Ev (fun k => impl_ReadPacket.l0 k t n t p true kd fr tn ar hd) zP := by
 have hj : Ev (fun k => impl_ReadPacket.j1 k t t p true kd fr tn ar hd) zP := by
  refine ev_succ ?_
  simp only [impl_ReadPacket.j1]
  have h := impl_num_ev t (by omega) p true h0 h1
  rw [numB_bad] at h
  exact Ev.bind h (impl_rp_bad1 ..)
 refine ev_succ ?_
 simp only [impl_ReadPacket.l0]
 exact ev_ite (fun _ => ev_pos trivial hj) (fun _ => hj)
theorem spec_rp_bad3 (a t : ByteArray) (n i p kd fr tn ar : Int) (hd : List Int) (l : List S24) (hh : hd.length ≤ 9223372036854775000) (hs : Small l) : Ev (fun k => spec_ReadPacket.j3 k a n i false t p true kd fr tn ar hd l) zP := by
 obtain ⟨r, h⟩ := spec_pack_some kd fr tn ar hd l hh hs
 refine ev_succ ?_
 simp only [spec_ReadPacket.j3]
 exact ev_neg (by decide) (Ev.bind h (ev_pos trivial (Ev.now _)))
theorem spec_rp_bad1 (a t : ByteArray) (n i p kd fr tn ar : Int) (hd : List Int) (l : List S24) (hh : hd.length ≤ 9223372036854775000) (hs : Small l) : Ev (fun k => spec_ReadPacket.l1 k a n i t p true kd fr tn ar hd l) zP := by
 refine ev_succ ?_
 simp only [spec_ReadPacket.l1, Bool.not_true]
 have h := fun n i => spec_rp_bad3 a t n i p kd fr tn ar hd l hh hs
 exact ev_ite (fun _ => ev_ite (fun _ => h _ _) (fun _ => h _ _)) (fun _ => h _ _)
theorem spec_rp_bad0 (a t : ByteArray) (ht : t.size ≤ 1048576) (n i p kd fr tn ar : Int) (h0 : 0 ≤ p) (h1 : p ≤ t.size) (hd : List Int) (hh : hd.length ≤ 9223372036854775000) : Ev (fun k => spec_ReadPacket.l0 k a n i t p true kd fr tn ar hd) zP := by
 have hj : Ev (fun k => spec_ReadPacket.j1 k a t p true kd fr tn ar hd) zP := by
  refine ev_succ ?_
  simp only [spec_ReadPacket.j1]
  have h := spec_num_ev t (by omega) p true h0 h1
  rw [numB_bad] at h
  exact Ev.bind h (spec_rp_bad1 a t _ _ p kd fr tn ar hd [] hh (slim_small slim_nil (by simp)))
 refine ev_succ ?_
 simp only [spec_ReadPacket.l0]
 exact ev_ite (fun _ => ev_ite (fun _ => ev_pos trivial hj) (fun _ => hj)) (fun _ => hj)
/-- What is no packet in the end, whatever is read. -/
theorem impl_l1_doom (t : ByteArray) (ht : t.size ≤ 1048576) (kd fr tn ar : Int) (hd : List Int) (hh : hd.length ≤ 9000000) (m : Nat) : ∀ (n p : Int) (l : List S24), 0 ≤ p → p ≤ t.size → (t.size : Int) - p < m → n ≤ 1000000000 → doom hd l → slim l → l.length + m ≤ 4000000 →
  Ev (fun k => impl_ReadPacket.l1 k t n t p false kd fr tn ar hd l) zP := by
 induction m with
 | zero => intro n p l h0 h1 hm; omega
 | succ m ih =>
  intro n p l h0 h1 hm hn hd0 hsl hlm
  refine ev_succ ?_
  simp only [impl_ReadPacket.l1, Bool.not_false]
  refine ev_ite (fun hn0 => ?_) (fun _ => ?_)
  ·have wn : wrap64 (n - 1) = n - 1 := w64 (by omega) (by omega)
   refine ev_succ ?_
   simp only [impl_ReadPacket.j3, wn]
   refine ev_pos trivial ?_
   rcases short_both t ht p h0 h1 with ⟨hI, _⟩ | ⟨s, j, v, q, b, hI, _, _, hj, hj2, hs, _⟩
   ·obtain ⟨R, hR, _, _⟩ := readrec_ev (⟨#[]⟩ : ByteArray) e0size
    exact Ev.bind hI (Ev.bind hR (ev_pos rfl (ev_pos (by omega) (impl_rp_bad1 ..))))
   ·obtain ⟨R, hR, _, hg⟩ := readrec_ev s (by omega)
    refine Ev.bind hI (Ev.bind hR (ev_neg (by simp) (ev_pos (by omega) ?_)))
    cases hok : R.2.2.2.2.2.2.2.2 with
    | false => simp only [hok, Bool.not_false]; exact impl_rp_bad1 ..
    | true =>
     simp only [hok, Bool.not_true]
     exact ih (n - 1) j _ (by omega) hj2 (by omega) (by omega) (doom_snoc hd0 _) (slim_snoc hsl _ hg.1) (by rw [List.length_append, List.length_singleton]; omega)
  ·refine ev_succ ?_
   simp only [impl_ReadPacket.j3]
   refine ev_neg (by decide) (ev_neg (by decide) (ev_ite (fun _ => ?_) (fun _ => Ev.now _)))
   exact Ev.bind (impl_PacketOk_ev kd fr tn ar hd l (by omega) (slim_small hsl (by omega))) (ev_neg (doom_no hd0) (Ev.now _))
theorem impl_l0_doom (t : ByteArray) (ht : t.size ≤ 1048576) (kd fr tn ar : Int) (m : Nat) : ∀ (n p : Int) (hd : List Int), 0 ≤ p → p ≤ t.size → (t.size : Int) - p < m → n ≤ 1000000000 → 7 ≤ hd.length → hd.length + m ≤ 4000000 →
  Ev (fun k => impl_ReadPacket.l0 k t n t p false kd fr tn ar hd) zP := by
 induction m with
 | zero => intro n p l h0 h1 hm; omega
 | succ m ih =>
  intro n p hd h0 h1 hm hn h7 hlm
  have hj : Ev (fun k => impl_ReadPacket.j1 k t t p false kd fr tn ar hd) zP := by
   refine ev_succ ?_
   simp only [impl_ReadPacket.j1]
   have h := impl_num_ev t (by omega) p false h0 h1
   rcases numB_cases t p h0 h1 with h2 | ⟨v, j, h2, v0, v1, hj0, hj1, _⟩
   ·rw [h2] at h
    exact Ev.bind h (impl_rp_bad1 ..)
   ·rw [h2] at h
    exact Ev.bind h (impl_l1_doom t ht kd fr tn ar hd (by omega) (t.size + 1) v j [] (by omega) hj1 (by omega) v1 (.inl h7) slim_nil (by simp; omega))
  refine ev_succ ?_
  simp only [impl_ReadPacket.l0]
  refine ev_ite (fun hn0 => ev_neg (by decide) ?_) (fun _ => hj)
  have wn : wrap64 (n - 1) = n - 1 := w64 (by omega) (by omega)
  rw [impl_one_eq t (by omega) p false h0 h1, wn]
  simp only [Option.bind_some]
  refine ev_pos (by omega) ?_
  rcases oneB_cases t p h0 h1 with h | ⟨r, h, r0, r1, hp, _⟩
  ·rw [h]; exact impl_rp_bad0 t ht _ p kd fr tn ar h0 h1 _
  ·rw [h]; exact ih (n - 1) (p + 1) _ (by omega) (by omega) (by omega) (by omega) (by rw [List.length_append]; omega) (by rw [List.length_append, List.length_singleton]; omega)
theorem spec_end_doom (a t : ByteArray) (n i p kd fr tn ar : Int) (hd : List Int) (l : List S24) (hh : hd.length ≤ 9223372036854775000) (hs : Small l) (h : doom hd l) : Ev (fun k => spec_ReadPacket.j3 k a n i false t p false kd fr tn ar hd l) zP := by
 refine ev_succ ?_
 simp only [spec_ReadPacket.j3]
 exact ev_neg (by decide) (Ev.bind (spec_pack_no kd fr tn ar hd l hh hs (doom_no h)) (ev_neg (by decide) (ev_neg (by decide) (Ev.now _))))
theorem spec_l1_doom (a t : ByteArray) (ht : t.size ≤ 1048576) (kd fr tn ar n : Int) (hd : List Int) (hh : hd.length ≤ 9000000) (d : Nat) : ∀ (i : Nat) (p : Int) (l : List S24), i + d = 200 → 0 ≤ p → p ≤ t.size → doom hd l → slim l → l.length ≤ 1000 + i →
  Ev (fun k => spec_ReadPacket.l1 k a n i t p false kd fr tn ar hd l) zP := by
 induction d with
 | zero =>
  intro i p l hi h0 h1 hd0 hsl hl
  have he := fun n i => spec_end_doom a t n i p kd fr tn ar hd l (by omega) (slim_small hsl (by omega)) hd0
  refine ev_succ ?_
  simp only [spec_ReadPacket.l1, Bool.not_false]
  exact ev_ite (fun _ => ev_neg (by omega) (he _ _)) (fun _ => he _ _)
 | succ d ih =>
  intro i p l hi h0 h1 hd0 hsl hl
  have he := fun n i => spec_end_doom a t n i p kd fr tn ar hd l (by omega) (slim_small hsl (by omega)) hd0
  refine ev_succ ?_
  simp only [spec_ReadPacket.l1, Bool.not_false]
  refine ev_ite (fun _ => ev_pos (by omega) (ev_succ ?_)) (fun _ => he _ _)
  have wi : wrap64 ((i : Int) + 1) = ((i + 1 : Nat) : Int) := by rw [w64 (by omega) (by omega)]; omega
  simp only [spec_ReadPacket.j3, wi]
  refine ev_pos trivial ?_
  have fin : ∀ (s : ByteArray) (j : Int) (b : Bool), s.size ≤ 1048576 → 0 ≤ j → j ≤ t.size → Ev (fun k => (spec_ReadRecord.f k s).bind fun R => (if l.length < 1759218604441 then (spec_ReadPacket.l1 k a n ((i + 1 : Nat) : Int) t j b kd fr tn ar hd (l ++ [(⟨R.1, R.2.1, R.2.2.1, R.2.2.2.1, R.2.2.2.2.1, R.2.2.2.2.2.1, R.2.2.2.2.2.2.1, R.2.2.2.2.2.2.2.1⟩ : S24)])) else none)) zP := by
   intro s j b hs j0 j1
   obtain ⟨R, _, hR, hg⟩ := readrec_ev s hs
   refine Ev.bind hR (ev_pos (by omega) ?_)
   cases b with
   | true => exact spec_rp_bad1 a t _ _ j kd fr tn ar hd _ (by omega) (slim_small (slim_snoc hsl _ hg.1) (by rw [List.length_append, List.length_singleton]; omega))
   | false => exact ih (i + 1) j _ (by omega) j0 j1 (doom_snoc hd0 _) (slim_snoc hsl _ hg.1) (by rw [List.length_append, List.length_singleton]; omega)
  rcases short_both t ht p h0 h1 with ⟨_, v, q, b, hV, q0, q1, hT⟩ | ⟨s, j, v, q, b, _, hV, hT, hj, hj2, hs, _⟩
  ·refine Ev.bind hV ?_
   rcases hT with hT | ⟨s, j, hT, _, hs, j0, j1⟩
   ·simp only [hT]
    exact Ev.bind (Ev.now _) (fin (⟨#[]⟩ : ByteArray) q true e0size q0 q1)
   ·simp only [hT]
    exact Ev.bind (Ev.now _) (fin s j false (by omega) j0 j1)
  ·refine Ev.bind hV ?_
   simp only [hT]
   exact Ev.bind (Ev.now _) (fin s j false (by omega) (by omega) hj2)
theorem spec_l0_doom (a t : ByteArray) (ht : t.size ≤ 1048576) (kd fr tn ar n : Int) (d : Nat) : ∀ (i : Nat) (p : Int) (hd : List Int), i + d = 50 → 0 ≤ p → p ≤ t.size → 7 ≤ hd.length → hd.length ≤ 1000 + i →
  Ev (fun k => spec_ReadPacket.l0 k a n i t p false kd fr tn ar hd) zP := by
 have hj : ∀ (p : Int) (hd : List Int), 0 ≤ p → p ≤ t.size → 7 ≤ hd.length → hd.length ≤ 2000 → Ev (fun k => spec_ReadPacket.j1 k a t p false kd fr tn ar hd) zP := by
  intro p hd h0 h1 h7 hl
  refine ev_succ ?_
  simp only [spec_ReadPacket.j1]
  have h := spec_num_ev t (by omega) p false h0 h1
  rcases numB_cases t p h0 h1 with h2 | ⟨v, j, h2, v0, v1, hj0, hj1, _⟩
  ·rw [h2] at h
   exact Ev.bind h (spec_rp_bad1 a t _ _ p kd fr tn ar hd [] (by omega) (slim_small slim_nil (by simp)))
  ·rw [h2] at h
   exact Ev.bind h (spec_l1_doom a t ht kd fr tn ar v hd (by omega) 200 0 j [] (by omega) (by omega) hj1 (.inl h7) slim_nil (by simp))
 induction d with
 | zero =>
  intro i p hd hi h0 h1 h7 hl
  refine ev_succ ?_
  simp only [spec_ReadPacket.l0]
  exact ev_ite (fun _ => ev_neg (by omega) (hj p hd h0 h1 h7 (by omega))) (fun _ => hj p hd h0 h1 h7 (by omega))
 | succ d ih =>
  intro i p hd hi h0 h1 h7 hl
  refine ev_succ ?_
  simp only [spec_ReadPacket.l0]
  refine ev_ite (fun _ => ev_pos (by omega) (ev_neg (by decide) ?_)) (fun _ => hj p hd h0 h1 h7 (by omega))
  have wi : wrap64 ((i : Int) + 1) = ((i + 1 : Nat) : Int) := by rw [w64 (by omega) (by omega)]; omega
  rw [spec_one_eq t (by omega) p false h0 h1, wi]
  simp only [Option.bind_some]
  refine ev_pos (by omega) ?_
  rcases oneB_cases t p h0 h1 with h | ⟨r, h, r0, r1, hp, _⟩
  ·rw [h]; exact spec_rp_bad0 a t ht _ _ p kd fr tn ar h0 h1 _ (by rw [List.length_append, List.length_singleton]; omega)
  ·rw [h]; exact ih (i + 1) (p + 1) _ (by omega) (by omega) (by omega) (by rw [List.length_append]; omega) (by rw [List.length_append, List.length_singleton]; omega)
theorem seal_inj (s t : ByteArray) : (sealB s).toList = (sealB t).toList ↔ B s = B t := by
 rw [tl_iff]
 unfold sealB
 rw [B_append, B_append, B_str _ (fourL_byt _), B_str _ (fourL_byt _)]
 constructor
 ·intro h
  have h4 : ∀ x : Int, (fourL x).length = 4 := fun x => by simp [fourL]
  have hl := congrArg List.length h; rw [List.length_append, List.length_append, h4, h4] at hl
  exact (List.append_inj h (by omega)).1
 ·intro h
  have hst : s = t := B_inj h
  rw [hst]
theorem unseal_facts (s : ByteArray) (t : ByteArray) (ok : Bool) (h : unsealB s = (t, ok)) : t.size ≤ 20000 ∧ (ok = true → (sealB t).toList = s.toList) := by
 unfold unsealB at h
 by_cases h1 : s.size < 4 ∨ s.size - 4 > 20000
 ·rw [if_pos h1] at h
  injection h with ha hb
  subst ha hb
  exact ⟨by decide, fun h => by cases h⟩
 ·rw [if_neg h1] at h
  by_cases h2 : (B s).drop (s.size - 4) = fourL (sumB (s.extract 0 (s.size - 4)))
  ·rw [if_pos h2] at h
   injection h with ha hb
   subst ha hb
   refine ⟨by rw [ext_size _ _ (by omega)]; omega, fun _ => (seal_iff s (by omega)).2 h2⟩
  ·rw [if_neg h2] at h
   injection h with ha hb
   subst ha hb
   exact ⟨by decide, fun h => by cases h⟩
theorem modL_id {l : List Int} (h : Byt l) : modL l = l := by
 unfold modL
 conv => rhs; rw [← List.map_id l]
 refine List.map_congr_left (fun x hx => ?_)
 have := h x hx
 simp only [id]
 omega
theorem packL_snoc (l : List S24) (x : S24) : packL (l ++ [x]) = packL l ++ oneT x := by
 induction l with
 | nil => simp [packL]
 | cons y l ih => simp only [List.cons_append, packL, ih, List.append_assoc]
theorem rp_l1 (a t : ByteArray) (ht : t.size ≤ 20000) (hse : (sealB t).toList = a.toList) (kd fr tn ar : Int) (hk : 0 ≤ kd ∧ kd < 256) (hf : 0 ≤ fr ∧ fr < 256) (htn : 0 ≤ tn ∧ tn < 256) (har : 0 ≤ ar ∧ ar < 256) (hd : List Int) (hh : hd.length ≤ 7) (hb : Byt hd) (m : Int) (m0 : 0 ≤ m) (m1 : m ≤ 1000000000) (d : Nat) :
  ∀ (l : List S24) (p : Int), l.length + d = 151 → (l.length : Int) ≤ m → 0 ≤ p → p ≤ t.size → slim l → (B t).take p.toNat = [kd, fr, tn, ar] ++ varN (hd.length : Int) ++ hd ++ varN m ++ packL l →
  ∃ R, Ev (fun k => impl_ReadPacket.l1 k t (m - l.length) t p false kd fr tn ar hd l) R ∧ Ev (fun k => spec_ReadPacket.l1 k a m (l.length : Int) t p false kd fr tn ar hd l) R ∧ goodP R := by
 induction d with
 | zero =>
  intro l p hl hm h0 h1 hsl hI
  exact ⟨zP, impl_l1_doom t (by omega) kd fr tn ar hd (by omega) (t.size + 1) (m - l.length) p l h0 h1 (by omega) (by omega) (.inr (.inr (by omega))) hsl (by omega), spec_l1_doom a t (by omega) kd fr tn ar m hd (by omega) 49 l.length p l (by omega) h0 h1 (.inr (.inr (by omega))) hsl (by omega), goodP_z⟩
 | succ d ih =>
  intro l p hl hm h0 h1 hsl hI
  have hsm := slim_small hsl (by omega)
  by_cases he : (l.length : Int) = m
  ·by_cases hp : packB kd fr tn ar hd l = true
   ·have hpf := packB_facts hp
    have hS := spec_pack_yes kd fr tn ar hd l hsm hp
    have hP := impl_PacketOk_ev kd fr tn ar hd l (by omega) hsm
    rw [hp] at hP
    have hpt : packT kd fr tn ar hd l = (B t).take p.toNat := by
     rw [hI, ← he]
     unfold packT
     rw [modL_id hb, show kd % 256 = kd by omega, show fr % 256 = fr by omega, show tn % 256 = tn by omega, show ar % 256 = ar by omega]
    have hbt : Byt (packT kd fr tn ar hd l) := by
     rw [hpt]
     intro x hx
     exact B_byt t x (List.mem_of_mem_take hx)
    have heq : (sealB (strOfNums (packT kd fr tn ar hd l))).toList = a.toList ↔ p = (t.size : Int) := by
     rw [← hse, seal_inj, B_str _ hbt, hpt]
     constructor
     ·intro h
      have := congrArg List.length h
      rw [List.length_take, B_len] at this
      omega
     ·intro h
      rw [List.take_of_length_le (by rw [B_len]; omega)]
    by_cases hpe : p = (t.size : Int)
    ·refine ⟨(kd, fr, tn, ar, hd, l, true), ev_succ ?_, ev_succ ?_, hpf.2.2.2.2.2.2.2.2.1, hpf.2.2.2.2.2.2.2.2.2.1, hsl⟩
     ·simp only [impl_ReadPacket.l1]
      refine ev_neg (by omega) (ev_succ ?_)
      simp only [impl_ReadPacket.j3]
      exact ev_neg (by decide) (ev_neg (by decide) (ev_pos hpe (Ev.bind hP (ev_pos rfl (Ev.now _)))))
     ·simp only [spec_ReadPacket.l1]
      refine ev_neg (by omega) (ev_succ ?_)
      simp only [spec_ReadPacket.j3]
      exact ev_neg (by decide) (Ev.bind hS (ev_neg (by decide) (ev_pos rfl (ev_pos (heq.2 hpe) (Ev.now _)))))
    ·refine ⟨zP, ev_succ ?_, ev_succ ?_, goodP_z⟩
     ·simp only [impl_ReadPacket.l1]
      refine ev_neg (by omega) (ev_succ ?_)
      simp only [impl_ReadPacket.j3]
      exact ev_neg (by decide) (ev_neg (by decide) (ev_neg hpe (Ev.now _)))
     ·simp only [spec_ReadPacket.l1]
      refine ev_neg (by omega) (ev_succ ?_)
      simp only [spec_ReadPacket.j3]
      exact ev_neg (by decide) (Ev.bind hS (ev_neg (by decide) (ev_pos rfl (ev_neg (fun h => hpe (heq.1 h)) (Ev.now _)))))
   ·refine ⟨zP, ev_succ ?_, ev_succ ?_, goodP_z⟩
    ·simp only [impl_ReadPacket.l1]
     refine ev_neg (by omega) (ev_succ ?_)
     simp only [impl_ReadPacket.j3]
     exact ev_neg (by decide) (ev_neg (by decide) (ev_ite (fun _ => Ev.bind (impl_PacketOk_ev kd fr tn ar hd l (by omega) hsm) (ev_neg hp (Ev.now _))) (fun _ => Ev.now _)))
    ·simp only [spec_ReadPacket.l1]
     refine ev_neg (by omega) (ev_succ ?_)
     simp only [spec_ReadPacket.j3]
     exact ev_neg (by decide) (Ev.bind (spec_pack_no kd fr tn ar hd l (by omega) hsm hp) (ev_neg (by decide) (ev_neg (by decide) (Ev.now _))))
  ·have wn : Aside0 (wrap64 (m - l.length - 1) = m - l.length - 1) := ⟨w64 (by omega) (by omega)⟩
   have wi : Aside0 (wrap64 ((l.length : Int) + 1) = ((l.length + 1 : Nat) : Int)) := ⟨by rw [w64 (by omega) (by omega)]; omega⟩
   have big : ∀ (s : ByteArray) (R : Int × Int × Int × Int × Int × (List S63) × Int × Bool × Bool), goodR s R → 20000 < s.size → R.2.2.2.2.2.2.2.2 = false := by
    intro s R hg hs
    cases hok : R.2.2.2.2.2.2.2.2 with
    | false => rfl
    | true =>
     have h2 := hg.2.1 hok; have h3 := recB_len h2.1; have h4 := recT_len R.1 R.2.1 R.2.2.1 R.2.2.2.1 R.2.2.2.2.1 R.2.2.2.2.2.1 R.2.2.2.2.2.2.1 R.2.2.2.2.2.2.2.1; have h5 := congrArg List.length ((tl_iff _ _).1 h2.2); rw [B_len, B_len, str_size] at h5
     omega
   have zno : recR (⟨0, 0, 0, 0, 0, [], 0, false⟩ : S24) = false := by
    show recB 0 0 0 0 0 [] 0 false = false
    unfold recB
    simp
   rcases short_both t (by omega) p h0 h1 with ⟨hI2, v, q, b, hV, q0, q1, hT⟩ | ⟨s, j, v, q, b, hI2, hV, hT, hj, hj2, hs, htk⟩
   ·refine ⟨zP, ev_succ ?_, ev_succ ?_, goodP_z⟩
    ·simp only [impl_ReadPacket.l1, Bool.not_false]
     refine ev_pos (by omega) (ev_succ ?_)
     simp only [impl_ReadPacket.j3, wn.out]
     obtain ⟨R, hR, _, _⟩ := readrec_ev (⟨#[]⟩ : ByteArray) e0size
     exact ev_pos trivial (Ev.bind hI2 (Ev.bind hR (ev_pos rfl (ev_pos (by omega) (impl_rp_bad1 ..)))))
    ·simp only [spec_ReadPacket.l1, Bool.not_false]
     refine ev_pos (by omega) (ev_pos (by omega) (ev_succ ?_))
     simp only [spec_ReadPacket.j3, wi.out]
     refine ev_pos trivial (Ev.bind hV ?_)
     rcases hT with hT | ⟨s, j, hT, hs1, hs2, j0, j1⟩
     ·simp only [hT]
      obtain ⟨R, _, hR, hg⟩ := readrec_ev (⟨#[]⟩ : ByteArray) e0size
      refine Ev.bind (Ev.now _) ?_
      exact Ev.bind hR (ev_pos (by omega) (spec_rp_bad1 a t _ _ q kd fr tn ar hd _ (by omega) (slim_small (slim_snoc hsl _ hg.1) (by rw [List.length_append, List.length_singleton]; omega))))
     ·omega
   ·obtain ⟨R, hRi, hRs, hg⟩ := readrec_ev s (by omega)
    cases hok : R.2.2.2.2.2.2.2.2 with
    | true =>
     have h2 := hg.2.1 hok
     have hrx : recX (⟨R.1, R.2.1, R.2.2.1, R.2.2.2.1, R.2.2.2.2.1, R.2.2.2.2.2.1, R.2.2.2.2.2.2.1, R.2.2.2.2.2.2.2.1⟩ : S24) = B s := by
      have h3 := (tl_iff _ _).1 h2.2; rw [B_str _ (recT_byt _ _ _ _ _ _ _ _)] at h3
      exact h3
     have hone : oneT (⟨R.1, R.2.1, R.2.2.1, R.2.2.2.1, R.2.2.2.2.1, R.2.2.2.2.2.1, R.2.2.2.2.2.2.1, R.2.2.2.2.2.2.2.1⟩ : S24) = varN (s.size : Int) ++ B s := by
      unfold oneT
      rw [hrx, B_len]
     obtain ⟨R2, e1, e2, e3⟩ := ih (l ++ [(⟨R.1, R.2.1, R.2.2.1, R.2.2.2.1, R.2.2.2.2.1, R.2.2.2.2.2.1, R.2.2.2.2.2.2.1, R.2.2.2.2.2.2.2.1⟩ : S24)]) j (by rw [List.length_append, List.length_singleton]; omega) (by rw [List.length_append, List.length_singleton]; omega) (by omega) hj2 (slim_snoc hsl _ hg.1) (by rw [htk, hI, packL_snoc, hone]; simp only [List.append_assoc])
     have el : (((l ++ [(⟨R.1, R.2.1, R.2.2.1, R.2.2.2.1, R.2.2.2.2.1, R.2.2.2.2.2.1, R.2.2.2.2.2.2.1, R.2.2.2.2.2.2.2.1⟩ : S24)]).length : Nat) : Int) = ((l.length + 1 : Nat) : Int) := by rw [List.length_append, List.length_singleton]
     rw [el] at e1 e2
     rw [show m - ((l.length + 1 : Nat) : Int) = m - l.length - 1 by omega] at e1
     refine ⟨R2, ev_succ ?_, ev_succ ?_, e3⟩
     ·simp only [impl_ReadPacket.l1, Bool.not_false]
      refine ev_pos (by omega) (ev_succ ?_)
      simp only [impl_ReadPacket.j3, wn.out]
      refine ev_pos trivial (Ev.bind hI2 (Ev.bind hRi (ev_neg (by simp) (ev_pos (by omega) ?_))))
      simp only [hok, Bool.not_true]
      exact e1
     ·simp only [spec_ReadPacket.l1, Bool.not_false]
      refine ev_pos (by omega) (ev_pos (by omega) (ev_succ ?_))
      simp only [spec_ReadPacket.j3, wi.out]
      refine ev_pos trivial (Ev.bind hV ?_)
      simp only [hT]
      exact Ev.bind (Ev.now _) (Ev.bind hRs (ev_pos (by omega) e2))
    | false =>
     have hz := hg.2.2 hok; subst hz
     refine ⟨zP, ev_succ ?_, ev_succ ?_, goodP_z⟩
     ·simp only [impl_ReadPacket.l1, Bool.not_false]
      refine ev_pos (by omega) (ev_succ ?_)
      simp only [impl_ReadPacket.j3, wn.out]
      exact ev_pos trivial (Ev.bind hI2 (Ev.bind hRi (ev_neg (by simp) (ev_pos (by omega) (impl_rp_bad1 ..)))))
     ·simp only [spec_ReadPacket.l1, Bool.not_false]
      refine ev_pos (by omega) (ev_pos (by omega) (ev_succ ?_))
      simp only [spec_ReadPacket.j3, wi.out]
      refine ev_pos trivial (Ev.bind hV ?_)
      simp only [hT]
      refine Ev.bind (Ev.now _) ?_
      exact Ev.bind hRs (ev_pos (by omega) (spec_l1_doom a t (by omega) kd fr tn ar m hd (by omega) (200 - (l.length + 1)) (l.length + 1) j _ (by omega) (by omega) hj2 (.inr (.inl ⟨_, List.mem_append_right _ (List.mem_singleton.2 rfl), zno⟩)) (slim_snoc hsl _ (by simp [zRec])) (by rw [List.length_append, List.length_singleton]; omega)))
theorem rp_l0 (a t : ByteArray) (ht : t.size ≤ 20000) (hse : (sealB t).toList = a.toList) (kd fr tn ar : Int) (hk : 0 ≤ kd ∧ kd < 256) (hf : 0 ≤ fr ∧ fr < 256) (htn : 0 ≤ tn ∧ tn < 256) (har : 0 ≤ ar ∧ ar < 256) (n : Int) (n0 : 0 ≤ n) (n1 : n ≤ 1000000000) (d : Nat) :
  ∀ (hd : List Int) (p : Int), hd.length + d = 7 → (hd.length : Int) ≤ n → 0 ≤ p → p ≤ t.size → Byt hd → (B t).take p.toNat = [kd, fr, tn, ar] ++ varN n ++ hd →
  ∃ R, Ev (fun k => impl_ReadPacket.l0 k t (n - hd.length) t p false kd fr tn ar hd) R ∧ Ev (fun k => spec_ReadPacket.l0 k a n (hd.length : Int) t p false kd fr tn ar hd) R ∧ goodP R := by
 induction d with
 | zero =>
  intro hd p hl hm h0 h1 hb hI
  exact ⟨zP, impl_l0_doom t (by omega) kd fr tn ar (t.size + 1) (n - hd.length) p hd h0 h1 (by omega) (by omega) (by omega) (by omega), spec_l0_doom a t (by omega) kd fr tn ar n 43 hd.length p hd (by omega) h0 h1 (by omega) (by omega), goodP_z⟩
 | succ d ih =>
  intro hd p hl hm h0 h1 hb hI
  by_cases he : (hd.length : Int) = n
  ·have hi := impl_num_ev t (by omega) p false h0 h1
   have hs := spec_num_ev t (by omega) p false h0 h1
   rcases numB_cases t p h0 h1 with h2 | ⟨m, j, h2, m0, m1, hj0, hj1, htk⟩
   ·rw [h2] at hi hs
    refine ⟨zP, ev_succ ?_, ev_succ ?_, goodP_z⟩
    ·simp only [impl_ReadPacket.l0]
     refine ev_neg (by omega) (ev_succ ?_)
     simp only [impl_ReadPacket.j1]
     exact Ev.bind hi (impl_rp_bad1 ..)
    ·simp only [spec_ReadPacket.l0]
     refine ev_neg (by omega) (ev_succ ?_)
     simp only [spec_ReadPacket.j1]
     exact Ev.bind hs (spec_rp_bad1 a t _ _ p kd fr tn ar hd [] (by omega) (slim_small slim_nil (by simp)))
   ·rw [h2] at hi hs
    obtain ⟨R, e1, e2, e3⟩ := rp_l1 a t ht hse kd fr tn ar hk hf htn har hd (by omega) hb m m0 m1 151 [] j (by simp) (by simp; omega) (by omega) hj1 slim_nil (by rw [htk, hI, he]; simp [packL])
    have e0 : m - ((List.length ([] : List S24) : Nat) : Int) = m := by simp
    rw [e0] at e1
    refine ⟨R, ev_succ ?_, ev_succ ?_, e3⟩
    ·simp only [impl_ReadPacket.l0]
     refine ev_neg (by omega) (ev_succ ?_)
     simp only [impl_ReadPacket.j1]
     exact Ev.bind hi e1
    ·simp only [spec_ReadPacket.l0]
     refine ev_neg (by omega) (ev_succ ?_)
     simp only [spec_ReadPacket.j1]
     exact Ev.bind hs e2
  ·have wn : Aside0 (wrap64 (n - hd.length - 1) = n - hd.length - 1) := ⟨w64 (by omega) (by omega)⟩
   have wi : Aside0 (wrap64 ((hd.length : Int) + 1) = ((hd.length + 1 : Nat) : Int)) := ⟨by rw [w64 (by omega) (by omega)]; omega⟩
   rcases oneB_cases t p h0 h1 with h | ⟨r, h, r0, r1, hp, htk⟩
   ·refine ⟨zP, ev_succ ?_, ev_succ ?_, goodP_z⟩
    ·simp only [impl_ReadPacket.l0, wn.out]
     refine ev_pos (by omega) (ev_neg (by decide) ?_)
     rw [impl_one_eq t (by omega) p false h0 h1]
     simp only [Option.bind_some]
     refine ev_pos (by omega) ?_
     rw [h]
     exact ((impl_rp_bad0 t (by omega) _ p kd fr tn ar h0 h1 _))
    ·simp only [spec_ReadPacket.l0, wi.out]
     refine ev_pos (by omega) (ev_pos (by omega) (ev_neg (by decide) ?_))
     rw [spec_one_eq t (by omega) p false h0 h1]
     simp only [Option.bind_some]
     refine ev_pos (by omega) ?_
     rw [h]
     exact ((spec_rp_bad0 a t (by omega) _ _ p kd fr tn ar h0 h1 _ (by rw [List.length_append, List.length_singleton]; omega)))
   ·obtain ⟨R, e1, e2, e3⟩ := ih (hd ++ [r]) (p + 1) (by rw [List.length_append, List.length_singleton]; omega) (by rw [List.length_append, List.length_singleton]; omega) (by omega) (by omega) (byt_app hb (by intro x hx; rw [List.mem_singleton] at hx; omega)) (by rw [htk, hI]; simp only [List.append_assoc])
    have el : (((hd ++ [r]).length : Nat) : Int) = ((hd.length + 1 : Nat) : Int) := by rw [List.length_append, List.length_singleton]
    rw [el] at e1 e2
    rw [show n - ((hd.length + 1 : Nat) : Int) = n - hd.length - 1 by omega] at e1
    refine ⟨R, ev_succ ?_, ev_succ ?_, e3⟩
    ·simp only [impl_ReadPacket.l0, wn.out]
     refine ev_pos (by omega) (ev_neg (by decide) ?_)
     rw [impl_one_eq t (by omega) p false h0 h1]
     simp only [Option.bind_some]
     refine ev_pos (by omega) ?_
     rw [h]
     exact (e1)
    ·simp only [spec_ReadPacket.l0, wi.out]
     refine ev_pos (by omega) (ev_pos (by omega) (ev_neg (by decide) ?_))
     rw [spec_one_eq t (by omega) p false h0 h1]
     simp only [Option.bind_some]
     refine ev_pos (by omega) ?_
     rw [h]
     exact (e2)
theorem readpack_ev (s : ByteArray) (hs : s.size ≤ 1048576) : ∃ R, Ev (fun k => impl_ReadPacket.f k s) R ∧ Ev (fun k => spec_ReadPacket.f k s) R ∧ goodP R := by
 have hI := impl_Unsealed_ev s (by omega)
 have hS := spec_Unsealed_ev s (by omega)
 generalize hu : unsealB s = u at hI hS
 obtain ⟨t, ok⟩ := u; obtain ⟨ht, hse⟩ := unseal_facts s t ok hu
 have hts : t.size ≤ 9223372036854775000 := by omega
 cases ok with
 | false =>
  refine ⟨zP, ?_, ?_, goodP_z⟩
  ·unfold impl_ReadPacket.f
   exact Ev.bind hI (ev_neg (by simp) (Ev.now _))
  ·unfold spec_ReadPacket.f
   refine Ev.bind hS ?_
   simp only [Bool.not_false, spec_one_eq t hts 0 true (by omega) (by omega), oneB_bad, Option.bind_some]
   have h := spec_num_ev t hts 0 true (by omega) (by omega)
   rw [numB_bad] at h
   exact Ev.bind h (spec_rp_bad0 s t (by omega) _ _ 0 _ _ _ _ (by omega) (by omega) [] (by simp))
 | true =>
  replace hse := hse rfl
  have A0 := oneB_rng t 0 false (by omega) (by omega)
  have K0 := oneB_ok t 0 false (by omega) (by omega)
  have I0 := impl_one_eq t hts 0 false (by omega) (by omega)
  have S0 := spec_one_eq t hts 0 false (by omega) (by omega)
  generalize oneB t 0 false = v0 at A0 K0 I0 S0
  obtain ⟨kd, p1, b1⟩ := v0
  simp only at A0 K0 I0 S0
  have A1 := oneB_rng t p1 b1 (by omega) (by omega)
  have K1 := oneB_ok t p1 b1 (by omega) (by omega)
  have I1 := impl_one_eq t hts p1 b1 (by omega) (by omega)
  have S1 := spec_one_eq t hts p1 b1 (by omega) (by omega)
  generalize oneB t p1 b1 = v1 at A1 K1 I1 S1
  obtain ⟨fr, p2, b2⟩ := v1
  simp only at A1 K1 I1 S1
  have A2 := oneB_rng t p2 b2 (by omega) (by omega)
  have K2 := oneB_ok t p2 b2 (by omega) (by omega)
  have I2 := impl_one_eq t hts p2 b2 (by omega) (by omega)
  have S2 := spec_one_eq t hts p2 b2 (by omega) (by omega)
  generalize oneB t p2 b2 = v2 at A2 K2 I2 S2
  obtain ⟨tn, p3, b3⟩ := v2
  simp only at A2 K2 I2 S2
  have A3 := oneB_rng t p3 b3 (by omega) (by omega)
  have K3 := oneB_ok t p3 b3 (by omega) (by omega)
  have I3 := impl_one_eq t hts p3 b3 (by omega) (by omega)
  have S3 := spec_one_eq t hts p3 b3 (by omega) (by omega)
  generalize oneB t p3 b3 = v3 at A3 K3 I3 S3
  obtain ⟨ar, p4, b4⟩ := v3
  simp only at A3 K3 I3 S3
  have A4 := numB_rng t p4 b4 (by omega) (by omega)
  have K4 := numB_ok t p4 b4 (by omega) (by omega)
  have I4 := impl_num_ev t hts p4 b4 (by omega) (by omega)
  have S4 := spec_num_ev t hts p4 b4 (by omega) (by omega)
  generalize numB t p4 b4 = v4 at A4 K4 I4 S4
  obtain ⟨n, p5, b5⟩ := v4
  simp only at A4 K4 I4 S4
  have fin : ∃ R, Ev (fun k => impl_ReadPacket.l0 k t n t p5 b5 kd fr tn ar []) R ∧ Ev (fun k => spec_ReadPacket.l0 k s n 0 t p5 b5 kd fr tn ar []) R ∧ goodP R := by
   cases b5 with
   | true => exact ⟨zP, impl_rp_bad0 t (by omega) _ p5 kd fr tn ar (by omega) (by omega) [], spec_rp_bad0 s t (by omega) _ _ p5 kd fr tn ar (by omega) (by omega) [] (by simp), goodP_z⟩
   | false =>
    obtain ⟨e4, T4⟩ := K4 rfl; subst e4; obtain ⟨e3, T3⟩ := K3 rfl; subst e3; obtain ⟨e2, T2⟩ := K2 rfl; subst e2; obtain ⟨e1, T1⟩ := K1 rfl; subst e1; obtain ⟨_, T0⟩ := K0 rfl
    have hz : (B t).take (0 : Int).toNat = [] := by rfl
    obtain ⟨R, r1, r2, r3⟩ := rp_l0 s t ht hse kd fr tn ar (by omega) (by omega) (by omega) (by omega) n (by omega) (by omega) 7 [] p5 (by simp) (by simp; omega) (by omega) (by omega) (by intro x hx; cases hx) (by rw [T4, T3, T2, T1, T0, hz]; simp)
    have e0 : n - ((List.length ([] : List Int) : Nat) : Int) = n := by simp
    rw [e0] at r1
    exact ⟨R, r1, r2, r3⟩
  obtain ⟨R, r1, r2, r3⟩ := fin
  refine ⟨R, ?_, ?_, r3⟩
  ·unfold impl_ReadPacket.f
   refine Ev.bind hI (ev_pos rfl ?_)
   simp only [I0, I1, I2, I3, Option.bind_some]
   exact Ev.bind I4 r1
  ·unfold spec_ReadPacket.f
   refine Ev.bind hS ?_
   simp only [Bool.not_true, S0, S1, S2, S3, Option.bind_some]
   exact Ev.bind S4 r2

theorem laws_eqIntS_l0_ev (l : List Int) (hl : l.length ≤ 9223372036854775807) (d : Nat) : ∀ i : Nat, i + d = l.length → Ev (fun k => laws_eqIntS.l0 k l l i) true := by
 induction d with
 | zero =>
  intro i hi
  apply ev_succ
  simp only [laws_eqIntS.l0]
  exact ev_neg (by omega) (Ev.now _)
 | succ d ih =>
  intro i hi
  apply ev_succ
  simp only [laws_eqIntS.l0, if_true]
  rw [w64 (by omega) (by omega)]
  exact ev_pos (by omega) (ev_pos (by omega) (ev_pos (by omega) (ih (i + 1) (by omega))))
theorem laws_eqIntS_refl (l : List Int) (hl : l.length ≤ 9223372036854775807) : Ev (fun k => laws_eqIntS.f k l l) true := by
 unfold laws_eqIntS.f
 exact ev_pos rfl (laws_eqIntS_l0_ev l hl l.length 0 (by omega))

/-- Numbers from m on, as many as l has. -/
def markI : List Int → Int → List Int
 | [], _ => []
 | _ :: xs, m => m :: markI xs (m + 1)
theorem rd_midI {α : Type} (p : List α) (x z : α) (r : List α) (i : Nat) (h : p.length = i) : (p ++ x :: r).getD i z = x := by
 subst h
 simp
theorem laws_markIntS_l0 (xs : List Int) : ∀ (p : List Int) (m : Int) (i : Nat), p.length = i → 0 ≤ m → m + (xs.length : Int) ≤ 4611686018427387904 → (i : Int) + xs.length ≤ 4611686018427387904 →
  Ev (fun k => laws_markIntS.l0 k (p ++ xs) m i) (m + (xs.length : Int), p ++ markI xs m) := by
 induction xs with
 | nil =>
  intro p m i hp h0 h1 h2
  apply ev_succ
  simp only [laws_markIntS.l0]
  exact ev_neg (by simp; omega) (ev_some (by simp [markI]))
 | cons x xs ih =>
  intro p m i hp h0 h1 h2
  simp only [List.length_cons] at h1 h2
  have hr := ih (p ++ [m]) (m + 1) (i + 1) (by simp [hp]) (by omega) (by omega) (by omega)
  apply ev_succ
  simp only [laws_markIntS.l0]
  refine ev_pos (by simp; omega) (ev_pos (by omega) ?_)
  rw [w64 (x := m + 1) (by omega) (by omega), w64 (x := (i : Int) + 1) (by omega) (by omega), Int.toNat_natCast, set_mid _ _ _ _ i hp]
  have e : p ++ [m] ++ xs = p ++ m :: xs := by simp
  rw [e] at hr
  refine ev_to hr ?_
  simp only [markI, List.append_assoc, List.cons_append, List.nil_append, List.length_cons, Prod.mk.injEq, and_true]
  push_cast
  omega
theorem laws_markIntS_ev (l : List Int) (m : Int) (h0 : 0 ≤ m) (h1 : m + (l.length : Int) ≤ 4611686018427387904) :
  Ev (fun k => laws_markIntS.f k l m) (m + (l.length : Int), markI l m) := laws_markIntS_l0 l [] m 0 rfl h0 h1 (by omega)
theorem laws_heldIntS_l0 (xs : List Int) : ∀ (p : List Int) (m : Int) (i : Nat), p.length = i → 0 ≤ m → m + (xs.length : Int) ≤ 4611686018427387904 → (i : Int) + xs.length ≤ 4611686018427387904 →
  Ev (fun k => laws_heldIntS.l0 k (p ++ markI xs m) m i) (m + (xs.length : Int)) := by
 induction xs with
 | nil =>
  intro p m i hp h0 h1 h2
  apply ev_succ
  simp only [laws_heldIntS.l0]
  exact ev_neg (by simp [markI]; omega) (ev_some (by simp))
 | cons x xs ih =>
  intro p m i hp h0 h1 h2
  simp only [List.length_cons] at h1 h2
  have hr := ih (p ++ [m]) (m + 1) (i + 1) (by simp [hp]) (by omega) (by omega) (by omega)
  have hrd : rd (p ++ m :: markI xs (m + 1)) (i : Int) = m := rd_midI p _ _ _ i hp
  apply ev_succ
  simp only [laws_heldIntS.l0, markI, hrd]
  refine ev_pos (by simp; omega) (ev_pos (by omega) (ev_pos (by trivial) ?_))
  rw [w64 (x := m + 1) (by omega) (by omega), w64 (x := (i : Int) + 1) (by omega) (by omega)]
  have e : p ++ [m] ++ markI xs (m + 1) = p ++ m :: markI xs (m + 1) := by simp
  rw [e] at hr
  refine ev_to hr ?_
  simp only [List.length_cons]
  push_cast
  omega
theorem laws_heldIntS_ev (l : List Int) (m : Int) (h0 : 0 ≤ m) (h1 : m + (l.length : Int) ≤ 4611686018427387904) :
  Ev (fun k => laws_heldIntS.f k (markI l m) m) (m + (l.length : Int)) := laws_heldIntS_l0 l [] m 0 rfl h0 h1 (by omega)

theorem markP_ev (a b c d : Int) (hd : List Int) (l : List S24) (hh : hd.length ≤ 100) (hs : Small l) : Ev (fun k => laws_markPacket.f k a b c d hd l 1) (endR l (1 + (hd.length : Int)), markI hd 1, markR l (1 + (hd.length : Int))) :=
 Ev.bind (laws_markIntS_ev hd 1 (by omega) (by omega)) (Ev.bind (laws_markRecordS_ev l (1 + (hd.length : Int)) hs (by omega) (by omega)) (Ev.now _))
theorem heldP_ev (a b c d : Int) (hd : List Int) (l : List S24) (hh : hd.length ≤ 100) (hs : Small l) : Ev (fun k => laws_heldPacket.f k a b c d (markI hd 1) (markR l (1 + (hd.length : Int))) 1) (endR l (1 + (hd.length : Int))) := by
 have hq := endR_ge l (1 + (hd.length : Int))
 exact Ev.bind (laws_heldIntS_ev hd 1 (by omega) (by omega)) (ev_neg (by omega) (Ev.bind (laws_heldRecordS_ev l (1 + (hd.length : Int)) hs (by omega) (by omega)) (ev_neg (by omega) (Ev.now _))))
theorem FnExactReadPacket : ∀ (a0 : ByteArray), (a0.size ≤ 140737488351232) → ∃ k, laws_FnExactReadPacket.f k a0 = some true := by
 intro s hs
 refine ev_ex ?_
 unfold laws_FnExactReadPacket.f
 refine ev_ite (fun _ => Ev.now _) (fun hsz => ?_)
 obtain ⟨R, h1, h2, hg⟩ := readpack_ev s (by omega)
 obtain ⟨a, b, c, d, hd, l, ok⟩ := R; obtain ⟨g1, g2, g3⟩ := hg
 simp only at g1 g2 g3
 have hsm : Small l := ⟨by omega, fun x hx => by have := g3 x hx; omega⟩
 have hq := endR_ge l (1 + (hd.length : Int))
 have E : Ev (fun k => laws_eqPacket.f k a b c d hd l a b c d hd l) true := by
  unfold laws_eqPacket.f
  simp only [if_true]
  exact Ev.bind (laws_eqIntS_refl hd (by omega)) (ev_pos rfl (Ev.bind (laws_eqRecordS_refl _ hsm.lens) (ev_pos rfl (Ev.now _))))
 have M := markP_ev a b c d hd l (by omega) hsm
 have H := heldP_ev a b c d hd l (by omega) hsm
 exact Ev.bind h2 (Ev.bind h1 (Ev.bind E (ev_pos rfl (ev_neg (by simp) (Ev.bind M (Ev.bind H (ev_neg (by omega) (ev_pos rfl (Ev.bind h1 (Ev.bind E (ev_pos rfl (ev_neg (by simp) (Ev.bind H (ev_neg (by omega) (ev_pos rfl (Ev.now _))))))))))))))))

end Go.Proofs.Ytnecbkognpponaa.Pure
