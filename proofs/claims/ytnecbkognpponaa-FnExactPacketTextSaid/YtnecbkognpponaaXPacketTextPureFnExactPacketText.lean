import Derived.Test.YtnecbkognpponaaXPacketTextQlawsFnExactPacketText
/- Proved: the pure statement of the law FnExactPacketText, for every input that its statement lets in. -/

set_option linter.unusedVariables false
set_option linter.unusedSimpArgs false
namespace Go.Proofs.Ytnecbkognpponaa.Pure
open Go.RowKit Go.Proofs.Ytnecbkognpponaa.Q Go.Proofs.YtnecbkognpponaaW.PrintWords Go.Proofs.YtnecbkognpponaaW.PrintLast

theorem w64 {x : Int} (h0 : -9223372036854775808 ≤ x) (h1 : x ≤ 9223372036854775807) : wrap64 x = x := by unfold wrap64; omega
theorem bt_b (s : ByteArray) (i : Int) : 0 ≤ bt s i ∧ bt s i < 256 := by have := bt_range s i; omega
theorem tmodp {x m : Int} (h : 0 ≤ x) : Int.tmod x m = x % m := Int.tmod_eq_emod_of_nonneg h
theorem tdivp {x m : Int} (h : 0 ≤ x) : Int.tdiv x m = x / m := Int.tdiv_eq_ediv_of_nonneg h
/-- The bytes of a text, as numbers. -/
def B (s : ByteArray) : List Int := s.data.toList.map fun u => (u.toNat : Int)
def Byt (xs : List Int) : Prop := ∀ x ∈ xs, 0 ≤ x ∧ x < 256
theorem B_len (s : ByteArray) : (B s).length = s.size := by simp [B]
theorem B_str (xs : List Int) (h : Byt xs) : B (strOfNums xs) = xs := by
  simp only [B, strOfNums, List.map_map]
  conv => rhs; rw [← List.map_id xs]
  apply List.map_congr_left
  intro x hx
  have := h x hx
  simp only [Function.comp, UInt8.toNat_ofNat', id]
  omega
theorem B_bt (s : ByteArray) (i : Nat) (h : i < s.size) : (B s)[i]? = some (bt s i) := by
  have h' : i < s.data.toList.length := by rw [Array.length_toList]; exact h
  rw [B, List.getElem?_map, List.getElem?_eq_getElem h']
  simp [bt, h, ByteArray.getElem_eq_getElem_data]
theorem byt_app {xs ys : List Int} (h : Byt xs) (k : Byt ys) : Byt (xs ++ ys) := by
  intro x hx
  rcases List.mem_append.1 hx with hx | hx
  · exact h x hx
  · exact k x hx
theorem ev_ex {α : Type} {g : Nat → Option α} {r : α} (h : Ev g r) : ∃ k, g k = some r := h.rounds

theorem ev_ite {α : Type} {c : Prop} [Decidable c] {g f : Nat → Option α} {r : α} (h : c → Ev g r) (k : ¬ c → Ev f r) : Ev (fun n => if c then g n else f n) r := by
  by_cases hc : c
  · exact Ev.congr (fun n => by rw [if_pos hc]) (h hc)
  · exact Ev.congr (fun n => by rw [if_neg hc]) (k hc)
theorem ev_pos {α : Type} {c : Prop} [Decidable c] {g f : Nat → Option α} {r : α} (hc : c) (h : Ev g r) : Ev (fun n => if c then g n else f n) r := Ev.congr (fun n => by rw [if_pos hc]) h
theorem ev_neg {α : Type} {c : Prop} [Decidable c] {g f : Nat → Option α} {r : α} (hc : ¬ c) (h : Ev f r) : Ev (fun n => if c then g n else f n) r := Ev.congr (fun n => by rw [if_neg hc]) h
theorem ev_some {α : Type} {x r : α} (h : x = r) : Ev (fun _ => some x) r := by rw [h]; exact Ev.now _
theorem ev_succ {α : Type} {g : Nat → Option α} {r : α} (h : Ev (fun k => g (k + 1)) r) : Ev g r := Ev.step (fun _ => rfl) h
theorem ev_to {α : Type} {g : Nat → Option α} {r r' : α} (h : Ev g r) (e : r = r') : Ev g r' := e ▸ h

theorem set_mid {α : Type} (p : List α) (x y : α) (r : List α) (i : Nat) (h : p.length = i) : (p ++ x :: r).set i y = p ++ y :: r := by
  subst h
  simp
theorem drop_at {α : Type} (l : List α) (z : α) (i : Nat) (h : i < l.length) : l.drop i = l.getD i z :: l.drop (i + 1) := by
  rw [List.drop_eq_getElem_cons h, List.getD_eq_getElem?_getD, List.getElem?_eq_getElem h]
  rfl
-- toNear
/-! Near: lists -/
def toNear1 (x : S112) : S63 := ⟨x.f0, x.f1⟩
def toNearL (l : List S112) : List S63 := l.map toNear1
theorem toNearL_len (l : List S112) : (toNearL l).length = l.length := by simp [toNearL]
theorem laws_toNearS_l0_ev (l : List S112) (hl : l.length ≤ 9223372036854775807) (d : Nat) : ∀ i : Nat, i + d = l.length →
    Ev (fun k => laws_toNearS.l0 k l ((toNearL l).take i ++ List.replicate d z63) i) (toNearL l) := by
  induction d with
  | zero =>
    intro i hi
    apply ev_succ
    simp only [laws_toNearS.l0]
    refine ev_neg (by omega) (ev_some ?_)
    rw [List.take_of_length_le (by rw [toNearL_len]; omega)]
    simp
  | succ d ih =>
    intro i hi
    have hr := ih (i + 1) (by omega)
    have hlt : i < (toNearL l).length := by rw [toNearL_len]; omega
    apply ev_succ
    simp only [laws_toNearS.l0, laws_toNear.f, Option.bind_some]
    have hset : ((toNearL l).take i ++ List.replicate (d + 1) z63).set ((i : Int).toNat) (⟨(rd_T112 l i).f0, (rd_T112 l i).f1⟩ : S63) = (toNearL l).take (i + 1) ++ List.replicate d z63 := by
      rw [List.replicate_succ, set_mid _ _ _ _ _ (by rw [List.length_take]; omega), List.take_succ_eq_append_getElem hlt]
      rw [List.append_assoc]
      congr 1
      simp only [List.singleton_append]
      congr 1
      have hli : i < l.length := by omega
      simp [toNearL, toNear1, rd_T112, List.getD_eq_getElem?_getD, hli]
    rw [hset, w64 (by omega) (by omega)]
    refine ev_pos (by omega) (ev_pos (by omega) (ev_pos ?_ hr))
    simp only [List.length_append, List.length_take, List.length_replicate, toNearL_len]
    omega
theorem laws_toNearS_ev (l : List S112) (hl : l.length ≤ 1048576) : Ev (fun k => laws_toNearS.f k l) (toNearL l) := by
  unfold laws_toNearS.f
  refine ev_pos (by omega) (ev_pos (by omega) ?_)
  exact laws_toNearS_l0_ev l (by omega) l.length 0 (by omega)

theorem laws_szNearS_eq (l : List S112) (hl : l.length ≤ 9223372036854775807) (n : Int) (h0 : 0 ≤ n) (h1 : n ≤ 1048576) : laws_szNearS.f l n = some (if n < (l.length : Int) then -1 else n - l.length) := by
  unfold laws_szNearS.f
  rw [w64 (by omega) (by omega)]
  by_cases h : n < (l.length : Int)
  · rw [if_pos (by omega), if_pos h]
  · rw [if_neg (by omega), if_neg h]

theorem laws_toRecord_ev (a b c d e : Int) (l : List S112) (f : Int) (g : Bool) (hl : l.length ≤ 1048576) : Ev (fun k => laws_toRecord.f k a b c d e l f g) (a, b, c, d, e, toNearL l, f, g) := by
  unfold laws_toRecord.f
  exact Ev.bind (laws_toNearS_ev l hl) (Ev.now _)
theorem laws_szRecord_eq (a b c d e : Int) (l : List S112) (f : Int) (g : Bool) (hl : l.length ≤ 9223372036854775807) (n : Int) (h0 : 0 ≤ n) (h1 : n ≤ 1048576) :
    laws_szRecord.f a b c d e l f g n = some (if n < (l.length : Int) then -1 else n - l.length) := by
  unfold laws_szRecord.f
  rw [laws_szNearS_eq l hl n h0 h1, Option.bind_some]
  by_cases h : n < (l.length : Int)
  · rw [if_pos h, if_pos (by omega)]
  · rw [if_neg h, if_neg (by omega)]

theorem laws_eqNear_refl (a b : Int) : laws_eqNear.f a b a b = some true := by
  unfold laws_eqNear.f
  simp
theorem laws_eqNearS_l0_ev (l : List S63) (hl : l.length ≤ 9223372036854775807) (d : Nat) : ∀ i : Nat, i + d = l.length → Ev (fun k => laws_eqNearS.l0 k l l i) true := by
  induction d with
  | zero =>
    intro i hi
    apply ev_succ
    simp only [laws_eqNearS.l0]
    exact ev_neg (by omega) (Ev.now _)
  | succ d ih =>
    intro i hi
    apply ev_succ
    simp only [laws_eqNearS.l0, laws_eqNear_refl, if_true, Option.bind_some]
    rw [w64 (by omega) (by omega)]
    exact ev_pos (by omega) (ev_pos (by omega) (ev_pos (by omega) (ih (i + 1) (by omega))))
theorem laws_eqNearS_refl (l : List S63) (hl : l.length ≤ 9223372036854775807) : Ev (fun k => laws_eqNearS.f k l l) true := by
  unfold laws_eqNearS.f
  exact ev_pos rfl (laws_eqNearS_l0_ev l hl l.length 0 (by omega))

theorem laws_eqRecord_refl (a b c d e : Int) (l : List S63) (f : Int) (g : Bool) (hl : l.length ≤ 9223372036854775807) : Ev (fun k => laws_eqRecord.f k a b c d e l f g a b c d e l f g) true := by
  unfold laws_eqRecord.f
  simp only [if_true]
  refine Ev.bind (laws_eqNearS_refl l hl) ?_
  simp
  exact Ev.now _

def toRec1 (x : S100) : S24 := ⟨x.f0, x.f1, x.f2, x.f3, x.f4, toNearL x.f5, x.f6, x.f7⟩
def toRecL (l : List S100) : List S24 := l.map toRec1
theorem toRecL_len (l : List S100) : (toRecL l).length = l.length := by simp [toRecL]
/-- No list of a record is longer than can be counted. -/
def Lens (s : List S24) : Prop := s.length ≤ 9223372036854775000 ∧ ∀ x ∈ s, x.f5.length ≤ 9223372036854775000
theorem getD_mem {α : Type} (l : List α) (z : α) (i : Nat) (h : i < l.length) : l.getD i z ∈ l := by
  rw [List.getD_eq_getElem?_getD, List.getElem?_eq_getElem h]
  exact List.getElem_mem h
theorem laws_toRecordS_l0_ev (l : List S100) (hl : l.length ≤ 9223372036854775000) (hx : ∀ x ∈ l, x.f5.length ≤ 1048576) (d : Nat) : ∀ i : Nat, i + d = l.length →
    Ev (fun k => laws_toRecordS.l0 k l ((toRecL l).take i ++ List.replicate d z24) i) (toRecL l) := by
  induction d with
  | zero =>
    intro i hi
    apply ev_succ
    simp only [laws_toRecordS.l0]
    refine ev_neg (by omega) (ev_some ?_)
    rw [List.take_of_length_le (by rw [toRecL_len]; omega)]
    simp
  | succ d ih =>
    intro i hi
    have hr := ih (i + 1) (by omega)
    have hli : i < l.length := by omega
    have hlt : i < (toRecL l).length := by rw [toRecL_len]; omega
    obtain ⟨x, hxe⟩ : ∃ x, rd_T100 l (i : Int) = x := ⟨_, rfl⟩
    have hx2 : l.getD i z100 = x := hxe
    have hm : x ∈ l := by rw [← hx2]; exact getD_mem l _ i hli
    apply ev_succ
    simp only [laws_toRecordS.l0, hxe]
    have hset : ((toRecL l).take i ++ List.replicate (d + 1) z24).set ((i : Int).toNat) (toRec1 x) = (toRecL l).take (i + 1) ++ List.replicate d z24 := by
      rw [List.replicate_succ, set_mid _ _ _ _ _ (by rw [List.length_take]; omega), List.take_succ_eq_append_getElem hlt]
      rw [List.append_assoc]
      congr 1
      simp only [List.singleton_append]
      congr 1
      rw [← hx2]
      simp [toRecL, List.getD_eq_getElem?_getD, hli]
    refine ev_pos (by omega) (ev_pos (by omega) (Ev.bind (laws_toRecord_ev x.f0 x.f1 x.f2 x.f3 x.f4 x.f5 x.f6 x.f7 (hx x hm)) (ev_pos ?_ ?_)))
    · simp only [List.length_append, List.length_take, List.length_replicate, toRecL_len]
      omega
    · have hset' : ((toRecL l).take i ++ List.replicate (d + 1) z24).set ((i : Int).toNat) (⟨x.f0, x.f1, x.f2, x.f3, x.f4, toNearL x.f5, x.f6, x.f7⟩ : S24) = (toRecL l).take (i + 1) ++ List.replicate d z24 := hset
      simp only [hset']
      rw [w64 (by omega) (by omega)]
      exact hr
theorem laws_toRecordS_ev (l : List S100) (hl : l.length ≤ 1048576) (hx : ∀ x ∈ l, x.f5.length ≤ 1048576) : Ev (fun k => laws_toRecordS.f k l) (toRecL l) := by
  unfold laws_toRecordS.f
  refine ev_pos (by omega) (ev_pos (by omega) ?_)
  exact laws_toRecordS_l0_ev l (by omega) hx l.length 0 (by omega)
theorem laws_szRecordS_l0 (l : List S100) (hl : l.length ≤ 9223372036854775000) (hx : ∀ x ∈ l, x.f5.length ≤ 9223372036854775807) (d : Nat) : ∀ (i : Nat) (n : Int), i + d = l.length → 0 ≤ n → n ≤ 1048576 →
    (Ev (fun k => laws_szRecordS.l0 k l n i) (-1)) ∨ (∃ t, Ev (fun k => laws_szRecordS.l0 k l n i) t ∧ 0 ≤ t ∧ t ≤ n ∧ ∀ x ∈ l.drop i, x.f5.length ≤ 1048576) := by
  induction d with
  | zero =>
    intro i n hi h0 h1
    refine .inr ⟨n, ?_, h0, by omega, by rw [List.drop_eq_nil_of_le (by omega)]; simp⟩
    apply ev_succ
    simp only [laws_szRecordS.l0]
    exact ev_neg (by omega) (Ev.now _)
  | succ d ih =>
    intro i n hi h0 h1
    have hli : i < l.length := by omega
    obtain ⟨x, hxe⟩ : ∃ x, rd_T100 l (i : Int) = x := ⟨_, rfl⟩
    have hx2 : l.getD i z100 = x := hxe
    have hm : x ∈ l := by rw [← hx2]; exact getD_mem l _ i hli
    have key : ∀ r, (n < (x.f5.length : Int) → r = -1) → (¬ n < (x.f5.length : Int) → Ev (fun k => laws_szRecordS.l0 k l (n - x.f5.length) ((i : Int) + 1)) r) → Ev (fun k => laws_szRecordS.l0 k l n i) r := by
      intro r ha hb
      apply ev_succ
      simp only [laws_szRecordS.l0, hxe]
      rw [laws_szRecord_eq x.f0 x.f1 x.f2 x.f3 x.f4 x.f5 x.f6 x.f7 (hx x hm) n h0 h1, w64 (by omega) (by omega)]
      simp only [Option.bind_some]
      refine ev_pos (by omega) (ev_pos (by omega) ?_)
      by_cases hc : n < (x.f5.length : Int)
      · rw [if_pos hc]
        rw [ha hc]
        exact ev_pos (by omega) (Ev.now _)
      · rw [if_neg hc]
        exact ev_neg (by omega) (hb hc)
    by_cases hc : n < (x.f5.length : Int)
    · exact .inl (key _ (fun _ => rfl) (fun h => absurd hc h))
    · rcases ih (i + 1) (n - x.f5.length) (by omega) (by omega) (by omega) with h | ⟨t, h, h2, h3, h4⟩
      · exact .inl (key _ (fun h => absurd h hc) (fun _ => h))
      · refine .inr ⟨t, key _ (fun h => absurd h hc) (fun _ => h), h2, by omega, fun y hy => ?_⟩
        rw [drop_at l z100 i hli, hx2] at hy
        rcases List.mem_cons.1 hy with rfl | hy
        · omega
        · exact h4 y hy
theorem laws_szRecordS_cases (l : List S100) (hl : l.length ≤ 9223372036854775807) (hx : ∀ x ∈ l, x.f5.length ≤ 9223372036854775807) (n : Int) (h0 : 0 ≤ n) (h1 : n ≤ 1048576) :
    (Ev (fun k => laws_szRecordS.f k l n) (-1)) ∨ (∃ t, Ev (fun k => laws_szRecordS.f k l n) t ∧ 0 ≤ t ∧ t ≤ n ∧ l.length ≤ 1048576 ∧ ∀ x ∈ l, x.f5.length ≤ 1048576) := by
  unfold laws_szRecordS.f
  rw [w64 (by omega) (by omega)]
  by_cases hc : n < (l.length : Int)
  · exact .inl (ev_pos (by omega) (Ev.now _))
  · rcases laws_szRecordS_l0 l (by omega) hx l.length 0 (n - l.length) (by omega) (by omega) (by omega) with h | ⟨t, h, h2, h3, h4⟩
    · exact .inl (ev_neg (by omega) h)
    · exact .inr ⟨t, ev_neg (by omega) h, h2, by omega, by omega, fun x hm => h4 x (by simpa using hm)⟩
theorem laws_eqRecordS_l0_ev (l : List S24) (hl : Lens l) (d : Nat) : ∀ i : Nat, i + d = l.length → Ev (fun k => laws_eqRecordS.l0 k l l i) true := by
  induction d with
  | zero =>
    intro i hi
    apply ev_succ
    simp only [laws_eqRecordS.l0]
    exact ev_neg (by omega) (Ev.now _)
  | succ d ih =>
    intro i hi
    have h1 := hl.1; obtain ⟨x, hxe⟩ : ∃ x, rd_T24 l (i : Int) = x := ⟨_, rfl⟩
    have hx2 : l.getD i z24 = x := hxe
    have hm : x ∈ l := by rw [← hx2]; exact getD_mem l _ i (by omega)
    have h2 := hl.2 x hm
    apply ev_succ
    simp only [laws_eqRecordS.l0, hxe]
    rw [w64 (by omega) (by omega)]
    refine ev_pos (by omega) (ev_pos (by omega) (ev_pos (by omega) (Ev.bind (laws_eqRecord_refl _ _ _ _ _ _ _ _ (by omega)) (ev_pos rfl (ih (i + 1) (by omega))))))
theorem laws_eqRecordS_refl (l : List S24) (hl : Lens l) : Ev (fun k => laws_eqRecordS.f k l l) true := by
  unfold laws_eqRecordS.f
  exact ev_pos rfl (laws_eqRecordS_l0_ev l hl l.length 0 (by omega))

def sameKey (a b : S24) : Bool := decide (a.f0 = b.f0 ∧ a.f1 = b.f1 ∧ a.f2 = b.f2 ∧ a.f3 = b.f3)
def beforeB (a b : S24) : Bool := decide (a.f0 < b.f0 ∨ a.f0 = b.f0 ∧ (a.f1 < b.f1 ∨ a.f1 = b.f1 ∧ (a.f2 < b.f2 ∨ a.f2 = b.f2 ∧ a.f3 < b.f3)))
theorem spec_l01In_eq (a b c : Int) : spec_l01In.f a b c = some (decide (b ≤ a ∧ a ≤ c)) := by
  unfold spec_l01In.f
  by_cases h : a ≥ b
  · rw [if_pos h]; congr 1; simp; omega
  · rw [if_neg h]; congr 1; simp; omega

theorem impl_in_eq (a b c : Int) : impl_in.f a b c = some (decide (b ≤ a ∧ a ≤ c)) := by
  unfold impl_in.f
  by_cases h : a ≥ b
  · rw [if_pos h]; congr 1; simp; omega
  · rw [if_neg h]; congr 1; simp; omega

/-- What is near ascends, and is right; the one before, if there is one. -/
def nearGo (ow : Int) : Option Int → List S63 → Bool
  | _, [] => true
  | p, x :: xs => decide (1 ≤ x.f0 ∧ x.f0 ≤ 6) && !decide (x.f0 = ow) && decide (1 ≤ x.f1 ∧ x.f1 ≤ 1000) && p.all (fun y => decide (y < x.f0)) && nearGo ow (some x.f0) xs
def nearB (ow : Int) (l : List S63) : Bool := nearGo ow none l
def pvN (l : List S63) (i : Nat) : Option Int := if i = 0 then none else some (l.getD (i - 1) z63).f0
theorem pvN_succ (l : List S63) (i : Nat) : pvN l (i + 1) = some (l.getD i z63).f0 := by simp [pvN]
theorem rdNp (l : List S63) (i : Nat) (h : 0 < i) (hl : i < 9223372036854775807) : rd_T63 l (wrap64 ((i : Int) - 1)) = l.getD (i - 1) z63 := by
  rw [w64 (by omega) (by omega), show (i : Int) - 1 = ((i - 1 : Nat) : Int) by omega]
  rfl

/-- Is what a record holds right for its kind? -/
def recK (ar ki ow ke : Int) (l : List S63) (co : Int) (fa : Bool) : Bool :=
  if ki = 1 then decide (0 ≤ ar ∧ ar ≤ 2) && decide (ke = 0) && nearB ow l && decide (co = 0) && !fa
  else if ki = 2 then decide (0 ≤ ar ∧ ar ≤ 2) && decide (1 ≤ ke ∧ ke ≤ 6) && decide (l.length = 0) && decide (0 ≤ co ∧ co ≤ 60000) && !fa
  else if ki = 3 then decide (ar = 9) && decide (1 ≤ ke ∧ ke ≤ 9) && decide (l.length = 0) && (decide (1 ≤ co ∧ co ≤ 1000) || (co == 60000))
  else false
def recB (ar ki ow ke se : Int) (l : List S63) (co : Int) (fa : Bool) : Bool := decide (1 ≤ ow ∧ ow ≤ 6) && decide (1 ≤ se ∧ se ≤ 100000) && recK ar ki ow ke l co fa

def recR (r : S24) : Bool := recB r.f0 r.f1 r.f2 r.f3 r.f4 r.f5 r.f6 r.f7
/-- Right records, one ahead of the other; the one before, if there is one. -/
def storeGo : Option S24 → List S24 → Bool
  | _, [] => true
  | p, x :: xs => recR x && p.all (fun y => beforeB y x) && storeGo (some x) xs
def storeB (s : List S24) : Bool := decide (s.length ≤ 150) && storeGo none s
def pvR (l : List S24) (i : Nat) : Option S24 := if i = 0 then none else some (l.getD (i - 1) z24)
theorem pvR_succ (l : List S24) (i : Nat) : pvR l (i + 1) = some (l.getD i z24) := by simp [pvR]
theorem rdRp (l : List S24) (i : Nat) (h : 0 < i) (hl : i < 9223372036854775807) : rd_T24 l (wrap64 ((i : Int) - 1)) = l.getD (i - 1) z24 := by
  rw [w64 (by omega) (by omega), show (i : Int) - 1 = ((i - 1 : Nat) : Int) by omega]
  rfl

theorem spec_Before_eq (a b : S24) : spec_Before.f a.f0 a.f1 a.f2 a.f3 a.f4 a.f5 a.f6 a.f7 b.f0 b.f1 b.f2 b.f3 b.f4 b.f5 b.f6 b.f7 = some (beforeB a b) := by
  unfold spec_Before.f beforeB
  by_cases h0 : a.f0 = b.f0
  · by_cases h1 : a.f1 = b.f1
    · by_cases h2 : a.f2 = b.f2
      · rw [if_pos h0, if_pos h1, if_pos h2]
        congr 1
        rw [Bool.eq_iff_iff, decide_eq_true_eq, decide_eq_true_eq]
        omega
      · rw [if_pos h0, if_pos h1, if_neg h2]
        congr 1
        rw [Bool.eq_iff_iff, decide_eq_true_eq, decide_eq_true_eq]
        omega
    · rw [if_pos h0, if_neg h1]
      congr 1
      rw [Bool.eq_iff_iff, decide_eq_true_eq, decide_eq_true_eq]
      omega
  · rw [if_neg h0]
    congr 1
    rw [Bool.eq_iff_iff, decide_eq_true_eq, decide_eq_true_eq]
    omega

theorem spec_l04Near_l0_ev (q0 q1 ow q3 q4 q6 : Int) (q7 : Bool) (l : List S63) (hl : l.length ≤ 9223372036854775807) (d : Nat) : ∀ i : Nat, i + d = l.length →
    Ev (fun k => spec_l04Near.l0 k i q0 q1 ow q3 q4 l q6 q7) (nearGo ow (pvN l i) (l.drop i)) := by
  induction d with
  | zero =>
    intro i hi
    rw [List.drop_eq_nil_of_le (by omega)]
    apply ev_succ
    simp only [spec_l04Near.l0]
    exact ev_neg (by omega) (ev_some rfl)
  | succ d ih =>
    intro i hi
    have hr := ih (i + 1) (by omega)
    obtain ⟨x, hx⟩ : ∃ x, rd_T63 l (i : Int) = x := ⟨_, rfl⟩
    have hx2 : l.getD i z63 = x := hx
    rw [pvN_succ, hx2] at hr
    rw [drop_at l z63 i (by omega), hx2]
    apply ev_succ
    simp only [spec_l04Near.l0, spec_l01In_eq, Option.bind_some, decide_eq_true_eq, hx]
    rw [nearGo]
    refine ev_pos (by omega) (ev_pos (by omega) ?_)
    refine ev_ite (fun h1 => ?_) (fun h1 => ev_some (by rw [decide_eq_false h1]; rfl))
    refine ev_ite (fun h2 => ev_some (by rw [decide_eq_true h1, decide_eq_true h2]; rfl)) (fun h2 => ?_)
    refine ev_ite (fun h3 => ?_) (fun h3 => ev_some (by rw [decide_eq_true h1, decide_eq_false h2, decide_eq_false h3]; rfl))
    refine ev_ite (fun h4 => ?_) (fun h4 => ?_)
    · have h0 : 0 < i := by omega
      refine ev_pos (by rw [w64 (by omega) (by omega)]; omega) (ev_pos (by rw [w64 (by omega) (by omega)]; omega) ?_)
      have hp : pvN l i = some (l.getD (i - 1) z63).f0 := by unfold pvN; rw [if_neg (by omega)]
      rw [hp, rdNp l i h0 (by omega)]
      refine ev_ite (fun h5 => ev_some ?_) (fun h5 => ?_)
      · have h6 : ¬ ((l.getD (i - 1) z63).f0 < x.f0) := by omega
        simp only [Option.all_some, decide_eq_false h6, Bool.and_false, Bool.false_and]
      · have h6 : (l.getD (i - 1) z63).f0 < x.f0 := by omega
        rw [w64 (by omega) (by omega)]
        refine ev_to hr ?_
        simp only [Option.all_some, decide_eq_true h6, decide_eq_true h1, decide_eq_false h2, decide_eq_true h3, Bool.true_and, Bool.not_false]
    · have h0 : i = 0 := by omega
      have hp : pvN l i = none := by rw [h0]; rfl
      rw [hp, w64 (by omega) (by omega)]
      refine ev_to hr ?_
      simp only [Option.all_none, decide_eq_true h1, decide_eq_false h2, decide_eq_true h3, Bool.true_and, Bool.not_false]
theorem spec_l04Near_ev (q0 q1 ow q3 q4 q6 : Int) (q7 : Bool) (l : List S63) (hl : l.length ≤ 9223372036854775807) : Ev (fun k => spec_l04Near.f k q0 q1 ow q3 q4 l q6 q7) (nearB ow l) :=
  spec_l04Near_l0_ev q0 q1 ow q3 q4 q6 q7 l hl l.length 0 (by omega)

-- spec_RecordOk
/-! spec_RecordOk -/
theorem spec_RecordOk_ev (ar ki ow ke se : Int) (l : List S63) (co : Int) (fa : Bool) (hl : l.length ≤ 9223372036854775807) : Ev (fun k => spec_RecordOk.f k ar ki ow ke se l co fa) (recB ar ki ow ke se l co fa) := by
  have hj : ∀ b : Bool, Ev (fun k => spec_RecordOk.j0 k b ar ki ow ke se l co fa) (!b && recK ar ki ow ke l co fa) := by
    intro b
    apply ev_succ
    simp only [spec_RecordOk.j0, spec_l01In_eq, Option.bind_some, decide_eq_true_eq]
    refine ev_ite (fun hb => ev_some (by simp [hb])) (fun hb => ?_)
    have hb' : b = false := by simpa using hb
    rw [hb']
    unfold recK
    refine ev_ite (fun h1 => ?_) (fun h1 => ?_)
    · rw [if_pos h1]
      refine ev_ite (fun h2 => ?_) (fun h2 => ev_some (by simp [h2]))
      refine ev_ite (fun h3 => ?_) (fun h3 => ev_some (by simp [h3]))
      refine Ev.bind (spec_l04Near_ev ar ki ow ke se co fa l hl) ?_
      refine ev_ite (fun h4 => ?_) (fun h4 => ev_some (by simp [h4]))
      refine ev_ite (fun h5 => ev_some ?_) (fun h5 => ev_some (by simp [h5]))
      simp [h2, h3, h4, h5]
    · rw [if_neg h1]
      refine ev_ite (fun h1 => ?_) (fun h1 => ?_)
      · rw [if_pos h1]
        refine ev_ite (fun h2 => ?_) (fun h2 => ev_some (by simp [h2]))
        refine ev_ite (fun h3 => ?_) (fun h3 => ev_some (by simp [h3]))
        refine ev_ite (fun h4 => ?_) (fun h4 => ev_some ?_)
        · have h4' : l.length = 0 := by omega
          refine ev_ite (fun h5 => ev_some ?_) (fun h5 => ev_some (by simp [h5]))
          simp [h2, h3, h4', h5]
        · have h4' : ¬ l.length = 0 := by omega
          simp [h4']
      · rw [if_neg h1]
        refine ev_ite (fun h1 => ?_) (fun h1 => ?_)
        · rw [if_pos h1]
          refine ev_ite (fun h2 => ?_) (fun h2 => ev_some (by simp [h2]))
          refine ev_ite (fun h3 => ?_) (fun h3 => ev_some (by simp [h3]))
          refine ev_ite (fun h4 => ?_) (fun h4 => ev_some ?_)
          · have h4' : l.length = 0 := by omega
            refine ev_ite (fun h5 => ev_some ?_) (fun h5 => ev_some ?_)
            · simp [h2, h3, h4', h5]
            · simp [h2, h3, h4', h5]
          · have h4' : ¬ l.length = 0 := by omega
            simp [h4']
        · rw [if_neg h1]
          exact ev_some (by simp)
  unfold spec_RecordOk.f
  simp only [spec_l01In_eq, Option.bind_some, decide_eq_true_eq]
  unfold recB
  refine ev_ite (fun h1 => ?_) (fun h1 => ?_)
  · exact ev_to (hj _) (by simp [h1])
  · exact ev_to (hj _) (by simp [h1])

theorem spec_StoreOk_l0_ev (l : List S24) (hl : Lens l) (d : Nat) : ∀ i : Nat, i + d = l.length →
    Ev (fun k => spec_StoreOk.l0 k l i) (storeGo (pvR l i) (l.drop i)) := by
  have hl1 := hl.1
  induction d with
  | zero =>
    intro i hi
    rw [List.drop_eq_nil_of_le (by omega)]
    apply ev_succ
    simp only [spec_StoreOk.l0]
    exact ev_neg (by omega) (ev_some (by simp [storeGo]))
  | succ d ih =>
    intro i hi
    have hr := ih (i + 1) (by omega)
    obtain ⟨x, hx⟩ : ∃ x, rd_T24 l (i : Int) = x := ⟨_, rfl⟩
    have hx2 : l.getD i z24 = x := hx
    have hm : x ∈ l := by rw [← hx2]; exact getD_mem l _ i (by omega)
    have hn := hl.2 x hm; rw [pvR_succ, hx2] at hr
    rw [drop_at l z24 i (by omega), hx2, storeGo]
    apply ev_succ
    simp only [spec_StoreOk.l0, hx]
    rw [w64 (x := (i : Int) + 1) (by omega) (by omega)]
    refine ev_pos (by omega) (ev_pos (by omega) ?_)
    refine Ev.bind (spec_RecordOk_ev x.f0 x.f1 x.f2 x.f3 x.f4 x.f5 x.f6 x.f7 (by omega)) ?_
    have hrec : recB x.f0 x.f1 x.f2 x.f3 x.f4 x.f5 x.f6 x.f7 = recR x := rfl
    rw [hrec]
    refine ev_ite (fun h1 => ?_) (fun h1 => ev_some (by simp [h1]))
    refine ev_ite (fun h2 => ?_) (fun h2 => ?_)
    · have h0 : 0 < i := by omega
      have hp : pvR l i = some (l.getD (i - 1) z24) := by unfold pvR; rw [if_neg (by omega)]
      rw [hp]
      simp only [rdRp l i h0 (by omega), spec_Before_eq, Option.bind_some]
      refine ev_pos (by rw [w64 (by omega) (by omega)]; omega) (ev_pos (by rw [w64 (by omega) (by omega)]; omega) ?_)
      refine ev_ite (fun h3 => ?_) (fun h3 => ev_some ?_)
      · refine ev_to hr ?_
        simp only [Option.all_some, h1, h3, Bool.true_and]
      · have h3' : beforeB (l.getD (i - 1) z24) x = false := by simpa using h3
        simp only [Option.all_some, h3', Bool.and_false, Bool.false_and]
    · have h0 : i = 0 := by omega
      have hp : pvR l i = none := by rw [h0]; rfl
      rw [hp]
      refine ev_to hr ?_
      simp [h1]
theorem spec_StoreOk_ev (l : List S24) (hl : Lens l) : Ev (fun k => spec_StoreOk.f k l) (storeB l) := by
  unfold spec_StoreOk.f storeB
  refine ev_ite (fun h => ev_some ?_) (fun h => ?_)
  · rw [decide_eq_false (by omega), Bool.false_and]
  · rw [decide_eq_true (by omega), Bool.true_and]
    exact spec_StoreOk_l0_ev l hl l.length 0 (by omega)

theorem impl_Before_eq (a b : S24) : impl_Before.f a.f0 a.f1 a.f2 a.f3 a.f4 a.f5 a.f6 a.f7 b.f0 b.f1 b.f2 b.f3 b.f4 b.f5 b.f6 b.f7 = some (beforeB a b) := by
  unfold impl_Before.f beforeB
  by_cases h0 : a.f0 = b.f0
  · by_cases h1 : a.f1 = b.f1
    · by_cases h2 : a.f2 = b.f2
      · rw [if_pos h0, if_pos h1, if_pos h2]
        congr 1
        rw [Bool.eq_iff_iff, decide_eq_true_eq, decide_eq_true_eq]
        omega
      · rw [if_pos h0, if_pos h1, if_neg h2]
        congr 1
        rw [Bool.eq_iff_iff, decide_eq_true_eq, decide_eq_true_eq]
        omega
    · rw [if_pos h0, if_neg h1]
      congr 1
      rw [Bool.eq_iff_iff, decide_eq_true_eq, decide_eq_true_eq]
      omega
  · rw [if_neg h0]
    congr 1
    rw [Bool.eq_iff_iff, decide_eq_true_eq, decide_eq_true_eq]
    omega

theorem impl_nearOk_l0_ev (q0 q1 ow q3 q4 q6 : Int) (q7 : Bool) (l : List S63) (hl : l.length ≤ 9223372036854775807) (d : Nat) : ∀ i : Nat, i + d = l.length →
    Ev (fun k => impl_nearOk.l0 k l (l.length : Int) i q0 q1 ow q3 q4 l q6 q7) (nearGo ow (pvN l i) (l.drop i)) := by
  induction d with
  | zero =>
    intro i hi
    rw [List.drop_eq_nil_of_le (by omega)]
    apply ev_succ
    simp only [impl_nearOk.l0]
    exact ev_neg (by omega) (ev_some rfl)
  | succ d ih =>
    intro i hi
    have hr := ih (i + 1) (by omega)
    obtain ⟨x, hx⟩ : ∃ x, rd_T63 l (i : Int) = x := ⟨_, rfl⟩
    have hx2 : l.getD i z63 = x := hx
    rw [pvN_succ, hx2] at hr
    rw [drop_at l z63 i (by omega), hx2]
    apply ev_succ
    simp only [impl_nearOk.l0, impl_in_eq, Option.bind_some, decide_eq_true_eq, hx]
    rw [nearGo]
    refine ev_pos (by omega) (ev_pos (by omega) (ev_pos (by omega) ?_))
    refine ev_ite (fun h1 => ?_) (fun h1 => ev_some (by rw [decide_eq_false h1]; rfl))
    refine ev_ite (fun h2 => ev_some (by rw [decide_eq_true h1, decide_eq_true h2]; rfl)) (fun h2 => ?_)
    refine ev_ite (fun h3 => ?_) (fun h3 => ev_some (by rw [decide_eq_true h1, decide_eq_false h2, decide_eq_false h3]; rfl))
    refine ev_ite (fun h4 => ?_) (fun h4 => ?_)
    · have h0 : 0 < i := by omega
      refine ev_pos (by rw [w64 (by omega) (by omega)]; omega) (ev_pos (by rw [w64 (by omega) (by omega)]; omega) ?_)
      have hp : pvN l i = some (l.getD (i - 1) z63).f0 := by unfold pvN; rw [if_neg (by omega)]
      rw [hp, rdNp l i h0 (by omega)]
      refine ev_ite (fun h5 => ev_some ?_) (fun h5 => ?_)
      · have h6 : ¬ ((l.getD (i - 1) z63).f0 < x.f0) := by omega
        simp only [Option.all_some, decide_eq_false h6, Bool.and_false, Bool.false_and]
      · have h6 : (l.getD (i - 1) z63).f0 < x.f0 := by omega
        rw [w64 (by omega) (by omega)]
        refine ev_to hr ?_
        simp only [Option.all_some, decide_eq_true h6, decide_eq_true h1, decide_eq_false h2, decide_eq_true h3, Bool.true_and, Bool.not_false]
    · have h0 : i = 0 := by omega
      have hp : pvN l i = none := by rw [h0]; rfl
      rw [hp, w64 (by omega) (by omega)]
      refine ev_to hr ?_
      simp only [Option.all_none, decide_eq_true h1, decide_eq_false h2, decide_eq_true h3, Bool.true_and, Bool.not_false]
theorem impl_nearOk_ev (q0 q1 ow q3 q4 q6 : Int) (q7 : Bool) (l : List S63) (hl : l.length ≤ 9223372036854775807) : Ev (fun k => impl_nearOk.f k q0 q1 ow q3 q4 l q6 q7) (nearB ow l) :=
  impl_nearOk_l0_ev q0 q1 ow q3 q4 q6 q7 l hl l.length 0 (by omega)

-- impl_RecordOk
/-! impl_RecordOk -/
theorem impl_RecordOk_ev (ar ki ow ke se : Int) (l : List S63) (co : Int) (fa : Bool) (hl : l.length ≤ 9223372036854775807) : Ev (fun k => impl_RecordOk.f k ar ki ow ke se l co fa) (recB ar ki ow ke se l co fa) := by
  have hj : ∀ b : Bool, Ev (fun k => impl_RecordOk.j0 k b ar ki ow ke se l co fa) (!b && recK ar ki ow ke l co fa) := by
    intro b
    apply ev_succ
    simp only [impl_RecordOk.j0, impl_in_eq, Option.bind_some, decide_eq_true_eq]
    refine ev_ite (fun hb => ev_some (by simp [hb])) (fun hb => ?_)
    have hb' : b = false := by simpa using hb
    rw [hb']
    unfold recK
    refine ev_ite (fun h1 => ?_) (fun h1 => ?_)
    · rw [if_pos h1]
      refine ev_ite (fun h2 => ?_) (fun h2 => ev_some (by simp [h2]))
      refine ev_ite (fun h3 => ?_) (fun h3 => ev_some (by simp [h3]))
      refine Ev.bind (impl_nearOk_ev ar ki ow ke se co fa l hl) ?_
      refine ev_ite (fun h4 => ?_) (fun h4 => ev_some (by simp [h4]))
      refine ev_ite (fun h5 => ev_some ?_) (fun h5 => ev_some (by simp [h5]))
      simp [h2, h3, h4, h5]
    · rw [if_neg h1]
      refine ev_ite (fun h1 => ?_) (fun h1 => ?_)
      · rw [if_pos h1]
        refine ev_ite (fun h2 => ?_) (fun h2 => ev_some (by simp [h2]))
        refine ev_ite (fun h3 => ?_) (fun h3 => ev_some (by simp [h3]))
        refine ev_ite (fun h4 => ?_) (fun h4 => ev_some ?_)
        · have h4' : l.length = 0 := by omega
          refine ev_ite (fun h5 => ev_some ?_) (fun h5 => ev_some (by simp [h5]))
          simp [h2, h3, h4', h5]
        · have h4' : ¬ l.length = 0 := by omega
          simp [h4']
      · rw [if_neg h1]
        refine ev_ite (fun h1 => ?_) (fun h1 => ?_)
        · rw [if_pos h1]
          refine ev_ite (fun h2 => ?_) (fun h2 => ev_some (by simp [h2]))
          refine ev_ite (fun h3 => ?_) (fun h3 => ev_some (by simp [h3]))
          refine ev_ite (fun h4 => ?_) (fun h4 => ev_some ?_)
          · have h4' : l.length = 0 := by omega
            refine ev_ite (fun h5 => ev_some ?_) (fun h5 => ev_some ?_)
            · simp [h2, h3, h4', h5]
            · simp [h2, h3, h4', h5]
          · have h4' : ¬ l.length = 0 := by omega
            simp [h4']
        · rw [if_neg h1]
          exact ev_some (by simp)
  unfold impl_RecordOk.f
  simp only [impl_in_eq, Option.bind_some, decide_eq_true_eq]
  unfold recB
  refine ev_ite (fun h1 => ?_) (fun h1 => ?_)
  · exact ev_to (hj _) (by simp [h1])
  · exact ev_to (hj _) (by simp [h1])

theorem impl_StoreOk_l0_ev (l : List S24) (hl : Lens l) (d : Nat) : ∀ i : Nat, i + d = l.length →
    Ev (fun k => impl_StoreOk.l0 k l l (l.length : Int) i) (decide (l.length ≤ 150) && storeGo (pvR l i) (l.drop i)) := by
  have hl1 := hl.1
  induction d with
  | zero =>
    intro i hi
    rw [List.drop_eq_nil_of_le (by omega)]
    apply ev_succ
    simp only [impl_StoreOk.l0]
    exact ev_neg (by omega) (ev_some (by rw [storeGo, Bool.and_true]; by_cases h : l.length ≤ 150 <;> simp [h] <;> omega))
  | succ d ih =>
    intro i hi
    have hr := ih (i + 1) (by omega)
    obtain ⟨x, hx⟩ : ∃ x, rd_T24 l (i : Int) = x := ⟨_, rfl⟩
    have hx2 : l.getD i z24 = x := hx
    have hm : x ∈ l := by rw [← hx2]; exact getD_mem l _ i (by omega)
    have hn := hl.2 x hm; rw [pvR_succ, hx2] at hr
    rw [drop_at l z24 i (by omega), hx2, storeGo]
    apply ev_succ
    simp only [impl_StoreOk.l0, hx]
    rw [w64 (x := (i : Int) + 1) (by omega) (by omega)]
    refine ev_pos (by omega) (ev_pos (by omega) (ev_pos (by omega) ?_))
    refine Ev.bind (impl_RecordOk_ev x.f0 x.f1 x.f2 x.f3 x.f4 x.f5 x.f6 x.f7 (by omega)) ?_
    have hrec : recB x.f0 x.f1 x.f2 x.f3 x.f4 x.f5 x.f6 x.f7 = recR x := rfl
    rw [hrec]
    refine ev_ite (fun h1 => ?_) (fun h1 => ev_some (by simp [h1]))
    refine ev_ite (fun h2 => ?_) (fun h2 => ?_)
    · have h0 : 0 < i := by omega
      have hp : pvR l i = some (l.getD (i - 1) z24) := by unfold pvR; rw [if_neg (by omega)]
      rw [hp]
      simp only [rdRp l i h0 (by omega), impl_Before_eq, Option.bind_some]
      refine ev_pos (by rw [w64 (by omega) (by omega)]; omega) (ev_pos (by rw [w64 (by omega) (by omega)]; omega) ?_)
      refine ev_ite (fun h3 => ?_) (fun h3 => ev_some ?_)
      · refine ev_to hr ?_
        simp only [Option.all_some, h1, h3, Bool.true_and]
      · have h3' : beforeB (l.getD (i - 1) z24) x = false := by simpa using h3
        simp only [Option.all_some, h3', Bool.and_false, Bool.false_and]
    · have h0 : i = 0 := by omega
      have hp : pvR l i = none := by rw [h0]; rfl
      rw [hp]
      refine ev_to hr ?_
      simp [h1]
theorem impl_StoreOk_ev (l : List S24) (hl : Lens l) : Ev (fun k => impl_StoreOk.f k l) (storeB l) :=
  impl_StoreOk_l0_ev l hl l.length 0 (by omega)

def Small (s : List S24) : Prop := s.length ≤ 8388608 ∧ ∀ x ∈ s, x.f5.length ≤ 1048576
theorem Small.lens {s : List S24} (h : Small s) : Lens s := ⟨by have := h.1; omega, fun x hx => by have := h.2 x hx; omega⟩
theorem toRecL_small (l : List S100) (hl : l.length ≤ 1048576) (hx : ∀ x ∈ l, x.f5.length ≤ 1048576) : Small (toRecL l) := by
  refine ⟨by rw [toRecL_len]; omega, fun x h => ?_⟩
  obtain ⟨y, hy, rfl⟩ := List.mem_map.1 h
  have := hx y hy
  simp only [toRec1, toNearL_len]
  omega
theorem spec_l04Copy_eq (x : S24) (h : x.f5.length ≤ 1048576) : spec_l04Copy.f x.f0 x.f1 x.f2 x.f3 x.f4 x.f5 x.f6 x.f7 = some (x.f0, x.f1, x.f2, x.f3, x.f4, x.f5, x.f6, x.f7) := by
  unfold spec_l04Copy.f
  simp only [Option.bind_some]
  rw [if_pos (by simp; omega)]
  simp

def headR (x : S24) : S24 := ⟨x.f0, x.f1, x.f2, x.f3, x.f4, [], if x.f1 = 3 then 1 else 0, false⟩
theorem impl_header_eq (x : S24) : impl_header.f x.f0 x.f1 x.f2 x.f3 x.f4 x.f5 x.f6 x.f7 = some ((headR x).f0, (headR x).f1, (headR x).f2, (headR x).f3, (headR x).f4, (headR x).f5, (headR x).f6, (headR x).f7) := by
  unfold impl_header.f headR
  split <;> simp
theorem spec_l09Head_eq (x : S24) : spec_l09Head.f x.f0 x.f1 x.f2 x.f3 x.f4 x.f5 x.f6 x.f7 = some ((headR x).f0, (headR x).f1, (headR x).f2, (headR x).f3, (headR x).f4, (headR x).f5, (headR x).f6, (headR x).f7) := by
  unfold spec_l09Head.f headR
  simp only [Option.bind_some]
  split <;> simp
theorem spec_SameKey_eq (a b : S24) : spec_SameKey.f a.f0 a.f1 a.f2 a.f3 a.f4 a.f5 a.f6 a.f7 b.f0 b.f1 b.f2 b.f3 b.f4 b.f5 b.f6 b.f7 = some (sameKey a b) := by
  unfold spec_SameKey.f sameKey
  by_cases h0 : a.f0 = b.f0
  · by_cases h1 : a.f1 = b.f1
    · by_cases h2 : a.f2 = b.f2
      · rw [if_pos h0, if_pos h1, if_pos h2]
        congr 1
        rw [Bool.eq_iff_iff]
        simp [h0, h1, h2]
      · rw [if_pos h0, if_pos h1, if_neg h2, decide_eq_false (by omega)]
    · rw [if_pos h0, if_neg h1, decide_eq_false (by omega)]
  · rw [if_neg h0, decide_eq_false (by omega)]

theorem impl_SameKey_eq (a b : S24) : impl_SameKey.f a.f0 a.f1 a.f2 a.f3 a.f4 a.f5 a.f6 a.f7 b.f0 b.f1 b.f2 b.f3 b.f4 b.f5 b.f6 b.f7 = some (sameKey a b) := by
  unfold impl_SameKey.f sameKey
  by_cases h0 : a.f0 = b.f0
  · by_cases h1 : a.f1 = b.f1
    · by_cases h2 : a.f2 = b.f2
      · rw [if_pos h0, if_pos h1, if_pos h2]
        congr 1
        rw [Bool.eq_iff_iff]
        simp [h0, h1, h2]
      · rw [if_pos h0, if_pos h1, if_neg h2, decide_eq_false (by omega)]
    · rw [if_pos h0, if_neg h1, decide_eq_false (by omega)]
  · rw [if_neg h0, decide_eq_false (by omega)]

theorem sameBody_l0 (a0 a1 a2 a3 a4 a6 b0 b1 b2 b3 b4 b6 : Int) (a7 b7 : Bool) (l m : List S63) (hl : l.length ≤ 9223372036854775807) (hm : (m.length : Int) = l.length) (d : Nat) : ∀ i : Nat, i + d = l.length →
    ∃ r, Ev (fun k => spec_SameBody.l0 k i a0 a1 a2 a3 a4 l a6 a7 b0 b1 b2 b3 b4 m b6 b7) r ∧ Ev (fun k => impl_SameBody.l0 k (l.length : Int) i a0 a1 a2 a3 a4 l a6 a7 b0 b1 b2 b3 b4 m b6 b7) r := by
  induction d with
  | zero =>
    intro i hi
    refine ⟨true, ?_, ?_⟩
    · apply ev_succ
      simp only [spec_SameBody.l0]
      exact ev_neg (by omega) (Ev.now _)
    · apply ev_succ
      simp only [impl_SameBody.l0]
      exact ev_neg (by omega) (Ev.now _)
  | succ d ih =>
    intro i hi
    obtain ⟨r, h1, h2⟩ := ih (i + 1) (by omega)
    by_cases hc : (!(((rd_T63 l i).f0) == ((rd_T63 m i).f0)) || (!(((rd_T63 l i).f1) == ((rd_T63 m i).f1)))) = true
    · refine ⟨false, ?_, ?_⟩
      · apply ev_succ
        simp only [spec_SameBody.l0]
        exact ev_pos (by omega) (ev_pos (by omega) (ev_pos (by omega) (ev_pos hc (Ev.now _))))
      · apply ev_succ
        simp only [impl_SameBody.l0]
        exact ev_pos (by omega) (ev_pos (by omega) (ev_pos (by omega) (ev_pos (by omega) (ev_pos hc (Ev.now _)))))
    · refine ⟨r, ?_, ?_⟩
      · apply ev_succ
        simp only [spec_SameBody.l0]
        rw [w64 (by omega) (by omega)]
        exact ev_pos (by omega) (ev_pos (by omega) (ev_pos (by omega) (ev_neg hc h1)))
      · apply ev_succ
        simp only [impl_SameBody.l0]
        rw [w64 (by omega) (by omega)]
        exact ev_pos (by omega) (ev_pos (by omega) (ev_pos (by omega) (ev_pos (by omega) (ev_neg hc h2))))
theorem sameBody_j0 (x : Bool) (a b : S24) (hl : a.f5.length ≤ 9223372036854775807) (hm : x = false → (b.f5.length : Int) = a.f5.length) :
    ∃ r, Ev (fun k => spec_SameBody.j0 k x a.f0 a.f1 a.f2 a.f3 a.f4 a.f5 a.f6 a.f7 b.f0 b.f1 b.f2 b.f3 b.f4 b.f5 b.f6 b.f7) r ∧ Ev (fun k => impl_SameBody.j0 k x a.f0 a.f1 a.f2 a.f3 a.f4 a.f5 a.f6 a.f7 b.f0 b.f1 b.f2 b.f3 b.f4 b.f5 b.f6 b.f7) r ∧ (x = true → r = false) := by
  by_cases hx : x = true
  · refine ⟨false, ?_, ?_, fun _ => rfl⟩
    · apply ev_succ
      simp only [spec_SameBody.j0]
      exact ev_pos hx (Ev.now _)
    · apply ev_succ
      simp only [impl_SameBody.j0]
      exact ev_pos hx (Ev.now _)
  · obtain ⟨r, h1, h2⟩ := sameBody_l0 a.f0 a.f1 a.f2 a.f3 a.f4 a.f6 b.f0 b.f1 b.f2 b.f3 b.f4 b.f6 a.f7 b.f7 a.f5 b.f5 hl (hm (by simpa using hx)) a.f5.length 0 (by omega)
    refine ⟨r, ?_, ?_, fun h => absurd h hx⟩
    · apply ev_succ
      simp only [spec_SameBody.j0]
      exact ev_neg hx h1
    · apply ev_succ
      simp only [impl_SameBody.j0]
      exact ev_neg hx h2
theorem sameBody_ev (a b : S24) (hl : a.f5.length ≤ 9223372036854775807) :
    ∃ r, Ev (fun k => spec_SameBody.f k a.f0 a.f1 a.f2 a.f3 a.f4 a.f5 a.f6 a.f7 b.f0 b.f1 b.f2 b.f3 b.f4 b.f5 b.f6 b.f7) r ∧ Ev (fun k => impl_SameBody.f k a.f0 a.f1 a.f2 a.f3 a.f4 a.f5 a.f6 a.f7 b.f0 b.f1 b.f2 b.f3 b.f4 b.f5 b.f6 b.f7) r ∧ (r = true → sameKey a b = true) := by
  unfold spec_SameBody.f impl_SameBody.f
  rw [spec_SameKey_eq, impl_SameKey_eq]
  simp only [Option.bind_some]
  obtain ⟨r, h1, h2, h3⟩ := sameBody_j0 true a b hl (fun h => by cases h)
  by_cases hk : sameKey a b = true
  · by_cases hc : a.f6 = b.f6
    · by_cases hf : (a.f7 != b.f7) = true
      · exact ⟨r, ev_pos hk (ev_pos hc (ev_pos hf h1)), ev_pos hk (ev_pos hc (ev_pos hf h2)), fun _ => hk⟩
      · obtain ⟨r', h1', h2', h3'⟩ := sameBody_j0 ((a.f5.length : Int) != (b.f5.length : Int)) a b hl (fun h => by simp at h; omega)
        exact ⟨r', ev_pos hk (ev_pos hc (ev_neg hf h1')), ev_pos hk (ev_pos hc (ev_neg hf h2')), fun _ => hk⟩
    · exact ⟨r, ev_pos hk (ev_neg hc h1), ev_pos hk (ev_neg hc h2), fun _ => hk⟩
  · exact ⟨r, ev_neg hk h1, ev_neg hk h2, fun h => by rw [h3 rfl] at h; cases h⟩

def heardGo : Option Int → List Int → Bool
  | _, [] => true
  | p, x :: xs => decide (1 ≤ x ∧ x ≤ 6) && p.all (fun y => decide (y < x)) && heardGo (some x) xs
def heardB (l : List Int) : Bool := heardGo none l
def pvH (l : List Int) (i : Nat) : Option Int := if i = 0 then none else some (l.getD (i - 1) 0)
theorem pvH_succ (l : List Int) (i : Nat) : pvH l (i + 1) = some (l.getD i 0) := by simp [pvH]
theorem rdH (l : List Int) (i : Nat) : rd l (i : Int) = l.getD i 0 := rfl
theorem rdHp (l : List Int) (i : Nat) (h : 0 < i) (hl : i < 9223372036854775807) : rd l (wrap64 ((i : Int) - 1)) = l.getD (i - 1) 0 := by
  rw [w64 (by omega) (by omega), show (i : Int) - 1 = ((i - 1 : Nat) : Int) by omega]
  rfl
noncomputable def hsumB (x : S24) : Bool := (sameBody_ev (headR x) x (Nat.zero_le _)).choose
theorem hsumB_ev (x : S24) : Ev (fun k => spec_SameBody.f k (headR x).f0 (headR x).f1 (headR x).f2 (headR x).f3 (headR x).f4 (headR x).f5 (headR x).f6 (headR x).f7 x.f0 x.f1 x.f2 x.f3 x.f4 x.f5 x.f6 x.f7) (hsumB x) ∧ Ev (fun k => impl_SameBody.f k (headR x).f0 (headR x).f1 (headR x).f2 (headR x).f3 (headR x).f4 (headR x).f5 (headR x).f6 (headR x).f7 x.f0 x.f1 x.f2 x.f3 x.f4 x.f5 x.f6 x.f7) (hsumB x) ∧ (hsumB x = true → sameKey (headR x) x = true) := (sameBody_ev (headR x) x (Nat.zero_le _)).choose_spec
def areaB (ar : Int) (x : S24) : Bool := decide (x.f0 = ar) || decide (x.f0 = 9)
noncomputable def okB (kd ar : Int) (x : S24) : Bool := areaB ar x && (!decide (kd = 2) || hsumB x)
noncomputable def coreB (kd ar : Int) (hd : List Int) (l : List S24) : Bool :=
  if kd = 1 then heardB hd && decide (l.length = 0) else decide (hd.length = 0) && (storeB l && l.all (okB kd ar))
noncomputable def packB (kd fr tn ar : Int) (hd : List Int) (l : List S24) : Bool :=
  decide (1 ≤ kd ∧ kd ≤ 3) && (decide (1 ≤ fr ∧ fr ≤ 6) && (decide (1 ≤ tn ∧ tn ≤ 6) && (!decide (fr = tn) && (decide (0 ≤ ar ∧ ar ≤ 2) && coreB kd ar hd l))))
theorem all_both {α : Type} (p q : α → Bool) (l : List α) : (l.all fun x => p x && q x) = (l.all p && l.all q) := by
  induction l with
  | nil => rfl
  | cons x xs ih =>
    simp only [List.all_cons, ih]
    cases p x <;> cases q x <;> cases xs.all p <;> rfl
theorem spec_PacketOk_l1_ev (kd fr tn ar : Int) (hd : List Int) (l : List S24) (hs : Small l) (d : Nat) : ∀ i : Nat, i + d = l.length →
    Ev (fun k => spec_PacketOk.l1 k i kd fr tn ar hd l) ((l.drop i).all (okB kd ar)) := by
  have hl1 := hs.1
  induction d with
  | zero =>
    intro i hi
    rw [List.drop_eq_nil_of_le (by omega)]
    apply ev_succ
    simp only [spec_PacketOk.l1]
    exact ev_neg (by omega) (ev_some rfl)
  | succ d ih =>
    intro i hi
    have hr := ih (i + 1) (by omega)
    obtain ⟨x, hx⟩ : ∃ x, rd_T24 l (i : Int) = x := ⟨_, rfl⟩
    have hx2 : l.getD i z24 = x := hx
    have hm : x ∈ l := by rw [← hx2]; exact getD_mem l _ i (by omega)
    have hn := hs.2 x hm
    rw [drop_at l z24 i (by omega), hx2, List.all_cons]
    have h1 := (hsumB_ev x).1
    apply ev_succ
    simp only [spec_PacketOk.l1, hx, spec_l04Copy_eq x hn, spec_l09Head_eq x, Option.bind_some]
    rw [w64 (x := (i : Int) + 1) (by omega) (by omega)]
    refine ev_pos (by omega) (ev_pos (by omega) (ev_ite (fun h2 => ?_) (fun h2 => ev_ite (fun h3 => ?_) (fun h3 => ev_some ?_))))
    · have ha : areaB ar x = true := by simp [areaB, h2]
      refine ev_ite (fun h4 => ?_) (fun h4 => ev_to hr (by simp [okB, ha, h4]))
      refine Ev.bind h1 (ev_ite (fun h5 => ev_to hr ?_) (fun h5 => ev_some ?_))
      · rw [show okB kd ar x = true by rw [okB, ha, h5]; simp, Bool.true_and]
      · rw [show okB kd ar x = false by rw [okB, ha, Bool.eq_false_iff.2 h5]; simp [h4], Bool.false_and]
    · have ha : areaB ar x = true := by simp [areaB, h3]
      refine ev_ite (fun h4 => ?_) (fun h4 => ev_to hr (by simp [okB, ha, h4]))
      refine Ev.bind h1 (ev_ite (fun h5 => ev_to hr ?_) (fun h5 => ev_some ?_))
      · rw [show okB kd ar x = true by rw [okB, ha, h5]; simp, Bool.true_and]
      · rw [show okB kd ar x = false by rw [okB, ha, Bool.eq_false_iff.2 h5]; simp [h4], Bool.false_and]
    · simp [okB, areaB, h2, h3]
theorem spec_PacketOk_j2_ev (kd fr tn ar : Int) (hd : List Int) (l : List S24) (hs : Small l) (b : Bool) :
    Ev (fun k => spec_PacketOk.j2 k b kd fr tn ar hd l) (!b && l.all (okB kd ar)) := by
  apply ev_succ
  simp only [spec_PacketOk.j2]
  refine ev_ite (fun h1 => ev_some (by simp [h1])) (fun h1 => ev_to (spec_PacketOk_l1_ev kd fr tn ar hd l hs l.length 0 (by omega)) ?_)
  rw [Bool.not_eq_true] at h1
  simp [h1]
theorem spec_PacketOk_l0_ev (kd fr tn ar : Int) (hd : List Int) (l : List S24) (hh : hd.length ≤ 9223372036854775000) (hs : Small l) (d : Nat) : ∀ i : Nat, i + d = hd.length →
    Ev (fun k => spec_PacketOk.l0 k i kd fr tn ar hd l) (heardGo (pvH hd i) (hd.drop i) && (if kd = 1 then decide (l.length = 0) else decide (hd.length = 0) && (storeB l && l.all (okB kd ar)))) := by
  induction d with
  | zero =>
    intro i hi
    rw [List.drop_eq_nil_of_le (by omega)]
    apply ev_succ
    simp only [spec_PacketOk.l0, heardGo, Bool.true_and]
    refine ev_neg (by omega) (ev_ite (fun h1 => ?_) (fun h1 => ?_))
    · rw [if_pos h1]
      refine ev_ite (fun h2 => ev_to (spec_PacketOk_j2_ev kd fr tn ar hd l hs true) (by rw [decide_eq_false (show ¬ l.length = 0 by omega)]; rfl)) (fun h2 => ?_)
      have h3 : l = [] := List.length_eq_zero_iff.1 (by omega)
      subst h3
      refine Ev.bind (spec_StoreOk_ev [] hs.lens) (ev_to (spec_PacketOk_j2_ev kd fr tn ar hd [] hs _) ?_)
      simp [storeB, storeGo]
    · rw [if_neg h1]
      refine ev_ite (fun h2 => ev_to (spec_PacketOk_j2_ev kd fr tn ar hd l hs true) ?_) (fun h2 => ?_)
      · rw [decide_eq_false (show ¬ hd.length = 0 by omega)]
        rfl
      · refine Ev.bind (spec_StoreOk_ev l hs.lens) (ev_to (spec_PacketOk_j2_ev kd fr tn ar hd l hs _) ?_)
        rw [decide_eq_true (show hd.length = 0 by omega), Bool.not_not, Bool.true_and]
  | succ d ih =>
    intro i hi
    have hr := ih (i + 1) (by omega)
    rw [pvH_succ] at hr
    rw [drop_at hd 0 i (by omega)]
    apply ev_succ
    simp only [spec_PacketOk.l0, rdH, spec_l01In_eq, Option.bind_some, heardGo]
    rw [w64 (x := (i : Int) + 1) (by omega) (by omega)]
    refine ev_pos (by omega) (ev_pos (by omega) (ev_ite (fun h1 => ?_) (fun h1 => ev_some (by rw [Bool.eq_false_iff.2 h1]; rfl))))
    rw [h1, Bool.true_and]
    refine ev_ite (fun h2 => ?_) (fun h2 => ?_)
    · have h0 : 0 < i := by omega
      have hp : pvH hd i = some (hd.getD (i - 1) 0) := by unfold pvH; rw [if_neg (by omega)]
      rw [hp]
      simp only [rdHp hd i h0 (by omega), Option.all_some]
      refine ev_pos (by rw [w64 (by omega) (by omega)]; omega) (ev_pos (by rw [w64 (by omega) (by omega)]; omega) ?_)
      refine ev_ite (fun h3 => ev_some ?_) (fun h3 => ev_to hr ?_)
      · rw [decide_eq_false (show ¬ hd.getD (i - 1) 0 < hd.getD i 0 by omega)]
        rfl
      · rw [decide_eq_true (show hd.getD (i - 1) 0 < hd.getD i 0 by omega), Bool.true_and]
    · have h0 : i = 0 := by omega
      have hp : pvH hd i = none := by rw [h0]; rfl
      rw [hp]
      exact ev_to hr rfl
theorem spec_PacketOk_j0_ev (kd fr tn ar : Int) (hd : List Int) (l : List S24) (hh : hd.length ≤ 9223372036854775000) (hs : Small l) (b : Bool) :
    Ev (fun k => spec_PacketOk.j0 k b kd fr tn ar hd l) (!b && coreB kd ar hd l) := by
  apply ev_succ
  simp only [spec_PacketOk.j0]
  refine ev_ite (fun h1 => ev_some (by simp [h1])) (fun h1 => ev_to (spec_PacketOk_l0_ev kd fr tn ar hd l hh hs hd.length 0 (by omega)) ?_)
  rw [Bool.not_eq_true] at h1
  rw [h1, Bool.not_false, Bool.true_and, coreB]
  show (heardB hd && _) = _
  by_cases h2 : kd = 1
  · rw [if_pos h2, if_pos h2]
  · rw [if_neg h2, if_neg h2]
    by_cases h3 : hd.length = 0
    · have h4 : hd = [] := List.length_eq_zero_iff.1 h3
      subst h4
      simp [heardB, heardGo]
    · rw [decide_eq_false h3]
      simp
theorem spec_PacketOk_ev (kd fr tn ar : Int) (hd : List Int) (l : List S24) (hh : hd.length ≤ 9223372036854775000) (hs : Small l) :
    Ev (fun k => spec_PacketOk.f k kd fr tn ar hd l) (packB kd fr tn ar hd l) := by
  have J := spec_PacketOk_j0_ev kd fr tn ar hd l hh hs
  unfold spec_PacketOk.f packB
  simp only [spec_l01In_eq, Option.bind_some]
  refine ev_ite (fun h1 => ?_) (fun h1 => ev_to (J true) (by rw [Bool.eq_false_iff.2 h1]; rfl))
  rw [h1, Bool.true_and]
  refine ev_ite (fun h1 => ?_) (fun h1 => ev_to (J true) (by rw [Bool.eq_false_iff.2 h1]; rfl))
  rw [h1, Bool.true_and]
  refine ev_ite (fun h1 => ?_) (fun h1 => ev_to (J true) (by rw [Bool.eq_false_iff.2 h1]; rfl))
  rw [h1, Bool.true_and]
  refine ev_ite (fun h1 => ev_to (J true) (by rw [decide_eq_true h1]; rfl)) (fun h1 => ev_to (J _) ?_)
  rw [decide_eq_false h1, Bool.not_not, Bool.not_false, Bool.true_and]
theorem impl_heardUp_l0_ev (l : List Int) (hh : l.length ≤ 9223372036854775000) (d : Nat) : ∀ i : Nat, i + d = l.length →
    Ev (fun k => impl_heardUp.l0 k l l (l.length : Int) i) (heardGo (pvH l i) (l.drop i)) := by
  induction d with
  | zero =>
    intro i hi
    rw [List.drop_eq_nil_of_le (by omega)]
    apply ev_succ
    simp only [impl_heardUp.l0]
    exact ev_neg (by omega) (ev_some rfl)
  | succ d ih =>
    intro i hi
    have hr := ih (i + 1) (by omega)
    rw [pvH_succ] at hr
    rw [drop_at l 0 i (by omega)]
    apply ev_succ
    simp only [impl_heardUp.l0, rdH, impl_in_eq, Option.bind_some, heardGo]
    rw [w64 (x := (i : Int) + 1) (by omega) (by omega)]
    refine ev_pos (by omega) (ev_pos (by omega) (ev_pos (by omega) (ev_ite (fun h1 => ?_) (fun h1 => ev_some (by rw [Bool.eq_false_iff.2 h1]; rfl)))))
    rw [h1, Bool.true_and]
    refine ev_ite (fun h2 => ?_) (fun h2 => ?_)
    · have h0 : 0 < i := by omega
      have hp : pvH l i = some (l.getD (i - 1) 0) := by unfold pvH; rw [if_neg (by omega)]
      rw [hp]
      simp only [rdHp l i h0 (by omega), Option.all_some]
      refine ev_pos (by rw [w64 (by omega) (by omega)]; omega) (ev_pos (by rw [w64 (by omega) (by omega)]; omega) ?_)
      refine ev_ite (fun h3 => ev_some ?_) (fun h3 => ev_to hr ?_)
      · rw [decide_eq_false (show ¬ l.getD (i - 1) 0 < l.getD i 0 by omega)]
        rfl
      · rw [decide_eq_true (show l.getD (i - 1) 0 < l.getD i 0 by omega), Bool.true_and]
    · have h0 : i = 0 := by omega
      have hp : pvH l i = none := by rw [h0]; rfl
      rw [hp]
      exact ev_to hr rfl
theorem impl_heardUp_ev (l : List Int) (hh : l.length ≤ 9223372036854775000) : Ev (fun k => impl_heardUp.f k l) (heardB l) := impl_heardUp_l0_ev l hh l.length 0 (by omega)
theorem impl_sumsOk_l0_ev (l : List S24) (hs : Small l) (d : Nat) : ∀ i : Nat, i + d = l.length →
    Ev (fun k => impl_sumsOk.l0 k l (l.length : Int) i) ((l.drop i).all hsumB) := by
  have hl1 := hs.1
  induction d with
  | zero =>
    intro i hi
    rw [List.drop_eq_nil_of_le (by omega)]
    apply ev_succ
    simp only [impl_sumsOk.l0]
    exact ev_neg (by omega) (ev_some rfl)
  | succ d ih =>
    intro i hi
    have hr := ih (i + 1) (by omega)
    obtain ⟨x, hx⟩ : ∃ x, rd_T24 l (i : Int) = x := ⟨_, rfl⟩
    have hx2 : l.getD i z24 = x := hx
    rw [drop_at l z24 i (by omega), hx2, List.all_cons]
    have h1 := (hsumB_ev x).2.1
    apply ev_succ
    simp only [impl_sumsOk.l0, hx, impl_header_eq x, Option.bind_some]
    rw [w64 (x := (i : Int) + 1) (by omega) (by omega)]
    refine ev_pos (by omega) (ev_pos (by omega) (ev_pos (by omega) (Ev.bind h1 (ev_ite (fun h5 => ev_to hr ?_) (fun h5 => ev_some ?_)))))
    · rw [show hsumB x = true from h5, Bool.true_and]
    · rw [show hsumB x = false from Bool.eq_false_iff.2 h5, Bool.false_and]
theorem impl_PacketOk_l0_ev (kd fr tn ar : Int) (hd : List Int) (l : List S24) (hs : Small l) (d : Nat) : ∀ i : Nat, i + d = l.length →
    Ev (fun k => impl_PacketOk.l0 k l (l.length : Int) i kd fr tn ar hd l) ((l.drop i).all (areaB ar) && (decide (hd.length = 0) && (storeB l && (decide (kd = 3) || l.all hsumB)))) := by
  have hl1 := hs.1
  induction d with
  | zero =>
    intro i hi
    rw [List.drop_eq_nil_of_le (by omega)]
    apply ev_succ
    simp only [impl_PacketOk.l0, List.all_nil, Bool.true_and]
    refine ev_neg (by omega) (ev_ite (fun h1 => ?_) (fun h1 => ev_some ?_))
    · rw [decide_eq_true (show hd.length = 0 by omega), Bool.true_and]
      refine Ev.bind (impl_StoreOk_ev l hs.lens) (ev_ite (fun h2 => ?_) (fun h2 => ev_some (by rw [Bool.eq_false_iff.2 h2]; rfl)))
      rw [h2, Bool.true_and]
      refine ev_ite (fun h3 => ev_some (by rw [decide_eq_true h3]; rfl)) (fun h3 => ?_)
      rw [decide_eq_false h3, Bool.false_or]
      exact Ev.bind (impl_sumsOk_l0_ev l hs l.length 0 (by omega)) (Ev.now _)
    · rw [decide_eq_false (show ¬ hd.length = 0 by omega)]
      rfl
  | succ d ih =>
    intro i hi
    have hr := ih (i + 1) (by omega)
    obtain ⟨x, hx⟩ : ∃ x, rd_T24 l (i : Int) = x := ⟨_, rfl⟩
    have hx2 : l.getD i z24 = x := hx
    rw [drop_at l z24 i (by omega), hx2, List.all_cons]
    apply ev_succ
    simp only [impl_PacketOk.l0, hx]
    rw [w64 (x := (i : Int) + 1) (by omega) (by omega)]
    refine ev_pos (by omega) (ev_pos (by omega) (ev_pos (by omega) (ev_ite (fun h2 => ev_to hr ?_) (fun h2 => ev_ite (fun h3 => ev_to hr ?_) (fun h3 => ev_some ?_)))))
    · simp [areaB, h2]
    · simp [areaB, h3]
    · simp [areaB, h2, h3]
theorem impl_PacketOk_j0_ev (kd fr tn ar : Int) (hd : List Int) (l : List S24) (hh : hd.length ≤ 9223372036854775000) (hs : Small l) (hk : 1 ≤ kd ∧ kd ≤ 3) (b : Bool) :
    Ev (fun k => impl_PacketOk.j0 k b kd fr tn ar hd l) (!b && coreB kd ar hd l) := by
  apply ev_succ
  simp only [impl_PacketOk.j0]
  refine ev_ite (fun h1 => ev_some (by simp [h1])) (fun h1 => ?_)
  rw [Bool.not_eq_true] at h1
  rw [h1, Bool.not_false, Bool.true_and, coreB]
  refine ev_ite (fun h2 => ?_) (fun h2 => ?_)
  · rw [if_pos h2]
    refine Ev.bind (impl_heardUp_ev hd hh) (ev_ite (fun h3 => ev_some ?_) (fun h3 => ev_some (by rw [Bool.eq_false_iff.2 h3]; rfl)))
    rw [h3, Bool.true_and, Bool.eq_iff_iff, beq_iff_eq, decide_eq_true_eq]
    omega
  · rw [if_neg h2]
    refine ev_to (impl_PacketOk_l0_ev kd fr tn ar hd l hs l.length 0 (by omega)) ?_
    rw [List.drop_zero]
    have e : l.all (okB kd ar) = (l.all (areaB ar) && (decide (kd = 3) || l.all hsumB)) := by
      by_cases h3 : kd = 3
      · rw [decide_eq_true h3, Bool.true_or, Bool.and_true]
        congr 1
        funext x
        simp [okB, h3]
      · have h4 : kd = 2 := by omega
        rw [decide_eq_false h3, Bool.false_or, ← all_both]
        congr 1
        funext x
        simp [okB, h4]
    rw [e]
    cases l.all (areaB ar) <;> cases decide (hd.length = 0) <;> cases storeB l <;> rfl
theorem impl_PacketOk_ev (kd fr tn ar : Int) (hd : List Int) (l : List S24) (hh : hd.length ≤ 9223372036854775000) (hs : Small l) :
    Ev (fun k => impl_PacketOk.f k kd fr tn ar hd l) (packB kd fr tn ar hd l) := by
  have J0 : Ev (fun k => impl_PacketOk.j0 k true kd fr tn ar hd l) false := ev_succ (by simp only [impl_PacketOk.j0]; exact ev_pos trivial (Ev.now _))
  unfold impl_PacketOk.f packB
  simp only [impl_in_eq, Option.bind_some]
  refine ev_ite (fun h1 => ?_) (fun h1 => ev_to J0 (by rw [Bool.eq_false_iff.2 h1]; rfl))
  have J := impl_PacketOk_j0_ev kd fr tn ar hd l hh hs (of_decide_eq_true h1)
  rw [h1, Bool.true_and]
  refine ev_ite (fun h1 => ?_) (fun h1 => ev_to J0 (by rw [Bool.eq_false_iff.2 h1]; rfl))
  rw [h1, Bool.true_and]
  refine ev_ite (fun h1 => ?_) (fun h1 => ev_to J0 (by rw [Bool.eq_false_iff.2 h1]; rfl))
  rw [h1, Bool.true_and]
  refine ev_ite (fun h1 => ev_to J0 (by rw [decide_eq_true h1]; rfl)) (fun h1 => ev_to (J _) ?_)
  rw [decide_eq_false h1, Bool.not_not, Bool.not_false, Bool.true_and]

/-- A number in bytes, of seven bits each. -/
def varL : Nat → Int → List Int
  | 0, n => [n % 256]
  | d + 1, n => if n > 127 then (n % 128 + 128) :: varL d (n / 128) else [n % 256]
theorem varL_byt (d : Nat) : ∀ n, Byt (varL d n) := by
  induction d with
  | zero => intro n x hx; rw [varL, List.mem_singleton] at hx; omega
  | succ d ih =>
    intro n x hx
    rw [varL] at hx
    split at hx
    · rcases List.mem_cons.1 hx with rfl | hx
      · omega
      · exact ih _ x hx
    · rw [List.mem_singleton] at hx; omega
theorem varL_len (d : Nat) : ∀ n, 0 < (varL d n).length ∧ (varL d n).length ≤ d + 1 := by
  induction d with
  | zero => intro n; simp [varL]
  | succ d ih =>
    intro n
    rw [varL]
    split
    · have := ih (n / 128); simp only [List.length_cons]; omega
    · simp
def varN (n : Int) : List Int := varL 9 n
theorem varN_byt (n : Int) : Byt (varN n) := varL_byt 9 n
theorem varN_len (n : Int) : 0 < (varN n).length ∧ (varN n).length ≤ 10 := varL_len 9 n

theorem str_app (xs ys : List Int) : strOfNums xs ++ strOfNums ys = strOfNums (xs ++ ys) := by
  apply Go.WideShapes.bytes_inj
  simp [strOfNums, ByteArray.data_append]
theorem nearGo_all (ow : Int) (l : List S63) : ∀ p, nearGo ow p l = true → ∀ x ∈ l, 1 ≤ x.f0 ∧ x.f0 ≤ 6 ∧ 1 ≤ x.f1 ∧ x.f1 ≤ 1000 := by
  induction l with
  | nil => intro p _ x hx; simp at hx
  | cons y l ih =>
    intro p h x hx
    rw [nearGo] at h
    simp only [Bool.and_eq_true, decide_eq_true_eq] at h
    rcases List.mem_cons.1 hx with rfl | hx
    · omega
    · exact ih _ h.2 x hx
theorem recB_facts {ar ki ow ke se : Int} {l : List S63} {co : Int} {fa : Bool} (h : recB ar ki ow ke se l co fa = true) :
    1 ≤ ow ∧ ow ≤ 6 ∧ 1 ≤ se ∧ se ≤ 100000 ∧ 0 ≤ ar ∧ ar ≤ 9 ∧ 1 ≤ ki ∧ ki ≤ 3 ∧ 0 ≤ ke ∧ ke ≤ 9 ∧ 0 ≤ co ∧ co ≤ 60000 ∧ (nearB ow l = true ∨ l = []) := by
  unfold recB recK at h
  simp only [Bool.and_eq_true, decide_eq_true_eq] at h
  obtain ⟨⟨h1, h2⟩, h3⟩ := h
  split at h3
  · simp only [Bool.and_eq_true, decide_eq_true_eq] at h3
    exact ⟨by omega, by omega, by omega, by omega, by omega, by omega, by omega, by omega, by omega, by omega, by omega, by omega, .inl h3.1.1.2⟩
  · split at h3
    · simp only [Bool.and_eq_true, decide_eq_true_eq] at h3
      exact ⟨by omega, by omega, by omega, by omega, by omega, by omega, by omega, by omega, by omega, by omega, by omega, by omega, .inr (List.eq_nil_of_length_eq_zero h3.1.1.2)⟩
    · split at h3
      · simp only [Bool.and_eq_true, Bool.or_eq_true, decide_eq_true_eq, beq_iff_eq] at h3
        exact ⟨by omega, by omega, by omega, by omega, by omega, by omega, by omega, by omega, by omega, by omega, by omega, by omega, .inr (List.eq_nil_of_length_eq_zero h3.1.2)⟩
      · cases h3
theorem recB_near {ar ki ow ke se : Int} {l : List S63} {co : Int} {fa : Bool} (h : recB ar ki ow ke se l co fa = true) : ∀ x ∈ l, 1 ≤ x.f0 ∧ x.f0 ≤ 6 ∧ 1 ≤ x.f1 ∧ x.f1 ≤ 1000 := by
  obtain ⟨_, _, _, _, _, _, _, _, _, _, _, _, h⟩ := recB_facts h
  rcases h with h | rfl
  · exact nearGo_all _ _ _ h
  · intro x hx; simp at hx
def nearT : List S63 → List Int
  | [] => []
  | x :: xs => (x.f0 % 256) :: (varN x.f1 ++ nearT xs)
def farT (b : Bool) : List Int := [if b = true then 1 else 0]
/-- A record in bytes. -/
def recT (ar ki ow ke se : Int) (l : List S63) (co : Int) (fa : Bool) : List Int :=
  [ar % 256, ki % 256, ow % 256, ke % 256] ++ varN se ++ varN (l.length : Int) ++ nearT l ++ varN co ++ farT fa

def U32 (x : Int) : Prop := 0 ≤ x ∧ x < 4294967296
theorem u32_bits (o : BinOp) (x y : Int) : U32 (Go.bits o .u32 x y) := by
  unfold Go.bits
  simp only [Go.IntKind.wrap_u32]
  unfold U32
  omega
theorem u32_and1 {x : Int} (h : U32 x) : Go.bits .and .u32 x 1 = x % 2 :=
  Go.bits_mask .u32 32 (by decide) (fun n h0 h1 => by rw [Go.IntKind.wrap_u32]; omega) 1 (by decide) x h.1 h.2
/-- One bit of the sum. -/
def crc1 (x : Int) : Int := if x % 2 = 1 then Go.bits .xor .u32 (x / 2) 3558460437 else x / 2
theorem crc1_u32 {x : Int} (h : U32 x) : U32 (crc1 x) := by
  unfold crc1
  split
  · exact u32_bits _ _ _
  · unfold U32 at *; omega
def crcN : Nat → Int → Int
  | 0, x => x
  | n + 1, x => crcN n (crc1 x)
theorem crcN_u32 (n : Nat) : ∀ {x : Int}, U32 x → U32 (crcN n x) := by
  induction n with
  | zero => intro x h; exact h
  | succ n ih => intro x h; exact ih (crc1_u32 h)
/-- One byte of the sum. -/
def crcB (x b : Int) : Int := crcN 8 (Go.bits .xor .u32 x b)
theorem crcB_u32 (x b : Int) : U32 (crcB x b) := crcN_u32 8 (u32_bits _ _ _)
/-- The sum of bytes. -/
def crcS : List Int → Int → Int
  | [], x => x
  | b :: bs, x => crcS bs (crcB x b)
theorem B_drop (s : ByteArray) (i : Nat) (h : i < s.size) : (B s).drop i = bt s i :: (B s).drop (i + 1) := by
  have hl : i < (B s).length := by rw [B_len]; exact h
  rw [List.drop_eq_getElem_cons hl]
  have h1 := B_bt s i h
  rw [List.getElem?_eq_getElem hl] at h1
  rw [Option.some.inj h1]
theorem B_dropAll (s : ByteArray) (i : Nat) (h : s.size ≤ i) : (B s).drop i = [] := List.drop_eq_nil_of_le (by rw [B_len]; exact h)
theorem u32_mod {b : Int} (h : 0 ≤ b ∧ b < 256) : b % 4294967296 = b := by omega

theorem spec_l01Var_l0_ev (d : Nat) : ∀ (n : Int) (acc : List Int), 0 ≤ n → n ≤ 9223372036854775807 → n < 128 ^ (d + 1) → acc.length + d < 1000 →
    Ev (fun k => spec_l01Var.l0 k n acc) (strOfNums (acc ++ varL d n)) := by
  induction d with
  | zero =>
    intro n acc h0 hm h1 hl
    refine Ev.step (f := fun _ => some (strOfNums (acc ++ varL 0 n))) (fun k => ?_) (Ev.now _)
    simp only [spec_l01Var.l0, varL]
    rw [if_neg (by omega), if_pos (by omega)]
  | succ d ih =>
    intro n acc h0 hm h1 hl
    by_cases hn : n > 127
    · have hi := ih (n / 128) (acc ++ [n % 128 + 128]) (by omega) (by omega) (by rw [Int.pow_succ] at h1; omega) (by simp only [List.length_append, List.length_cons, List.length_nil]; omega)
      rw [List.append_assoc, List.singleton_append] at hi
      rw [varL, if_pos hn]
      refine Ev.step (fun k => ?_) hi
      simp only [spec_l01Var.l0]
      rw [if_pos hn, if_pos (by omega), tdivp h0, tmodp h0, w64 (by omega) (by omega), w64 (by omega) (by omega), show (n % 128 + 128) % 256 = n % 128 + 128 by omega]
    · rw [varL, if_neg hn]
      refine Ev.step (f := fun _ => some (strOfNums (acc ++ [n % 256]))) (fun k => ?_) (Ev.now _)
      simp only [spec_l01Var.l0]
      rw [if_neg hn, if_pos (by omega)]
theorem spec_l01Var_ev (n : Int) (h0 : 0 ≤ n) (h1 : n ≤ 9223372036854775807) : Ev (fun k => spec_l01Var.f k n) (strOfNums (varN n)) :=
  spec_l01Var_l0_ev 9 n [] h0 h1 (by omega) (by simp)

theorem spec_RecordText_l0_ev (q0 q1 q2 q3 q4 co : Int) (fa : Bool) (l : List S63) (hl : l.length ≤ 1048576) (hn : ∀ x ∈ l, 1 ≤ x.f0 ∧ x.f0 ≤ 6 ∧ 1 ≤ x.f1 ∧ x.f1 ≤ 1000) (hc : 0 ≤ co ∧ co ≤ 60000) (d : Nat) :
    ∀ (i : Nat) (acc : List Int), i + d = l.length → acc.length ≤ 100 + 11 * i →
    Ev (fun k => spec_RecordText.l0 k (strOfNums acc) i q0 q1 q2 q3 q4 l co fa) (strOfNums (acc ++ nearT (l.drop i) ++ varN co ++ farT fa), true) := by
  induction d with
  | zero =>
    intro i acc hi ha
    have hv := varN_len co
    rw [List.drop_eq_nil_of_le (by omega), nearT, List.append_nil]
    apply ev_succ
    simp only [spec_RecordText.l0]
    refine ev_neg (by omega) (Ev.bind (spec_l01Var_ev co hc.1 (by omega)) ?_)
    rw [str_app]
    refine ev_pos (by rw [Go.strOfNums_size, Go.strOfNums_size]; omega) ?_
    have hs : (strOfNums (acc ++ varN co)).size + 1 ≤ 9223372036854775807 := by rw [Go.strOfNums_size, List.length_append]; omega
    cases fa with
    | true => exact ev_pos rfl (ev_pos hs (ev_some (by rw [show (⟨#[1]⟩ : ByteArray) = strOfNums [1] from rfl, str_app]; rfl)))
    | false => exact ev_neg (by simp) (ev_pos hs (ev_some (by rw [show (⟨#[0]⟩ : ByteArray) = strOfNums [0] from rfl, str_app]; rfl)))
  | succ d ih =>
    intro i acc hi ha
    obtain ⟨x, hx⟩ : ∃ x, rd_T63 l (i : Int) = x := ⟨_, rfl⟩
    have hx2 : l.getD i z63 = x := hx
    have hm : x ∈ l := by rw [← hx2, List.getD_eq_getElem?_getD, List.getElem?_eq_getElem (by omega)]; exact List.getElem_mem _
    have hx3 := hn x hm; have hv := varN_len x.f1
    have hr := ih (i + 1) (acc ++ [x.f0 % 256] ++ varN x.f1) (by omega) (by simp only [List.length_append, List.length_cons, List.length_nil]; omega)
    rw [drop_at l z63 i (by omega), hx2, nearT]
    apply ev_succ
    simp only [spec_RecordText.l0, hx, spec_l04Byte.f, Option.bind_some, str_app]
    rw [w64 (by omega) (by omega)]
    refine ev_pos (by omega) (ev_pos (by omega) (ev_pos (by rw [Go.strOfNums_size, Go.strOfNums_size]; simp only [List.length_cons, List.length_nil]; omega) ?_))
    refine Ev.bind (spec_l01Var_ev x.f1 (by omega) (by omega)) ?_
    refine ev_pos (by rw [Go.strOfNums_size, Go.strOfNums_size, List.length_append]; simp only [List.length_cons, List.length_nil]; omega) ?_
    rw [str_app]
    refine ev_to hr ?_
    congr 2
    simp only [List.append_assoc, List.cons_append, List.nil_append]
theorem spec_RecordText_yes (ar ki ow ke se : Int) (l : List S63) (co : Int) (fa : Bool) (hl : l.length ≤ 1048576) (h : recB ar ki ow ke se l co fa = true) :
    Ev (fun k => spec_RecordText.f k ar ki ow ke se l co fa) (strOfNums (recT ar ki ow ke se l co fa), true) := by
  have hf := recB_facts h; have hv := varN_len se; have hw := varN_len (l.length : Int)
  unfold spec_RecordText.f
  refine Ev.bind (spec_RecordOk_ev ar ki ow ke se l co fa (by omega)) ?_
  rw [h]
  simp only [spec_l04Byte.f, Option.bind_some, str_app]
  refine ev_pos trivial ?_
  refine ev_pos (by simp only [Go.strOfNums_size, List.length_cons, List.length_nil, List.length_append]; omega) ?_
  refine ev_pos (by simp only [Go.strOfNums_size, List.length_cons, List.length_nil, List.length_append]; omega) ?_
  refine ev_pos (by simp only [Go.strOfNums_size, List.length_cons, List.length_nil, List.length_append]; omega) ?_
  refine Ev.bind (spec_l01Var_ev se (by omega) (by omega)) ?_
  refine ev_pos (by simp only [Go.strOfNums_size, List.length_cons, List.length_nil, List.length_append]; omega) ?_
  refine Ev.bind (spec_l01Var_ev (l.length : Int) (by omega) (by omega)) ?_
  simp only [str_app]
  refine ev_pos (by simp only [Go.strOfNums_size, List.length_cons, List.length_nil, List.length_append]; omega) ?_
  have hr := spec_RecordText_l0_ev ar ki ow ke se co fa l hl (recB_near h) (by omega) l.length 0 ([ar % 256] ++ [ki % 256] ++ [ow % 256] ++ [ke % 256] ++ varN se ++ varN (l.length : Int)) (by omega) (by simp only [List.length_cons, List.length_nil, List.length_append]; omega)
  exact hr
theorem nearGo_len (ow : Int) : ∀ (l : List S63) (q : Int), nearGo ow (some q) l = true → 0 ≤ q → q ≤ 6 → (l.length : Int) ≤ 6 - q
  | [], q, _, h0, h1 => by simp; omega
  | x :: l, q, h, h0, h1 => by
    rw [nearGo] at h
    simp only [Bool.and_eq_true, decide_eq_true_eq, Option.all_some] at h
    have h2 := nearGo_len ow l x.f0 h.2 (by omega) (by omega)
    have h3 : q < x.f0 := h.1.2
    simp only [List.length_cons]; omega
theorem nearB_len {ow : Int} {l : List S63} (h : nearB ow l = true) : l.length ≤ 6 := by
  cases l with
  | nil => simp
  | cons x l =>
    unfold nearB at h
    rw [nearGo] at h
    simp only [Bool.and_eq_true, decide_eq_true_eq] at h
    have h2 := nearGo_len ow l x.f0 h.2 (by omega) (by omega)
    simp only [List.length_cons]; omega
theorem recB_len {ar ki ow ke se : Int} {l : List S63} {co : Int} {fa : Bool} (h : recB ar ki ow ke se l co fa = true) : l.length ≤ 6 := by
  obtain ⟨_, _, _, _, _, _, _, _, _, _, _, _, h⟩ := recB_facts h
  rcases h with h | rfl
  · exact nearB_len h
  · simp
theorem nearT_len (l : List S63) : (nearT l).length ≤ 11 * l.length := by
  induction l with
  | nil => simp [nearT]
  | cons x l ih =>
    have := varN_len x.f1
    simp only [nearT, List.length_cons, List.length_append]; omega
theorem nearT_byt (l : List S63) : Byt (nearT l) := by
  induction l with
  | nil => intro x hx; cases hx
  | cons x l ih =>
    intro y hy
    rw [nearT] at hy
    rcases List.mem_cons.1 hy with rfl | hy
    · omega
    · exact byt_app (varN_byt _) ih y hy
theorem recT_byt (a b c d e : Int) (l : List S63) (co : Int) (fa : Bool) : Byt (recT a b c d e l co fa) := by
  unfold recT farT
  refine byt_app (byt_app (byt_app (byt_app (byt_app ?_ (varN_byt _)) (varN_byt _)) (nearT_byt _)) (varN_byt _)) ?_
  · intro x hx
    simp only [List.mem_cons, List.not_mem_nil, or_false] at hx
    omega
  · intro x hx
    simp only [List.mem_singleton] at hx
    rw [hx]; split <;> omega
theorem recT_len (a b c d e : Int) (l : List S63) (co : Int) (fa : Bool) : (recT a b c d e l co fa).length ≤ 35 + 11 * l.length := by
  have h1 := varN_len e; have h2 := varN_len (l.length : Int); have h3 := nearT_len l; have h4 := varN_len co
  unfold recT farT
  simp only [List.length_append, List.length_cons, List.length_nil]
  omega

theorem u32_ff : U32 4294967295 := by unfold U32; omega
def sumB (s : ByteArray) : Int := crcS (B s) 4294967295
def fourL (x : Int) : List Int := [(x / 16777216) % 256, (x / 65536) % 256, (x / 256) % 256, x % 256]
/-- A text with its sum. -/
def sealB (s : ByteArray) : ByteArray := s ++ strOfNums (fourL (sumB s))
theorem four_size (x : Int) : (strOfNums (fourL x)).size = 4 := by rw [Go.strOfNums_size]; rfl

theorem impl_SumMore_l1_ev (s : ByteArray) (m i : Int) (n : Nat) : ∀ (x j r : Int), U32 x → 0 ≤ j → j ≤ 8 → 8 - j = n →
    Ev (fun k => impl_SumMore.l0 k (crcN n x) s m (wrap64 (i + 1))) r → Ev (fun k => impl_SumMore.l1 k x s m i j) r := by
  induction n with
  | zero =>
    intro x j r hx h0 h1 hn h
    refine Ev.step (fun k => ?_) h
    simp only [impl_SumMore.l1]
    rw [if_neg (by omega)]
    rfl
  | succ n ih =>
    intro x j r hx h0 h1 hn h
    refine Ev.step (fun k => ?_) (ih (crc1 x) (j + 1) r (crc1_u32 hx) (by omega) (by omega) (by omega) h)
    simp only [impl_SumMore.l1]
    rw [if_pos (by omega), u32_and1 hx, w64 (by omega) (by omega)]
    unfold crc1
    by_cases hp : x % 2 = 1
    · rw [if_pos hp, if_pos hp]
    · rw [if_neg hp, if_neg hp]
theorem impl_SumMore_l0_ev (s : ByteArray) (hs : s.size ≤ 9223372036854775000) (d : Nat) : ∀ (x : Int) (i : Nat), U32 x → i + d = s.size →
    Ev (fun k => impl_SumMore.l0 k x s (s.size : Int) (i : Int)) (crcS ((B s).drop i) x) := by
  induction d with
  | zero =>
    intro x i hx hi
    rw [B_dropAll s i (by omega)]
    refine Ev.step (f := fun _ => some x) (fun k => ?_) (Ev.now _)
    simp only [impl_SumMore.l0]
    rw [if_neg (by omega)]
  | succ d ih =>
    intro x i hx hi
    have hlt : i < s.size := by omega
    rw [B_drop s i hlt, crcS]
    have h1 := ih (crcB x (bt s i)) (i + 1) (crcB_u32 _ _) (by omega)
    have h2 := impl_SumMore_l1_ev s (s.size : Int) i 8 (Go.bits .xor .u32 x (bt s i)) 0 _ (u32_bits _ _ _) (by omega) (by omega) (by omega)
      (by rw [w64 (by omega) (by omega)]; exact h1)
    refine Ev.step (fun k => ?_) h2
    simp only [impl_SumMore.l0]
    rw [if_pos (by omega), if_pos (by omega), if_pos (by omega), u32_mod (bt_b s i)]
theorem impl_SumMore_ev (x : Int) (s : ByteArray) (hx : U32 x) (hs : s.size ≤ 9223372036854775000) : Ev (fun k => impl_SumMore.f k x s) (crcS (B s) x) :=
  impl_SumMore_l0_ev s hs s.size x 0 hx (by omega)

theorem impl_SumOf_ev (s : ByteArray) (hs : s.size ≤ 9223372036854775000) : Ev (fun k => impl_SumOf.f k s) (sumB s) :=
  Ev.bind (f := fun _ t => some t) (impl_SumMore_ev _ s u32_ff hs) (Ev.now _)

theorem impl_Sealed_yes (s : ByteArray) (hs : s.size ≤ 20000) : Ev (fun k => impl_Sealed.f k s) (sealB s, true) := by
  unfold impl_Sealed.f
  refine ev_neg (by omega) ?_
  refine Ev.bind (impl_SumOf_ev s (by omega)) ?_
  refine Ev.bind (Ev.now _) (ev_pos ?_ (Ev.now _))
  have := four_size (sumB s)
  unfold fourL at this
  omega
theorem spec_SumMore_l1_ev (s : ByteArray) (i : Int) (n : Nat) : ∀ (x j r : Int), U32 x → 0 ≤ j → j ≤ 8 → 8 - j = n →
    Ev (fun k => spec_SumMore.l0 k (crcN n x) s (wrap64 (i + 1))) r → Ev (fun k => spec_SumMore.l1 k x s i j) r := by
  induction n with
  | zero =>
    intro x j r hx h0 h1 hn h
    refine Ev.step (fun k => ?_) h
    simp only [spec_SumMore.l1]
    rw [if_neg (by omega)]
    rfl
  | succ n ih =>
    intro x j r hx h0 h1 hn h
    refine Ev.step (fun k => ?_) (ih (crc1 x) (j + 1) r (crc1_u32 hx) (by omega) (by omega) (by omega) h)
    have hx' := hx
    unfold U32 at hx'
    simp only [spec_SumMore.l1]
    rw [if_pos (by omega), tmodp hx'.1, tdivp hx'.1, w64 (by omega) (by omega), show x / 2 % 4294967296 = x / 2 by omega]
    unfold crc1
    by_cases hp : x % 2 = 1
    · rw [if_pos hp, if_pos hp]
    · rw [if_neg hp, if_neg hp]
theorem spec_SumMore_l0_ev (s : ByteArray) (hs : s.size ≤ 9223372036854775000) (d : Nat) : ∀ (x : Int) (i : Nat), U32 x → i + d = s.size →
    Ev (fun k => spec_SumMore.l0 k x s (i : Int)) (crcS ((B s).drop i) x) := by
  induction d with
  | zero =>
    intro x i hx hi
    rw [B_dropAll s i (by omega)]
    refine Ev.step (f := fun _ => some x) (fun k => ?_) (Ev.now _)
    simp only [spec_SumMore.l0]
    rw [if_neg (by omega)]
  | succ d ih =>
    intro x i hx hi
    have hlt : i < s.size := by omega
    rw [B_drop s i hlt, crcS]
    have h1 := ih (crcB x (bt s i)) (i + 1) (crcB_u32 _ _) (by omega)
    have h2 := spec_SumMore_l1_ev s i 8 (Go.bits .xor .u32 x (bt s i)) 0 _ (u32_bits _ _ _) (by omega) (by omega) (by omega)
      (by rw [w64 (by omega) (by omega)]; exact h1)
    refine Ev.step (fun k => ?_) h2
    simp only [spec_SumMore.l0]
    rw [if_pos (by omega), if_pos (by omega), u32_mod (bt_b s i)]
theorem spec_SumMore_ev (x : Int) (s : ByteArray) (hx : U32 x) (hs : s.size ≤ 9223372036854775000) : Ev (fun k => spec_SumMore.f k x s) (crcS (B s) x) :=
  spec_SumMore_l0_ev s hs s.size x 0 hx (by omega)

theorem spec_SumOf_ev (s : ByteArray) (hs : s.size ≤ 9223372036854775000) : Ev (fun k => spec_SumOf.f k s) (sumB s) :=
  Ev.bind (f := fun _ t => some t) (spec_SumMore_ev _ s u32_ff hs) (Ev.now _)

theorem spec_Sealed_yes (s : ByteArray) (hs : s.size ≤ 20000) : Ev (fun k => spec_Sealed.f k s) (sealB s, true) := by
  unfold spec_Sealed.f
  refine ev_neg (by omega) ?_
  refine Ev.bind (spec_SumOf_ev s (by omega)) ?_
  unfold spec_l02Four.f
  refine Ev.bind (Ev.now _) (ev_pos ?_ (Ev.now _))
  have := four_size (sumB s)
  unfold fourL at this
  omega
theorem impl_VarText_l0_ev (d : Nat) : ∀ (n : Int) (acc : List Int), 0 ≤ n → n ≤ 9223372036854775807 → n < 128 ^ (d + 1) → acc.length + d < 1000 →
    Ev (fun k => impl_VarText.l0 k n acc) (strOfNums (acc ++ varL d n), true) := by
  induction d with
  | zero =>
    intro n acc h0 hm h1 hl
    refine Ev.step (f := fun _ => some (strOfNums (acc ++ varL 0 n), true)) (fun k => ?_) (Ev.now _)
    simp only [impl_VarText.l0, varL]
    rw [if_neg (by omega), if_pos (by omega)]
  | succ d ih =>
    intro n acc h0 hm h1 hl
    by_cases hn : n > 127
    · have hi := ih (n / 128) (acc ++ [n % 128 + 128]) (by omega) (by omega) (by rw [Int.pow_succ] at h1; omega) (by simp only [List.length_append, List.length_cons, List.length_nil]; omega)
      rw [List.append_assoc, List.singleton_append] at hi
      rw [varL, if_pos hn]
      refine Ev.step (fun k => ?_) hi
      simp only [impl_VarText.l0]
      rw [if_pos hn, if_pos (by omega), tdivp h0, tmodp h0, w64 (by omega) (by omega), w64 (by omega) (by omega), show (n % 128 + 128) % 256 = n % 128 + 128 by omega]
    · rw [varL, if_neg hn]
      refine Ev.step (f := fun _ => some (strOfNums (acc ++ [n % 256]), true)) (fun k => ?_) (Ev.now _)
      simp only [impl_VarText.l0]
      rw [if_neg hn, if_pos (by omega)]
theorem impl_VarText_yes (n : Int) (h0 : 0 ≤ n) (h1 : n ≤ 1000000000) : Ev (fun k => impl_VarText.f k n) (strOfNums (varN n), true) := by
  refine Ev.congr (fun k => ?_) (impl_VarText_l0_ev 9 n [] h0 (by omega) (by omega) (by simp))
  simp only [impl_VarText.f, impl_in_eq, Option.bind_some]
  rw [if_pos (by simp; omega)]
theorem impl_ShortText_yes (s : ByteArray) (hs : s.size ≤ 20000) : Ev (fun k => impl_ShortText.f k s) (strOfNums (varN s.size) ++ s, true) := by
  unfold impl_ShortText.f
  refine ev_neg (by omega) ?_
  refine Ev.bind (impl_VarText_yes _ (by omega) (by omega)) (ev_pos ?_ (Ev.now _))
  have := varN_len s.size
  rw [Go.strOfNums_size]
  omega
theorem impl_RecordText_l0_ev (q0 q1 q2 q3 q4 co : Int) (fa : Bool) (l : List S63) (hl : l.length ≤ 1048576) (hn : ∀ x ∈ l, 1 ≤ x.f0 ∧ x.f0 ≤ 6 ∧ 1 ≤ x.f1 ∧ x.f1 ≤ 1000) (hc : 0 ≤ co ∧ co ≤ 60000) (d : Nat) :
    ∀ (i : Nat) (acc : List Int), i + d = l.length → acc.length ≤ 100 + 11 * i →
    Ev (fun k => impl_RecordText.l0 k (strOfNums acc) l (l.length : Int) i q0 q1 q2 q3 q4 l co fa) (strOfNums (acc ++ nearT (l.drop i) ++ varN co ++ farT fa), true) := by
  induction d with
  | zero =>
    intro i acc hi ha
    have hv := varN_len co
    rw [List.drop_eq_nil_of_le (by omega), nearT, List.append_nil]
    apply ev_succ
    simp only [impl_RecordText.l0]
    refine ev_neg (by omega) (Ev.bind (impl_VarText_yes co hc.1 (by omega)) ?_)
    have hs1 : (strOfNums acc).size + (strOfNums (varN co)).size ≤ 9223372036854775807 := by rw [Go.strOfNums_size, Go.strOfNums_size]; omega
    have hs : (strOfNums acc ++ strOfNums (varN co)).size + 1 ≤ 9223372036854775807 := by rw [str_app, Go.strOfNums_size, List.length_append]; omega
    cases fa with
    | true => exact ev_pos rfl (ev_pos hs1 (ev_pos hs (ev_some (by rw [str_app, show (⟨#[1]⟩ : ByteArray) = strOfNums [1] from rfl, str_app]; rfl))))
    | false => exact ev_neg (by simp) (ev_pos hs1 (ev_pos hs (ev_some (by rw [str_app, show (⟨#[0]⟩ : ByteArray) = strOfNums [0] from rfl, str_app]; rfl))))
  | succ d ih =>
    intro i acc hi ha
    obtain ⟨x, hx⟩ : ∃ x, rd_T63 l (i : Int) = x := ⟨_, rfl⟩
    have hx2 : l.getD i z63 = x := hx
    have hm : x ∈ l := by rw [← hx2, List.getD_eq_getElem?_getD, List.getElem?_eq_getElem (by omega)]; exact List.getElem_mem _
    have hx3 := hn x hm; have hv := varN_len x.f1
    have hr := ih (i + 1) (acc ++ ([x.f0 % 256] ++ varN x.f1)) (by omega) (by simp only [List.length_append, List.length_cons, List.length_nil]; omega)
    rw [drop_at l z63 i (by omega), hx2, nearT]
    apply ev_succ
    simp only [impl_RecordText.l0, hx]
    rw [w64 (by omega) (by omega)]
    refine ev_pos (by omega) (ev_pos (by omega) (ev_pos (by omega) ?_))
    refine Ev.bind (impl_VarText_yes x.f1 (by omega) (by omega)) ?_
    simp only [Option.bind_some, str_app]
    refine ev_pos (by simp only [Go.strOfNums_size, List.length_cons, List.length_nil, List.length_append]; omega) (ev_pos (by simp only [Go.strOfNums_size, List.length_cons, List.length_nil, List.length_append]; omega) ?_)
    refine ev_to hr ?_
    congr 2
    simp only [List.append_assoc, List.cons_append, List.nil_append]
theorem impl_RecordText_yes (ar ki ow ke se : Int) (l : List S63) (co : Int) (fa : Bool) (hl : l.length ≤ 1048576) (h : recB ar ki ow ke se l co fa = true) :
    Ev (fun k => impl_RecordText.f k ar ki ow ke se l co fa) (strOfNums (recT ar ki ow ke se l co fa), true) := by
  have hf := recB_facts h; have hv := varN_len se; have hw := varN_len (l.length : Int)
  unfold impl_RecordText.f
  refine Ev.bind (impl_RecordOk_ev ar ki ow ke se l co fa (by omega)) ?_
  rw [h]
  refine ev_pos rfl ?_
  refine Ev.bind (impl_VarText_yes se (by omega) (by omega)) (Ev.bind (impl_VarText_yes (l.length : Int) (by omega) (by omega)) ?_)
  simp only [Option.bind_some, str_app]
  refine ev_pos (by simp only [Go.strOfNums_size, List.length_cons, List.length_nil, List.length_append]; omega) ?_
  refine ev_pos (by simp only [Go.strOfNums_size, List.length_cons, List.length_nil, List.length_append]; omega) ?_
  exact impl_RecordText_l0_ev ar ki ow ke se co fa l hl (recB_near h) (by omega) l.length 0 ([ar % 256, ki % 256, ow % 256, ke % 256] ++ varN se ++ varN (l.length : Int)) (by omega) (by simp only [List.length_cons, List.length_nil, List.length_append]; omega)
def recX (x : S24) : List Int := recT x.f0 x.f1 x.f2 x.f3 x.f4 x.f5 x.f6 x.f7
def oneT (x : S24) : List Int := varN ((recX x).length : Int) ++ recX x
def packL : List S24 → List Int
  | [] => []
  | x :: l => oneT x ++ packL l
def modL (l : List Int) : List Int := l.map (fun x => x % 256)
theorem modL_byt (l : List Int) : Byt (modL l) := by
  intro y hy
  obtain ⟨x, _, rfl⟩ := List.mem_map.1 hy
  omega
theorem recX_len (x : S24) (h : recR x = true) : (recX x).length ≤ 101 := by
  have h1 := recT_len x.f0 x.f1 x.f2 x.f3 x.f4 x.f5 x.f6 x.f7; have h2 := recB_len h
  unfold recX
  omega
theorem oneT_len (x : S24) (h : recR x = true) : (oneT x).length ≤ 111 := by
  have h1 := recX_len x h; have h2 := varN_len ((recX x).length : Int)
  unfold oneT
  rw [List.length_append]
  omega
theorem oneT_byt (x : S24) : Byt (oneT x) := byt_app (varN_byt _) (recT_byt _ _ _ _ _ _ _ _)
theorem storeGo_all (l : List S24) : ∀ p, storeGo p l = true → ∀ x ∈ l, recR x = true := by
  induction l with
  | nil => intro p _ x hx; cases hx
  | cons y l ih =>
    intro p h x hx
    rw [storeGo] at h
    simp only [Bool.and_eq_true] at h
    rcases List.mem_cons.1 hx with rfl | hx
    · exact h.1.1
    · exact ih _ h.2 x hx
theorem heardGo_len : ∀ (l : List Int) (q : Int), heardGo (some q) l = true → 0 ≤ q → q ≤ 6 → (l.length : Int) ≤ 6 - q
  | [], q, _, h0, h1 => by simp; omega
  | x :: l, q, h, h0, h1 => by
    rw [heardGo] at h
    simp only [Bool.and_eq_true, decide_eq_true_eq, Option.all_some] at h
    have h2 := heardGo_len l x h.2 (by omega) (by omega)
    have h3 : q < x := h.1.2
    simp only [List.length_cons]; omega
theorem heardB_len {l : List Int} (h : heardB l = true) : l.length ≤ 6 := by
  cases l with
  | nil => simp
  | cons x l =>
    unfold heardB at h
    rw [heardGo] at h
    simp only [Bool.and_eq_true, decide_eq_true_eq] at h
    have h2 := heardGo_len l x h.2 (by omega) (by omega)
    simp only [List.length_cons]; omega
theorem packB_facts {kd fr tn ar : Int} {hd : List Int} {l : List S24} (h : packB kd fr tn ar hd l = true) : 1 ≤ kd ∧ kd ≤ 3 ∧ 1 ≤ fr ∧ fr ≤ 6 ∧ 1 ≤ tn ∧ tn ≤ 6 ∧ 0 ≤ ar ∧ ar ≤ 2 ∧ hd.length ≤ 6 ∧ l.length ≤ 150 ∧ ∀ x ∈ l, recR x = true := by
  unfold packB coreB at h
  simp only [Bool.and_eq_true, decide_eq_true_eq] at h
  obtain ⟨h1, h2, h3, _, h5, h6⟩ := h
  refine ⟨h1.1, h1.2, h2.1, h2.2, h3.1, h3.2, h5.1, h5.2, ?_⟩
  by_cases hk : kd = 1
  · rw [if_pos hk] at h6
    simp only [Bool.and_eq_true, decide_eq_true_eq] at h6
    have he : l = [] := List.eq_nil_of_length_eq_zero h6.2
    subst he
    exact ⟨heardB_len h6.1, by simp, by intro x hx; cases hx⟩
  · rw [if_neg hk] at h6
    simp only [Bool.and_eq_true, decide_eq_true_eq] at h6
    obtain ⟨h7, h8, _⟩ := h6
    unfold storeB at h8
    simp only [Bool.and_eq_true, decide_eq_true_eq] at h8
    exact ⟨by omega, h8.1, storeGo_all l none h8.2⟩
theorem str_size (xs : List Int) : (strOfNums xs).size = xs.length := Go.strOfNums_size xs
theorem impl_pack_l1_ev (l : List S24) (hl : l.length ≤ 150) (hr : ∀ x ∈ l, recR x = true) (hs : ∀ x ∈ l, x.f5.length ≤ 1048576) (d : Nat) : ∀ (i : Nat) (acc : List Int), i + d = l.length → acc.length + 111 * d ≤ 20000 →
    Ev (fun k => impl_PacketText.l1 k (strOfNums acc) l (l.length : Int) i) (sealB (strOfNums (acc ++ packL (l.drop i))), true) := by
  induction d with
  | zero =>
    intro i acc hi ha
    rw [List.drop_eq_nil_of_le (by omega), packL, List.append_nil]
    refine ev_succ ?_
    simp only [impl_PacketText.l1]
    have hS := impl_Sealed_yes (strOfNums acc) (by rw [str_size]; omega)
    exact ev_neg (by omega) (Ev.bind hS (Ev.now _))
  | succ d ih =>
    intro i acc hi ha
    obtain ⟨x, hx⟩ : ∃ x, rd_T24 l (i : Int) = x := ⟨_, rfl⟩
    have hx2 : l.getD i z24 = x := hx
    have hm : x ∈ l := by rw [← hx2]; exact getD_mem l _ i (by omega)
    have hrx := hr x hm; have hlen := recX_len x hrx; have hone := oneT_len x hrx; have hR := impl_RecordText_yes x.f0 x.f1 x.f2 x.f3 x.f4 x.f5 x.f6 x.f7 (hs x hm) hrx
    have hS := impl_ShortText_yes (strOfNums (recX x)) (by rw [str_size]; omega)
    rw [str_size, str_app] at hS
    have hN := ih (i + 1) (acc ++ oneT x) (by omega) (by rw [List.length_append]; omega)
    rw [drop_at l z24 i (by omega), hx2, packL, ← List.append_assoc]
    refine ev_succ ?_
    simp only [impl_PacketText.l1, hx]
    rw [w64 (x := (i : Int) + 1) (by omega) (by omega)]
    refine ev_pos (by omega) (ev_pos (by omega) (ev_pos (by omega) (Ev.bind hR (Ev.bind hS (ev_pos rfl ?_)))))
    have hadd : strOfNums acc ++ strOfNums (varN ((recX x).length : Int) ++ recX x) = strOfNums (acc ++ oneT x) := str_app _ _
    simp only [hadd]
    refine ev_pos ?_ hN
    rw [str_size, str_size]
    have : (varN ((recX x).length : Int) ++ recX x).length = (oneT x).length := rfl
    omega
theorem impl_pack_l0_ev (kd fr tn ar : Int) (hd : List Int) (l : List S24) (hh : hd.length ≤ 6) (hl : l.length ≤ 150) (hr : ∀ x ∈ l, recR x = true) (hs : ∀ x ∈ l, x.f5.length ≤ 1048576) (d : Nat) : ∀ (i : Nat) (acc : List Int), i + d = hd.length → acc.length + d ≤ 100 →
    Ev (fun k => impl_PacketText.l0 k (strOfNums acc) hd (hd.length : Int) i kd fr tn ar hd l) (sealB (strOfNums (acc ++ modL (hd.drop i) ++ varN (l.length : Int) ++ packL l)), true) := by
  induction d with
  | zero =>
    intro i acc hi ha
    rw [List.drop_eq_nil_of_le (by omega), show modL [] = [] from rfl, List.append_nil]
    have hv := varN_len (l.length : Int)
    have hV := impl_VarText_yes (l.length : Int) (by omega) (by omega)
    have h1 := impl_pack_l1_ev l hl hr hs l.length 0 (acc ++ varN (l.length : Int)) (by omega) (by rw [List.length_append]; omega)
    refine ev_succ ?_
    simp only [impl_PacketText.l0]
    refine ev_neg (by omega) (Ev.bind hV ?_)
    simp only [str_app]
    exact ev_pos (by rw [str_size, str_size]; omega) h1
  | succ d ih =>
    intro i acc hi ha
    have hN := ih (i + 1) (acc ++ [hd.getD i 0 % 256]) (by omega) (by rw [List.length_append, List.length_singleton]; omega)
    rw [drop_at hd 0 i (by omega)]
    have hmod : acc ++ modL (hd.getD i 0 :: hd.drop (i + 1)) = acc ++ [hd.getD i 0 % 256] ++ modL (hd.drop (i + 1)) := by simp [modL]
    rw [hmod]
    refine ev_succ ?_
    simp only [impl_PacketText.l0, rdH, Option.bind_some, str_app]
    rw [w64 (x := (i : Int) + 1) (by omega) (by omega)]
    exact ev_pos (by omega) (ev_pos (by omega) (ev_pos (by omega) (ev_pos (by rw [str_size, str_size, List.length_singleton]; omega) hN)))
def packT (kd fr tn ar : Int) (hd : List Int) (l : List S24) : List Int := [kd % 256, fr % 256, tn % 256, ar % 256] ++ varN (hd.length : Int) ++ modL hd ++ varN (l.length : Int) ++ packL l
theorem impl_pack_yes (kd fr tn ar : Int) (hd : List Int) (l : List S24) (hs : Small l) (h : packB kd fr tn ar hd l = true) : Ev (fun k => impl_PacketText.f k kd fr tn ar hd l) (sealB (strOfNums (packT kd fr tn ar hd l)), true) := by
  obtain ⟨k0, k1, f0, f1, t0, t1, a0, a1, hh, hl, hr⟩ := packB_facts h; have hv := varN_len (hd.length : Int)
  have hP := impl_PacketOk_ev kd fr tn ar hd l (by omega) hs
  rw [h] at hP
  have h0 := impl_pack_l0_ev kd fr tn ar hd l hh hl hr hs.2 hd.length 0 ([kd % 256, fr % 256, tn % 256, ar % 256] ++ varN (hd.length : Int)) (by omega) (by simp only [List.length_append, List.length_cons, List.length_nil]; omega)
  unfold impl_PacketText.f
  refine Ev.bind hP (ev_pos rfl (Ev.bind (impl_VarText_yes (hd.length : Int) (by omega) (by omega)) ?_))
  simp only [Option.bind_some, str_app]
  refine ev_pos ?_ h0
  simp only [str_size, List.length_cons, List.length_nil]
  omega
theorem impl_pack_no (kd fr tn ar : Int) (hd : List Int) (l : List S24) (hh : hd.length ≤ 9223372036854775000) (hs : Small l) (h : ¬ packB kd fr tn ar hd l = true) : Ev (fun k => impl_PacketText.f k kd fr tn ar hd l) (⟨#[]⟩, false) := by
  unfold impl_PacketText.f
  exact Ev.bind (impl_PacketOk_ev kd fr tn ar hd l hh hs) (ev_neg h (Ev.now _))
theorem bytesOf_str (xs : List Int) (h : Byt xs) : bytesOf (strOfNums xs) = xs := B_str xs h
theorem spec_pack_l1_ev (kd fr tn ar : Int) (hd : List Int) (l : List S24) (hl : l.length ≤ 150) (hr : ∀ x ∈ l, recR x = true) (hs : ∀ x ∈ l, x.f5.length ≤ 1048576) (d : Nat) : ∀ (i : Nat) (acc : List Int), i + d = l.length → acc.length + 111 * d ≤ 19900 →
    Ev (fun k => spec_PacketText.l1 k acc i kd fr tn ar hd l) (sealB (strOfNums (acc ++ packL (l.drop i))), true) := by
  induction d with
  | zero =>
    intro i acc hi ha
    rw [List.drop_eq_nil_of_le (by omega), packL, List.append_nil]
    refine ev_succ ?_
    simp only [spec_PacketText.l1]
    have hS := spec_Sealed_yes (strOfNums acc) (by rw [str_size]; omega)
    rw [w64 (x := (acc.length : Int) + 4) (by omega) (by omega)]
    exact ev_neg (by omega) (ev_neg (by omega) (Ev.bind hS (Ev.now _)))
  | succ d ih =>
    intro i acc hi ha
    obtain ⟨x, hx⟩ : ∃ x, rd_T24 l (i : Int) = x := ⟨_, rfl⟩
    have hx2 : l.getD i z24 = x := hx
    have hm : x ∈ l := by rw [← hx2]; exact getD_mem l _ i (by omega)
    have hrx := hr x hm; have hlen := recX_len x hrx; have hone := oneT_len x hrx; have hR := spec_RecordText_yes x.f0 x.f1 x.f2 x.f3 x.f4 x.f5 x.f6 x.f7 (hs x hm) hrx
    have hS : Ev (fun k => spec_l04Short.f k (strOfNums (recX x))) (strOfNums (oneT x)) := by
      unfold spec_l04Short.f
      have hV := spec_l01Var_ev ((recX x).length : Int) (by omega) (by omega)
      have hv := varN_len ((recX x).length : Int)
      simp only [str_size, str_app]
      refine Ev.bind hV ?_
      simp only [str_size, str_app]
      exact ev_pos (by omega) (ev_some rfl)
    have hN := ih (i + 1) (acc ++ oneT x) (by omega) (by rw [List.length_append]; omega)
    rw [drop_at l z24 i (by omega), hx2, packL, ← List.append_assoc]
    refine ev_succ ?_
    simp only [spec_PacketText.l1, hx]
    rw [w64 (x := (i : Int) + 1) (by omega) (by omega)]
    refine ev_pos (by omega) (ev_pos (by omega) (Ev.bind hR (Ev.bind hS ?_)))
    simp only [bytesOf_str (oneT x) (oneT_byt x)]
    exact ev_pos (by rw [str_size]; omega) hN
theorem spec_pack_l0_ev (kd fr tn ar : Int) (hd : List Int) (l : List S24) (hh : hd.length ≤ 6) (hl : l.length ≤ 150) (hr : ∀ x ∈ l, recR x = true) (hs : ∀ x ∈ l, x.f5.length ≤ 1048576) (d : Nat) : ∀ (i : Nat) (acc : List Int), i + d = hd.length → acc.length + d ≤ 100 →
    Ev (fun k => spec_PacketText.l0 k acc i kd fr tn ar hd l) (sealB (strOfNums (acc ++ modL (hd.drop i) ++ varN (l.length : Int) ++ packL l)), true) := by
  induction d with
  | zero =>
    intro i acc hi ha
    rw [List.drop_eq_nil_of_le (by omega), show modL [] = [] from rfl, List.append_nil]
    have hv := varN_len (l.length : Int)
    have hV := spec_l01Var_ev (l.length : Int) (by omega) (by omega)
    have h1 := spec_pack_l1_ev kd fr tn ar hd l hl hr hs l.length 0 (acc ++ varN (l.length : Int)) (by omega) (by rw [List.length_append]; omega)
    refine ev_succ ?_
    simp only [spec_PacketText.l0]
    refine ev_neg (by omega) (Ev.bind hV ?_)
    simp only [bytesOf_str (varN (l.length : Int)) (varN_byt _)]
    exact ev_pos (by rw [str_size]; omega) h1
  | succ d ih =>
    intro i acc hi ha
    have hN := ih (i + 1) (acc ++ [hd.getD i 0 % 256]) (by omega) (by rw [List.length_append, List.length_singleton]; omega)
    rw [drop_at hd 0 i (by omega)]
    have hmod : acc ++ modL (hd.getD i 0 :: hd.drop (i + 1)) = acc ++ [hd.getD i 0 % 256] ++ modL (hd.drop (i + 1)) := by simp [modL]
    rw [hmod]
    refine ev_succ ?_
    simp only [spec_PacketText.l0, rdH]
    rw [w64 (x := (i : Int) + 1) (by omega) (by omega)]
    exact ev_pos (by omega) (ev_pos (by omega) (ev_pos (by omega) hN))
theorem spec_pack_yes (kd fr tn ar : Int) (hd : List Int) (l : List S24) (hs : Small l) (h : packB kd fr tn ar hd l = true) : Ev (fun k => spec_PacketText.f k kd fr tn ar hd l) (sealB (strOfNums (packT kd fr tn ar hd l)), true) := by
  obtain ⟨k0, k1, f0, f1, t0, t1, a0, a1, hh, hl, hr⟩ := packB_facts h; have hv := varN_len (hd.length : Int)
  have hP := spec_PacketOk_ev kd fr tn ar hd l (by omega) hs
  rw [h] at hP
  have hV := spec_l01Var_ev (hd.length : Int) (by omega) (by omega)
  have h0 := spec_pack_l0_ev kd fr tn ar hd l hh hl hr hs.2 hd.length 0 ([kd % 256, fr % 256, tn % 256, ar % 256] ++ varN (hd.length : Int)) (by omega) (by simp only [List.length_append, List.length_cons, List.length_nil]; omega)
  have hb : bytesOf (strOfNums ([kd % 256, fr % 256, tn % 256, ar % 256] ++ varN (hd.length : Int))) = [kd % 256, fr % 256, tn % 256, ar % 256] ++ varN (hd.length : Int) := bytesOf_str _ (byt_app (modL_byt [kd, fr, tn, ar]) (varN_byt _))
  unfold spec_PacketText.f
  refine Ev.bind hP (ev_pos rfl ?_)
  simp only [spec_l04Byte.f, Option.bind_some, str_app, str_size, List.length_append, List.length_cons, List.length_nil]
  refine ev_pos (by omega) (ev_pos (by omega) (ev_pos (by omega) (Ev.bind hV ?_)))
  simp only [str_app, str_size, List.length_append, List.length_cons, List.length_nil]
  refine ev_pos (by omega) (ev_pos (by omega) ?_)
  rw [show [kd % 256] ++ [fr % 256] ++ [tn % 256] ++ [ar % 256] ++ varN (hd.length : Int) = [kd % 256, fr % 256, tn % 256, ar % 256] ++ varN (hd.length : Int) from rfl, hb]
  exact h0
theorem spec_pack_no (kd fr tn ar : Int) (hd : List Int) (l : List S24) (hh : hd.length ≤ 9223372036854775000) (hs : Small l) (h : ¬ packB kd fr tn ar hd l = true) : Ev (fun k => spec_PacketText.f k kd fr tn ar hd l) (⟨#[]⟩, false) := by
  unfold spec_PacketText.f
  exact Ev.bind (spec_PacketOk_ev kd fr tn ar hd l hh hs) (ev_neg h (Ev.now _))

theorem laws_szIntS_eq (l : List Int) (hl : l.length ≤ 9223372036854775807) (n : Int) (h0 : 0 ≤ n) (h1 : n ≤ 1048576) : laws_szIntS.f l n = some (if n < (l.length : Int) then -1 else n - l.length) := by
  unfold laws_szIntS.f
  rw [w64 (by omega) (by omega)]
  by_cases h : n < (l.length : Int)
  · rw [if_pos (by omega), if_pos h]
  · rw [if_neg (by omega), if_neg h]
theorem laws_toIntS_l0_ev (l : List Int) (hl : l.length ≤ 9223372036854775807) (d : Nat) : ∀ i : Nat, i + d = l.length →
    Ev (fun k => laws_toIntS.l0 k l (l.take i ++ List.replicate d 0) i) l := by
  induction d with
  | zero =>
    intro i hi
    apply ev_succ
    simp only [laws_toIntS.l0]
    refine ev_neg (by omega) (ev_some ?_)
    rw [List.take_of_length_le (by omega)]
    simp
  | succ d ih =>
    intro i hi
    have hr := ih (i + 1) (by omega)
    have hlt : i < l.length := by omega
    apply ev_succ
    simp only [laws_toIntS.l0]
    have hset : (l.take i ++ List.replicate (d + 1) (0 : Int)).set ((i : Int).toNat) (rd l i) = l.take (i + 1) ++ List.replicate d 0 := by
      rw [List.replicate_succ, set_mid _ _ _ _ _ (by rw [List.length_take]; omega), List.take_succ_eq_append_getElem hlt, List.append_assoc]
      simp [rd, List.getD_eq_getElem?_getD, hlt]
    rw [hset, w64 (by omega) (by omega)]
    refine ev_pos (by omega) (ev_pos (by omega) (ev_pos ?_ hr))
    simp only [List.length_append, List.length_take, List.length_replicate]
    omega
theorem laws_toIntS_ev (l : List Int) (hl : l.length ≤ 1048576) : Ev (fun k => laws_toIntS.f k l) l := by
  unfold laws_toIntS.f
  exact ev_pos (by omega) (ev_pos (by omega) (laws_toIntS_l0_ev l (by omega) l.length 0 (by omega)))
theorem laws_eqIntS_l0_ev (l : List Int) (hl : l.length ≤ 9223372036854775807) (d : Nat) : ∀ i : Nat, i + d = l.length → Ev (fun k => laws_eqIntS.l0 k l l i) true := by
  induction d with
  | zero =>
    intro i hi
    apply ev_succ
    simp only [laws_eqIntS.l0]
    exact ev_neg (by omega) (Ev.now _)
  | succ d ih =>
    intro i hi
    apply ev_succ
    simp only [laws_eqIntS.l0, if_true]
    rw [w64 (by omega) (by omega)]
    exact ev_pos (by omega) (ev_pos (by omega) (ev_pos (by omega) (ih (i + 1) (by omega))))
theorem laws_eqIntS_refl (l : List Int) (hl : l.length ≤ 9223372036854775807) : Ev (fun k => laws_eqIntS.f k l l) true := by
  unfold laws_eqIntS.f
  exact ev_pos rfl (laws_eqIntS_l0_ev l hl l.length 0 (by omega))

theorem pack_both (kd fr tn ar : Int) (hd : List Int) (l : List S24) (hh : hd.length ≤ 9223372036854775000) (hs : Small l) : ∃ s b, Ev (fun k => impl_PacketText.f k kd fr tn ar hd l) (s, b) ∧ Ev (fun k => spec_PacketText.f k kd fr tn ar hd l) (s, b) := by
  by_cases h : packB kd fr tn ar hd l = true
  · exact ⟨_, _, impl_pack_yes kd fr tn ar hd l hs h, spec_pack_yes kd fr tn ar hd l hs h⟩
  · exact ⟨_, _, impl_pack_no kd fr tn ar hd l hh hs h, spec_pack_no kd fr tn ar hd l hh hs h⟩
theorem FnExactPacketText : ∀ (a0_0 : Int) (a0_1 : Int) (a0_2 : Int) (a0_3 : Int) (l0_4 : List Int) (l0_5 : List (S100)), (l0_4.length ≤ 9223372036854775807) → (l0_5.length ≤ 9223372036854775807) → (∀ x ∈ l0_5, x.f5.length ≤ 9223372036854775807) → ∃ k, laws_FnExactPacketText.f k a0_0 a0_1 a0_2 a0_3 l0_4 l0_5 = some true := by
  intro a b c d hd l hh hl hx
  refine ev_ex ?_
  unfold laws_FnExactPacketText.f
  have Z : Ev (fun k => laws_szPacket.f k a b c d hd l 1048576) (-1) ∨ ∃ t, Ev (fun k => laws_szPacket.f k a b c d hd l 1048576) t ∧ 0 ≤ t ∧ hd.length ≤ 1048576 ∧ l.length ≤ 1048576 ∧ ∀ x ∈ l, x.f5.length ≤ 1048576 := by
    unfold laws_szPacket.f
    rw [laws_szIntS_eq hd hh 1048576 (by omega) (by omega)]
    simp only [Option.bind_some]
    by_cases h : (1048576 : Int) < hd.length
    · left
      rw [if_pos h]
      exact ev_pos (by omega) (Ev.now _)
    · rw [if_neg h]
      rcases laws_szRecordS_cases l hl hx (1048576 - hd.length) (by omega) (by omega) with h' | ⟨t', h', h1', h2', h3', h4'⟩
      · exact Or.inl (ev_neg (by omega) (Ev.bind h' (ev_pos (by omega) (Ev.now _))))
      · exact Or.inr ⟨t', ev_neg (by omega) (Ev.bind h' (ev_neg (by omega) (Ev.now _))), h1', by omega, h3', h4'⟩
  rcases Z with h | ⟨t, h, h1, h2, h3, h4⟩
  · exact Ev.bind h (ev_pos (by omega) (Ev.now _))
  refine Ev.bind h (ev_neg (by omega) ?_)
  have T : Ev (fun k => laws_toPacket.f k a b c d hd l) (a, b, c, d, hd, toRecL l) := Ev.bind (laws_toIntS_ev hd h2) (Ev.bind (laws_toRecordS_ev l h3 h4) (Ev.now _))
  have hs := toRecL_small l h3 h4
  obtain ⟨s, v, hI, hS⟩ := pack_both a b c d hd (toRecL l) (by omega) hs
  have E : Ev (fun k => laws_eqPacket.f k a b c d hd (toRecL l) a b c d hd (toRecL l)) true := by
    unfold laws_eqPacket.f
    simp only [if_true]
    exact Ev.bind (laws_eqIntS_refl hd (by omega)) (ev_pos rfl (Ev.bind (laws_eqRecordS_refl _ hs.lens) (ev_pos rfl (Ev.now _))))
  have J : Ev (fun k => laws_FnExactPacketText.j0 k false a b c d hd l a b c d hd (toRecL l)) true := by
    refine ev_succ ?_
    simp only [laws_FnExactPacketText.j0]
    exact ev_neg (by decide) (Ev.bind T (Ev.bind E (ev_pos rfl (Ev.now _))))
  refine Ev.bind T (Ev.bind hS (Ev.bind T (Ev.bind hI (ev_pos rfl ?_))))
  rw [bne_self_eq_false]
  exact J

end Go.Proofs.Ytnecbkognpponaa.Pure
