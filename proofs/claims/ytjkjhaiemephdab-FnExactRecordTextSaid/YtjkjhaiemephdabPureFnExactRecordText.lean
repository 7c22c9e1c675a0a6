/- Proved: for every record that the row lets in, the law FnExactRecordText returns true; there are no other conditions. -/
import Derived.Test.YtjkjhaiemephdabQlawsFnExactRecordText
set_option linter.unusedVariables false
set_option linter.unusedSimpArgs false
namespace Go.Proofs.Ytjkjhaiemephdab.Pure
open Go.RowKit Go.Proofs.Ytjkjhaiemephdab.Q Go.Proofs.YtjkjhaiemephdabW.PrintWords Go.Proofs.YtjkjhaiemephdabW.PrintLast

-- base
theorem w64 {x : Int} (h0 : -9223372036854775808 ≤ x) (h1 : x ≤ 9223372036854775807) : wrap64 x = x := by unfold wrap64; omega
theorem bt_b (s : ByteArray) (i : Int) : 0 ≤ bt s i ∧ bt s i < 256 := by have := bt_range s i; omega
theorem wbt (s : ByteArray) (i : Int) : wrap64 (bt s i) = bt s i := by have := bt_range s i; exact w64 (by omega) (by omega)
theorem tmodp {x m : Int} (h : 0 ≤ x) : Int.tmod x m = x % m := Int.tmod_eq_emod_of_nonneg h
theorem tdivp {x m : Int} (h : 0 ≤ x) : Int.tdiv x m = x / m := Int.tdiv_eq_ediv_of_nonneg h
/-- The bytes of a text, as numbers. -/
def B (s : ByteArray) : List Int := s.data.toList.map fun u => (u.toNat : Int)
def Byt (xs : List Int) : Prop := ∀ x ∈ xs, 0 ≤ x ∧ x < 256
theorem B_len (s : ByteArray) : (B s).length = s.size := by simp [B]
theorem B_byt (s : ByteArray) : Byt (B s) := by
  intro x hx
  obtain ⟨u, _, rfl⟩ := List.mem_map.1 hx
  have := u.toNat_lt
  omega
theorem B_str (xs : List Int) (h : Byt xs) : B (strOfNums xs) = xs := by
  simp only [B, strOfNums, List.map_map]
  conv => rhs; rw [← List.map_id xs]
  apply List.map_congr_left
  intro x hx
  have := h x hx
  simp only [Function.comp, UInt8.toNat_ofNat', id]
  omega
theorem str_B (s : ByteArray) : strOfNums (B s) = s := by
  apply Go.WideShapes.bytes_inj
  simp only [B, strOfNums, List.map_map]
  conv => rhs; rw [← List.map_id s.data.toList]
  apply List.map_congr_left
  intro x hx
  simp [Function.comp]
theorem B_inj {s t : ByteArray} (h : B s = B t) : s = t := by rw [← str_B s, ← str_B t, h]
theorem B_append (s t : ByteArray) : B (s ++ t) = B s ++ B t := by simp [B, ByteArray.data_append]
theorem B_extract (s : ByteArray) (a b : Nat) : B (s.extract a b) = ((B s).take b).drop a := by
  simp only [B, ByteArray.data_extract, Array.toList_extract, List.extract_eq_take_drop]
  rw [← List.map_take, ← List.map_drop, List.drop_take]
theorem B_bt (s : ByteArray) (i : Nat) (h : i < s.size) : (B s)[i]? = some (bt s i) := by
  have h' : i < s.data.toList.length := by rw [Array.length_toList]; exact h
  rw [B, List.getElem?_map, List.getElem?_eq_getElem h']
  simp [bt, h, ByteArray.getElem_eq_getElem_data]
theorem B_nil : B (⟨#[]⟩ : ByteArray) = [] := rfl
theorem tl_iff (s t : ByteArray) : s.toList = t.toList ↔ B s = B t := by
  rw [ByteArray.toList_eq, ByteArray.toList_eq]
  constructor
  · intro h; simp [B, h]
  · intro h; rw [B_inj h]
theorem byt_app {xs ys : List Int} (h : Byt xs) (k : Byt ys) : Byt (xs ++ ys) := by
  intro x hx
  rcases List.mem_append.1 hx with hx | hx
  · exact h x hx
  · exact k x hx
theorem wf_u32 {x : Int} (h : (Lit.int .u32 x).wf = true) : 0 ≤ x ∧ x < 4294967296 := by
  simp only [Lit.wf, IntKind.min, IntKind.max, IntKind.signed, IntKind.bits, Bool.and_eq_true, decide_eq_true_eq] at h
  simp at h
  omega
theorem wf_i64 {x : Int} (h : (Lit.int .i64 x).wf = true) : -9223372036854775808 ≤ x ∧ x ≤ 9223372036854775807 := by
  simp only [Lit.wf, IntKind.min, IntKind.max, IntKind.signed, IntKind.bits, Bool.and_eq_true, decide_eq_true_eq] at h
  simp at h
  omega
theorem ev_ex {α : Type} {g : Nat → Option α} {r : α} (h : Ev g r) : ∃ k, g k = some r := h.rounds

-- evtools
theorem ev_ite {α : Type} {c : Prop} [Decidable c] {g f : Nat → Option α} {r : α} (h : c → Ev g r) (k : ¬ c → Ev f r) : Ev (fun n => if c then g n else f n) r := by
  by_cases hc : c
  · exact Ev.congr (fun n => by rw [if_pos hc]) (h hc)
  · exact Ev.congr (fun n => by rw [if_neg hc]) (k hc)
theorem ev_pos {α : Type} {c : Prop} [Decidable c] {g f : Nat → Option α} {r : α} (hc : c) (h : Ev g r) : Ev (fun n => if c then g n else f n) r := Ev.congr (fun n => by rw [if_pos hc]) h
theorem ev_neg {α : Type} {c : Prop} [Decidable c] {g f : Nat → Option α} {r : α} (hc : ¬ c) (h : Ev f r) : Ev (fun n => if c then g n else f n) r := Ev.congr (fun n => by rw [if_neg hc]) h
theorem ev_some {α : Type} {x r : α} (h : x = r) : Ev (fun _ => some x) r := by rw [h]; exact Ev.now _
theorem ev_eq {α : Type} {x : Option α} {r : α} (h : x = some r) : Ev (fun _ => x) r := by rw [h]; exact Ev.now _
theorem ev_succ {α : Type} {g : Nat → Option α} {r : α} (h : Ev (fun k => g (k + 1)) r) : Ev g r := Ev.step (fun _ => rfl) h
theorem ev_to {α : Type} {g : Nat → Option α} {r r' : α} (h : Ev g r) (e : r = r') : Ev g r' := e ▸ h

-- lists
theorem set_mid {α : Type} (p : List α) (x y : α) (r : List α) (i : Nat) (h : p.length = i) : (p ++ x :: r).set i y = p ++ y :: r := by
  subst h
  simp
theorem drop_at {α : Type} (l : List α) (z : α) (i : Nat) (h : i < l.length) : l.drop i = l.getD i z :: l.drop (i + 1) := by
  rw [List.drop_eq_getElem_cons h, List.getD_eq_getElem?_getD, List.getElem?_eq_getElem h]
  rfl
theorem sz_left {n : Int} {len : Nat} {t : Int} (ht : t = if n < (len : Int) then -1 else n - len) (h : ¬ t < 0) (hn : n ≤ 1048576) (hn0 : 0 ≤ n) : len ≤ 1048576 ∧ 0 ≤ t ∧ t ≤ 1048576 ∧ t = n - len := by
  by_cases hc : n < (len : Int)
  · rw [if_pos hc] at ht; omega
  · rw [if_neg hc] at ht; omega

-- spec_l01In
theorem spec_l01In_eq (a b c : Int) : spec_l01In.f a b c = some (decide (b ≤ a ∧ a ≤ c)) := by
  unfold spec_l01In.f
  by_cases h : a ≥ b
  · rw [if_pos h]; congr 1; simp; omega
  · rw [if_neg h]; congr 1; simp; omega

-- impl_in
theorem impl_in_eq (a b c : Int) : impl_in.f a b c = some (decide (b ≤ a ∧ a ≤ c)) := by
  unfold impl_in.f
  by_cases h : a ≥ b
  · rw [if_pos h]; congr 1; simp; omega
  · rw [if_neg h]; congr 1; simp; omega

-- near
/-- What is near ascends, and is right; the one before, if there is one. -/
def nearGo (ow : Int) : Option Int → List S99 → Bool
  | _, [] => true
  | p, x :: xs => decide (1 ≤ x.f0 ∧ x.f0 ≤ 6) && !decide (x.f0 = ow) && decide (1 ≤ x.f1 ∧ x.f1 ≤ 1000) && p.all (fun y => decide (y < x.f0)) && nearGo ow (some x.f0) xs
def nearB (ow : Int) (l : List S99) : Bool := nearGo ow none l
def pvN (l : List S99) (i : Nat) : Option Int := if i = 0 then none else some (l.getD (i - 1) z99).f0
theorem pvN_succ (l : List S99) (i : Nat) : pvN l (i + 1) = some (l.getD i z99).f0 := by simp [pvN]
theorem pvN_zero (l : List S99) : pvN l 0 = none := rfl
theorem rdN (l : List S99) (i : Nat) : rd_T99 l (i : Int) = l.getD i z99 := rfl
theorem rdNp (l : List S99) (i : Nat) (h : 0 < i) (hl : i < 9223372036854775807) : rd_T99 l (wrap64 ((i : Int) - 1)) = l.getD (i - 1) z99 := by
  rw [w64 (by omega) (by omega), show (i : Int) - 1 = ((i - 1 : Nat) : Int) by omega]
  rfl

-- rec
/-- Is what a record holds right for its kind? -/
def recK (ar ki ow ke : Int) (l : List S99) (co : Int) (fa : Bool) : Bool :=
  if ki = 1 then decide (0 ≤ ar ∧ ar ≤ 2) && decide (ke = 0) && nearB ow l && decide (co = 0) && !fa
  else if ki = 2 then decide (0 ≤ ar ∧ ar ≤ 2) && decide (1 ≤ ke ∧ ke ≤ 6) && decide (l.length = 0) && decide (0 ≤ co ∧ co ≤ 60000) && !fa
  else if ki = 3 then decide (ar = 9) && decide (1 ≤ ke ∧ ke ≤ 9) && decide (l.length = 0) && (decide (1 ≤ co ∧ co ≤ 1000) || (co == 60000))
  else false
def recB (ar ki ow ke se : Int) (l : List S99) (co : Int) (fa : Bool) : Bool := decide (1 ≤ ow ∧ ow ≤ 6) && decide (1 ≤ se ∧ se ≤ 100000) && recK ar ki ow ke l co fa

-- var
/-- A number in bytes, of seven bits each. -/
def varL : Nat → Int → List Int
  | 0, n => [n % 256]
  | d + 1, n => if n > 127 then (n % 128 + 128) :: varL d (n / 128) else [n % 256]
theorem varL_byt (d : Nat) : ∀ n, Byt (varL d n) := by
  induction d with
  | zero => intro n x hx; rw [varL, List.mem_singleton] at hx; omega
  | succ d ih =>
    intro n x hx
    rw [varL] at hx
    split at hx
    · rcases List.mem_cons.1 hx with rfl | hx
      · omega
      · exact ih _ x hx
    · rw [List.mem_singleton] at hx; omega
theorem varL_len (d : Nat) : ∀ n, 0 < (varL d n).length ∧ (varL d n).length ≤ d + 1 := by
  induction d with
  | zero => intro n; simp [varL]
  | succ d ih =>
    intro n
    rw [varL]
    split
    · have := ih (n / 128); simp only [List.length_cons]; omega
    · simp
def varN (n : Int) : List Int := varL 9 n
theorem varN_byt (n : Int) : Byt (varN n) := varL_byt 9 n
theorem varN_len (n : Int) : 0 < (varN n).length ∧ (varN n).length ≤ 10 := varL_len 9 n

-- rectext
theorem str_app (xs ys : List Int) : strOfNums xs ++ strOfNums ys = strOfNums (xs ++ ys) := by
  apply Go.WideShapes.bytes_inj
  simp [strOfNums, ByteArray.data_append]
theorem nearGo_all (ow : Int) (l : List S99) : ∀ p, nearGo ow p l = true → ∀ x ∈ l, 1 ≤ x.f0 ∧ x.f0 ≤ 6 ∧ 1 ≤ x.f1 ∧ x.f1 ≤ 1000 := by
  induction l with
  | nil => intro p _ x hx; simp at hx
  | cons y l ih =>
    intro p h x hx
    rw [nearGo] at h
    simp only [Bool.and_eq_true, decide_eq_true_eq] at h
    rcases List.mem_cons.1 hx with rfl | hx
    · omega
    · exact ih _ h.2 x hx
theorem recB_facts {ar ki ow ke se : Int} {l : List S99} {co : Int} {fa : Bool} (h : recB ar ki ow ke se l co fa = true) :
    1 ≤ ow ∧ ow ≤ 6 ∧ 1 ≤ se ∧ se ≤ 100000 ∧ 0 ≤ ar ∧ ar ≤ 9 ∧ 1 ≤ ki ∧ ki ≤ 3 ∧ 0 ≤ ke ∧ ke ≤ 9 ∧ 0 ≤ co ∧ co ≤ 60000 ∧ (nearB ow l = true ∨ l = []) := by
  unfold recB recK at h
  simp only [Bool.and_eq_true, decide_eq_true_eq] at h
  obtain ⟨⟨h1, h2⟩, h3⟩ := h
  split at h3
  · simp only [Bool.and_eq_true, decide_eq_true_eq] at h3
    exact ⟨by omega, by omega, by omega, by omega, by omega, by omega, by omega, by omega, by omega, by omega, by omega, by omega, .inl h3.1.1.2⟩
  · split at h3
    · simp only [Bool.and_eq_true, decide_eq_true_eq] at h3
      exact ⟨by omega, by omega, by omega, by omega, by omega, by omega, by omega, by omega, by omega, by omega, by omega, by omega, .inr (List.eq_nil_of_length_eq_zero h3.1.1.2)⟩
    · split at h3
      · simp only [Bool.and_eq_true, Bool.or_eq_true, decide_eq_true_eq, beq_iff_eq] at h3
        exact ⟨by omega, by omega, by omega, by omega, by omega, by omega, by omega, by omega, by omega, by omega, by omega, by omega, .inr (List.eq_nil_of_length_eq_zero h3.1.2)⟩
      · cases h3
theorem recB_near {ar ki ow ke se : Int} {l : List S99} {co : Int} {fa : Bool} (h : recB ar ki ow ke se l co fa = true) : ∀ x ∈ l, 1 ≤ x.f0 ∧ x.f0 ≤ 6 ∧ 1 ≤ x.f1 ∧ x.f1 ≤ 1000 := by
  obtain ⟨_, _, _, _, _, _, _, _, _, _, _, _, h⟩ := recB_facts h
  rcases h with h | rfl
  · exact nearGo_all _ _ _ h
  · intro x hx; simp at hx
def nearT : List S99 → List Int
  | [] => []
  | x :: xs => (x.f0 % 256) :: (varN x.f1 ++ nearT xs)
def farT (b : Bool) : List Int := [if b = true then 1 else 0]
/-- A record in bytes. -/
def recT (ar ki ow ke se : Int) (l : List S99) (co : Int) (fa : Bool) : List Int :=
  [ar % 256, ki % 256, ow % 256, ke % 256] ++ varN se ++ varN (l.length : Int) ++ nearT l ++ varN co ++ farT fa

-- spec_l01Var
theorem spec_l01Var_l0_ev (d : Nat) : ∀ (n : Int) (acc : List Int), 0 ≤ n → n ≤ 9223372036854775807 → n < 128 ^ (d + 1) → acc.length + d < 1000 →
    Ev (fun k => spec_l01Var.l0 k n acc) (strOfNums (acc ++ varL d n)) := by
  induction d with
  | zero =>
    intro n acc h0 hm h1 hl
    refine Ev.step (f := fun _ => some (strOfNums (acc ++ varL 0 n))) (fun k => ?_) (Ev.now _)
    simp only [spec_l01Var.l0, varL]
    rw [if_neg (by omega), if_pos (by omega)]
  | succ d ih =>
    intro n acc h0 hm h1 hl
    by_cases hn : n > 127
    · have hi := ih (n / 128) (acc ++ [n % 128 + 128]) (by omega) (by omega) (by rw [Int.pow_succ] at h1; omega) (by simp only [List.length_append, List.length_cons, List.length_nil]; omega)
      rw [List.append_assoc, List.singleton_append] at hi
      rw [varL, if_pos hn]
      refine Ev.step (fun k => ?_) hi
      simp only [spec_l01Var.l0]
      rw [if_pos hn, if_pos (by omega), tdivp h0, tmodp h0, w64 (by omega) (by omega), w64 (by omega) (by omega), show (n % 128 + 128) % 256 = n % 128 + 128 by omega]
    · rw [varL, if_neg hn]
      refine Ev.step (f := fun _ => some (strOfNums (acc ++ [n % 256]))) (fun k => ?_) (Ev.now _)
      simp only [spec_l01Var.l0]
      rw [if_neg hn, if_pos (by omega)]
theorem spec_l01Var_ev (n : Int) (h0 : 0 ≤ n) (h1 : n ≤ 9223372036854775807) : Ev (fun k => spec_l01Var.f k n) (strOfNums (varN n)) :=
  spec_l01Var_l0_ev 9 n [] h0 h1 (by omega) (by simp)

-- spec_l04Near
theorem spec_l04Near_l0_ev (q0 q1 ow q3 q4 q6 : Int) (q7 : Bool) (l : List S99) (hl : l.length ≤ 9223372036854775807) (d : Nat) : ∀ i : Nat, i + d = l.length →
    Ev (fun k => spec_l04Near.l0 k i q0 q1 ow q3 q4 l q6 q7) (nearGo ow (pvN l i) (l.drop i)) := by
  induction d with
  | zero =>
    intro i hi
    rw [List.drop_eq_nil_of_le (by omega)]
    apply ev_succ
    simp only [spec_l04Near.l0]
    exact ev_neg (by omega) (ev_some rfl)
  | succ d ih =>
    intro i hi
    have hr := ih (i + 1) (by omega)
    obtain ⟨x, hx⟩ : ∃ x, rd_T99 l (i : Int) = x := ⟨_, rfl⟩
    have hx2 : l.getD i z99 = x := hx
    rw [pvN_succ, hx2] at hr
    rw [drop_at l z99 i (by omega), hx2]
    apply ev_succ
    simp only [spec_l04Near.l0, spec_l01In_eq, Option.bind_some, decide_eq_true_eq, hx]
    rw [nearGo]
    refine ev_pos (by omega) (ev_pos (by omega) ?_)
    refine ev_ite (fun h1 => ?_) (fun h1 => ev_some (by rw [decide_eq_false h1]; rfl))
    refine ev_ite (fun h2 => ev_some (by rw [decide_eq_true h1, decide_eq_true h2]; rfl)) (fun h2 => ?_)
    refine ev_ite (fun h3 => ?_) (fun h3 => ev_some (by rw [decide_eq_true h1, decide_eq_false h2, decide_eq_false h3]; rfl))
    refine ev_ite (fun h4 => ?_) (fun h4 => ?_)
    · have h0 : 0 < i := by omega
      refine ev_pos (by rw [w64 (by omega) (by omega)]; omega) (ev_pos (by rw [w64 (by omega) (by omega)]; omega) ?_)
      have hp : pvN l i = some (l.getD (i - 1) z99).f0 := by unfold pvN; rw [if_neg (by omega)]
      rw [hp, rdNp l i h0 (by omega)]
      refine ev_ite (fun h5 => ev_some ?_) (fun h5 => ?_)
      · have h6 : ¬ ((l.getD (i - 1) z99).f0 < x.f0) := by omega
        simp only [Option.all_some, decide_eq_false h6, Bool.and_false, Bool.false_and]
      · have h6 : (l.getD (i - 1) z99).f0 < x.f0 := by omega
        rw [w64 (by omega) (by omega)]
        refine ev_to hr ?_
        simp only [Option.all_some, decide_eq_true h6, decide_eq_true h1, decide_eq_false h2, decide_eq_true h3, Bool.true_and, Bool.not_false]
    · have h0 : i = 0 := by omega
      have hp : pvN l i = none := by rw [h0]; rfl
      rw [hp, w64 (by omega) (by omega)]
      refine ev_to hr ?_
      simp only [Option.all_none, decide_eq_true h1, decide_eq_false h2, decide_eq_true h3, Bool.true_and, Bool.not_false]
theorem spec_l04Near_ev (q0 q1 ow q3 q4 q6 : Int) (q7 : Bool) (l : List S99) (hl : l.length ≤ 9223372036854775807) : Ev (fun k => spec_l04Near.f k q0 q1 ow q3 q4 l q6 q7) (nearB ow l) :=
  spec_l04Near_l0_ev q0 q1 ow q3 q4 q6 q7 l hl l.length 0 (by omega)

-- spec_RecordOk
/-! spec_RecordOk -/
theorem spec_RecordOk_ev (ar ki ow ke se : Int) (l : List S99) (co : Int) (fa : Bool) (hl : l.length ≤ 9223372036854775807) : Ev (fun k => spec_RecordOk.f k ar ki ow ke se l co fa) (recB ar ki ow ke se l co fa) := by
  have hj : ∀ b : Bool, Ev (fun k => spec_RecordOk.j0 k b ar ki ow ke se l co fa) (!b && recK ar ki ow ke l co fa) := by
    intro b
    apply ev_succ
    simp only [spec_RecordOk.j0, spec_l01In_eq, Option.bind_some, decide_eq_true_eq]
    refine ev_ite (fun hb => ev_some (by simp [hb])) (fun hb => ?_)
    have hb' : b = false := by simpa using hb
    rw [hb']
    unfold recK
    refine ev_ite (fun h1 => ?_) (fun h1 => ?_)
    · rw [if_pos h1]
      refine ev_ite (fun h2 => ?_) (fun h2 => ev_some (by simp [h2]))
      refine ev_ite (fun h3 => ?_) (fun h3 => ev_some (by simp [h3]))
      refine Ev.bind (spec_l04Near_ev ar ki ow ke se co fa l hl) ?_
      refine ev_ite (fun h4 => ?_) (fun h4 => ev_some (by simp [h4]))
      refine ev_ite (fun h5 => ev_some ?_) (fun h5 => ev_some (by simp [h5]))
      simp [h2, h3, h4, h5]
    · rw [if_neg h1]
      refine ev_ite (fun h1 => ?_) (fun h1 => ?_)
      · rw [if_pos h1]
        refine ev_ite (fun h2 => ?_) (fun h2 => ev_some (by simp [h2]))
        refine ev_ite (fun h3 => ?_) (fun h3 => ev_some (by simp [h3]))
        refine ev_ite (fun h4 => ?_) (fun h4 => ev_some ?_)
        · have h4' : l.length = 0 := by omega
          refine ev_ite (fun h5 => ev_some ?_) (fun h5 => ev_some (by simp [h5]))
          simp [h2, h3, h4', h5]
        · have h4' : ¬ l.length = 0 := by omega
          simp [h4']
      · rw [if_neg h1]
        refine ev_ite (fun h1 => ?_) (fun h1 => ?_)
        · rw [if_pos h1]
          refine ev_ite (fun h2 => ?_) (fun h2 => ev_some (by simp [h2]))
          refine ev_ite (fun h3 => ?_) (fun h3 => ev_some (by simp [h3]))
          refine ev_ite (fun h4 => ?_) (fun h4 => ev_some ?_)
          · have h4' : l.length = 0 := by omega
            refine ev_ite (fun h5 => ev_some ?_) (fun h5 => ev_some ?_)
            · simp [h2, h3, h4', h5]
            · simp [h2, h3, h4', h5]
          · have h4' : ¬ l.length = 0 := by omega
            simp [h4']
        · rw [if_neg h1]
          exact ev_some (by simp)
  unfold spec_RecordOk.f
  simp only [spec_l01In_eq, Option.bind_some, decide_eq_true_eq]
  unfold recB
  refine ev_ite (fun h1 => ?_) (fun h1 => ?_)
  · exact ev_to (hj _) (by simp [h1])
  · exact ev_to (hj _) (by simp [h1])

-- spec_RecordText
theorem spec_RecordText_l0_ev (q0 q1 q2 q3 q4 co : Int) (fa : Bool) (l : List S99) (hl : l.length ≤ 1048576) (hn : ∀ x ∈ l, 1 ≤ x.f0 ∧ x.f0 ≤ 6 ∧ 1 ≤ x.f1 ∧ x.f1 ≤ 1000) (hc : 0 ≤ co ∧ co ≤ 60000) (d : Nat) :
    ∀ (i : Nat) (acc : List Int), i + d = l.length → acc.length ≤ 100 + 11 * i →
    Ev (fun k => spec_RecordText.l0 k (strOfNums acc) i q0 q1 q2 q3 q4 l co fa) (strOfNums (acc ++ nearT (l.drop i) ++ varN co ++ farT fa), true) := by
  induction d with
  | zero =>
    intro i acc hi ha
    have hv := varN_len co
    rw [List.drop_eq_nil_of_le (by omega), nearT, List.append_nil]
    apply ev_succ
    simp only [spec_RecordText.l0]
    refine ev_neg (by omega) (Ev.bind (spec_l01Var_ev co hc.1 (by omega)) ?_)
    rw [str_app]
    refine ev_pos (by rw [Go.strOfNums_size, Go.strOfNums_size]; omega) ?_
    have hs : (strOfNums (acc ++ varN co)).size + 1 ≤ 9223372036854775807 := by rw [Go.strOfNums_size, List.length_append]; omega
    cases fa with
    | true => exact ev_pos rfl (ev_pos hs (ev_some (by rw [show (⟨#[1]⟩ : ByteArray) = strOfNums [1] from rfl, str_app]; rfl)))
    | false => exact ev_neg (by simp) (ev_pos hs (ev_some (by rw [show (⟨#[0]⟩ : ByteArray) = strOfNums [0] from rfl, str_app]; rfl)))
  | succ d ih =>
    intro i acc hi ha
    obtain ⟨x, hx⟩ : ∃ x, rd_T99 l (i : Int) = x := ⟨_, rfl⟩
    have hx2 : l.getD i z99 = x := hx
    have hm : x ∈ l := by rw [← hx2, List.getD_eq_getElem?_getD, List.getElem?_eq_getElem (by omega)]; exact List.getElem_mem _
    have hx3 := hn x hm
    have hv := varN_len x.f1
    have hr := ih (i + 1) (acc ++ [x.f0 % 256] ++ varN x.f1) (by omega) (by simp only [List.length_append, List.length_cons, List.length_nil]; omega)
    rw [drop_at l z99 i (by omega), hx2, nearT]
    apply ev_succ
    simp only [spec_RecordText.l0, hx, spec_l04Byte.f, Option.bind_some, str_app]
    rw [w64 (by omega) (by omega)]
    refine ev_pos (by omega) (ev_pos (by omega) (ev_pos (by rw [Go.strOfNums_size, Go.strOfNums_size]; simp only [List.length_cons, List.length_nil]; omega) ?_))
    refine Ev.bind (spec_l01Var_ev x.f1 (by omega) (by omega)) ?_
    refine ev_pos (by rw [Go.strOfNums_size, Go.strOfNums_size, List.length_append]; simp only [List.length_cons, List.length_nil]; omega) ?_
    rw [str_app]
    refine ev_to hr ?_
    congr 2
    simp only [List.append_assoc, List.cons_append, List.nil_append]
theorem spec_RecordText_yes (ar ki ow ke se : Int) (l : List S99) (co : Int) (fa : Bool) (hl : l.length ≤ 1048576) (h : recB ar ki ow ke se l co fa = true) :
    Ev (fun k => spec_RecordText.f k ar ki ow ke se l co fa) (strOfNums (recT ar ki ow ke se l co fa), true) := by
  have hf := recB_facts h
  have hv := varN_len se
  have hw := varN_len (l.length : Int)
  unfold spec_RecordText.f
  refine Ev.bind (spec_RecordOk_ev ar ki ow ke se l co fa (by omega)) ?_
  rw [h]
  simp only [spec_l04Byte.f, Option.bind_some, str_app]
  refine ev_pos trivial ?_
  refine ev_pos (by simp only [Go.strOfNums_size, List.length_cons, List.length_nil, List.length_append]; omega) ?_
  refine ev_pos (by simp only [Go.strOfNums_size, List.length_cons, List.length_nil, List.length_append]; omega) ?_
  refine ev_pos (by simp only [Go.strOfNums_size, List.length_cons, List.length_nil, List.length_append]; omega) ?_
  refine Ev.bind (spec_l01Var_ev se (by omega) (by omega)) ?_
  refine ev_pos (by simp only [Go.strOfNums_size, List.length_cons, List.length_nil, List.length_append]; omega) ?_
  refine Ev.bind (spec_l01Var_ev (l.length : Int) (by omega) (by omega)) ?_
  simp only [str_app]
  refine ev_pos (by simp only [Go.strOfNums_size, List.length_cons, List.length_nil, List.length_append]; omega) ?_
  have hr := spec_RecordText_l0_ev ar ki ow ke se co fa l hl (recB_near h) (by omega) l.length 0 ([ar % 256] ++ [ki % 256] ++ [ow % 256] ++ [ke % 256] ++ varN se ++ varN (l.length : Int)) (by omega) (by simp only [List.length_cons, List.length_nil, List.length_append]; omega)
  exact hr
theorem spec_RecordText_no (ar ki ow ke se : Int) (l : List S99) (co : Int) (fa : Bool) (hl : l.length ≤ 9223372036854775807) (h : ¬ recB ar ki ow ke se l co fa = true) :
    Ev (fun k => spec_RecordText.f k ar ki ow ke se l co fa) (⟨#[]⟩, false) := by
  unfold spec_RecordText.f
  exact Ev.bind (spec_RecordOk_ev ar ki ow ke se l co fa hl) (ev_neg h (Ev.now _))

-- impl_VarText
theorem impl_VarText_l0_ev (d : Nat) : ∀ (n : Int) (acc : List Int), 0 ≤ n → n ≤ 9223372036854775807 → n < 128 ^ (d + 1) → acc.length + d < 1000 →
    Ev (fun k => impl_VarText.l0 k n acc) (strOfNums (acc ++ varL d n), true) := by
  induction d with
  | zero =>
    intro n acc h0 hm h1 hl
    refine Ev.step (f := fun _ => some (strOfNums (acc ++ varL 0 n), true)) (fun k => ?_) (Ev.now _)
    simp only [impl_VarText.l0, varL]
    rw [if_neg (by omega), if_pos (by omega)]
  | succ d ih =>
    intro n acc h0 hm h1 hl
    by_cases hn : n > 127
    · have hi := ih (n / 128) (acc ++ [n % 128 + 128]) (by omega) (by omega) (by rw [Int.pow_succ] at h1; omega) (by simp only [List.length_append, List.length_cons, List.length_nil]; omega)
      rw [List.append_assoc, List.singleton_append] at hi
      rw [varL, if_pos hn]
      refine Ev.step (fun k => ?_) hi
      simp only [impl_VarText.l0]
      rw [if_pos hn, if_pos (by omega), tdivp h0, tmodp h0, w64 (by omega) (by omega), w64 (by omega) (by omega), show (n % 128 + 128) % 256 = n % 128 + 128 by omega]
    · rw [varL, if_neg hn]
      refine Ev.step (f := fun _ => some (strOfNums (acc ++ [n % 256]), true)) (fun k => ?_) (Ev.now _)
      simp only [impl_VarText.l0]
      rw [if_neg hn, if_pos (by omega)]
theorem impl_VarText_yes (n : Int) (h0 : 0 ≤ n) (h1 : n ≤ 1000000000) : Ev (fun k => impl_VarText.f k n) (strOfNums (varN n), true) := by
  refine Ev.congr (fun k => ?_) (impl_VarText_l0_ev 9 n [] h0 (by omega) (by omega) (by simp))
  simp only [impl_VarText.f, impl_in_eq, Option.bind_some]
  rw [if_pos (by simp; omega)]
theorem impl_VarText_no (n : Int) (h : ¬ (0 ≤ n ∧ n ≤ 1000000000)) : Ev (fun k => impl_VarText.f k n) (⟨#[]⟩, false) := by
  refine Ev.congr (fun k => ?_) (Ev.now _)
  simp only [impl_VarText.f, impl_in_eq, Option.bind_some]
  rw [if_neg (by simp; omega)]

-- impl_nearOk
theorem impl_nearOk_l0_ev (q0 q1 ow q3 q4 q6 : Int) (q7 : Bool) (l : List S99) (hl : l.length ≤ 9223372036854775807) (d : Nat) : ∀ i : Nat, i + d = l.length →
    Ev (fun k => impl_nearOk.l0 k l (l.length : Int) i q0 q1 ow q3 q4 l q6 q7) (nearGo ow (pvN l i) (l.drop i)) := by
  induction d with
  | zero =>
    intro i hi
    rw [List.drop_eq_nil_of_le (by omega)]
    apply ev_succ
    simp only [impl_nearOk.l0]
    exact ev_neg (by omega) (ev_some rfl)
  | succ d ih =>
    intro i hi
    have hr := ih (i + 1) (by omega)
    obtain ⟨x, hx⟩ : ∃ x, rd_T99 l (i : Int) = x := ⟨_, rfl⟩
    have hx2 : l.getD i z99 = x := hx
    rw [pvN_succ, hx2] at hr
    rw [drop_at l z99 i (by omega), hx2]
    apply ev_succ
    simp only [impl_nearOk.l0, impl_in_eq, Option.bind_some, decide_eq_true_eq, hx]
    rw [nearGo]
    refine ev_pos (by omega) (ev_pos (by omega) (ev_pos (by omega) ?_))
    refine ev_ite (fun h1 => ?_) (fun h1 => ev_some (by rw [decide_eq_false h1]; rfl))
    refine ev_ite (fun h2 => ev_some (by rw [decide_eq_true h1, decide_eq_true h2]; rfl)) (fun h2 => ?_)
    refine ev_ite (fun h3 => ?_) (fun h3 => ev_some (by rw [decide_eq_true h1, decide_eq_false h2, decide_eq_false h3]; rfl))
    refine ev_ite (fun h4 => ?_) (fun h4 => ?_)
    · have h0 : 0 < i := by omega
      refine ev_pos (by rw [w64 (by omega) (by omega)]; omega) (ev_pos (by rw [w64 (by omega) (by omega)]; omega) ?_)
      have hp : pvN l i = some (l.getD (i - 1) z99).f0 := by unfold pvN; rw [if_neg (by omega)]
      rw [hp, rdNp l i h0 (by omega)]
      refine ev_ite (fun h5 => ev_some ?_) (fun h5 => ?_)
      · have h6 : ¬ ((l.getD (i - 1) z99).f0 < x.f0) := by omega
        simp only [Option.all_some, decide_eq_false h6, Bool.and_false, Bool.false_and]
      · have h6 : (l.getD (i - 1) z99).f0 < x.f0 := by omega
        rw [w64 (by omega) (by omega)]
        refine ev_to hr ?_
        simp only [Option.all_some, decide_eq_true h6, decide_eq_true h1, decide_eq_false h2, decide_eq_true h3, Bool.true_and, Bool.not_false]
    · have h0 : i = 0 := by omega
      have hp : pvN l i = none := by rw [h0]; rfl
      rw [hp, w64 (by omega) (by omega)]
      refine ev_to hr ?_
      simp only [Option.all_none, decide_eq_true h1, decide_eq_false h2, decide_eq_true h3, Bool.true_and, Bool.not_false]
theorem impl_nearOk_ev (q0 q1 ow q3 q4 q6 : Int) (q7 : Bool) (l : List S99) (hl : l.length ≤ 9223372036854775807) : Ev (fun k => impl_nearOk.f k q0 q1 ow q3 q4 l q6 q7) (nearB ow l) :=
  impl_nearOk_l0_ev q0 q1 ow q3 q4 q6 q7 l hl l.length 0 (by omega)

-- impl_RecordOk
/-! impl_RecordOk -/
theorem impl_RecordOk_ev (ar ki ow ke se : Int) (l : List S99) (co : Int) (fa : Bool) (hl : l.length ≤ 9223372036854775807) : Ev (fun k => impl_RecordOk.f k ar ki ow ke se l co fa) (recB ar ki ow ke se l co fa) := by
  have hj : ∀ b : Bool, Ev (fun k => impl_RecordOk.j0 k b ar ki ow ke se l co fa) (!b && recK ar ki ow ke l co fa) := by
    intro b
    apply ev_succ
    simp only [impl_RecordOk.j0, impl_in_eq, Option.bind_some, decide_eq_true_eq]
    refine ev_ite (fun hb => ev_some (by simp [hb])) (fun hb => ?_)
    have hb' : b = false := by simpa using hb
    rw [hb']
    unfold recK
    refine ev_ite (fun h1 => ?_) (fun h1 => ?_)
    · rw [if_pos h1]
      refine ev_ite (fun h2 => ?_) (fun h2 => ev_some (by simp [h2]))
      refine ev_ite (fun h3 => ?_) (fun h3 => ev_some (by simp [h3]))
      refine Ev.bind (impl_nearOk_ev ar ki ow ke se co fa l hl) ?_
      refine ev_ite (fun h4 => ?_) (fun h4 => ev_some (by simp [h4]))
      refine ev_ite (fun h5 => ev_some ?_) (fun h5 => ev_some (by simp [h5]))
      simp [h2, h3, h4, h5]
    · rw [if_neg h1]
      refine ev_ite (fun h1 => ?_) (fun h1 => ?_)
      · rw [if_pos h1]
        refine ev_ite (fun h2 => ?_) (fun h2 => ev_some (by simp [h2]))
        refine ev_ite (fun h3 => ?_) (fun h3 => ev_some (by simp [h3]))
        refine ev_ite (fun h4 => ?_) (fun h4 => ev_some ?_)
        · have h4' : l.length = 0 := by omega
          refine ev_ite (fun h5 => ev_some ?_) (fun h5 => ev_some (by simp [h5]))
          simp [h2, h3, h4', h5]
        · have h4' : ¬ l.length = 0 := by omega
          simp [h4']
      · rw [if_neg h1]
        refine ev_ite (fun h1 => ?_) (fun h1 => ?_)
        · rw [if_pos h1]
          refine ev_ite (fun h2 => ?_) (fun h2 => ev_some (by simp [h2]))
          refine ev_ite (fun h3 => ?_) (fun h3 => ev_some (by simp [h3]))
          refine ev_ite (fun h4 => ?_) (fun h4 => ev_some ?_)
          · have h4' : l.length = 0 := by omega
            refine ev_ite (fun h5 => ev_some ?_) (fun h5 => ev_some ?_)
            · simp [h2, h3, h4', h5]
            · simp [h2, h3, h4', h5]
          · have h4' : ¬ l.length = 0 := by omega
            simp [h4']
        · rw [if_neg h1]
          exact ev_some (by simp)
  unfold impl_RecordOk.f
  simp only [impl_in_eq, Option.bind_some, decide_eq_true_eq]
  unfold recB
  refine ev_ite (fun h1 => ?_) (fun h1 => ?_)
  · exact ev_to (hj _) (by simp [h1])
  · exact ev_to (hj _) (by simp [h1])

-- impl_RecordText
theorem impl_RecordText_l0_ev (q0 q1 q2 q3 q4 co : Int) (fa : Bool) (l : List S99) (hl : l.length ≤ 1048576) (hn : ∀ x ∈ l, 1 ≤ x.f0 ∧ x.f0 ≤ 6 ∧ 1 ≤ x.f1 ∧ x.f1 ≤ 1000) (hc : 0 ≤ co ∧ co ≤ 60000) (d : Nat) :
    ∀ (i : Nat) (acc : List Int), i + d = l.length → acc.length ≤ 100 + 11 * i →
    Ev (fun k => impl_RecordText.l0 k (strOfNums acc) l (l.length : Int) i q0 q1 q2 q3 q4 l co fa) (strOfNums (acc ++ nearT (l.drop i) ++ varN co ++ farT fa), true) := by
  induction d with
  | zero =>
    intro i acc hi ha
    have hv := varN_len co
    rw [List.drop_eq_nil_of_le (by omega), nearT, List.append_nil]
    apply ev_succ
    simp only [impl_RecordText.l0]
    refine ev_neg (by omega) (Ev.bind (impl_VarText_yes co hc.1 (by omega)) ?_)
    have hs1 : (strOfNums acc).size + (strOfNums (varN co)).size ≤ 9223372036854775807 := by rw [Go.strOfNums_size, Go.strOfNums_size]; omega
    have hs : (strOfNums acc ++ strOfNums (varN co)).size + 1 ≤ 9223372036854775807 := by rw [str_app, Go.strOfNums_size, List.length_append]; omega
    cases fa with
    | true => exact ev_pos rfl (ev_pos hs1 (ev_pos hs (ev_some (by rw [str_app, show (⟨#[1]⟩ : ByteArray) = strOfNums [1] from rfl, str_app]; rfl))))
    | false => exact ev_neg (by simp) (ev_pos hs1 (ev_pos hs (ev_some (by rw [str_app, show (⟨#[0]⟩ : ByteArray) = strOfNums [0] from rfl, str_app]; rfl))))
  | succ d ih =>
    intro i acc hi ha
    obtain ⟨x, hx⟩ : ∃ x, rd_T99 l (i : Int) = x := ⟨_, rfl⟩
    have hx2 : l.getD i z99 = x := hx
    have hm : x ∈ l := by rw [← hx2, List.getD_eq_getElem?_getD, List.getElem?_eq_getElem (by omega)]; exact List.getElem_mem _
    have hx3 := hn x hm
    have hv := varN_len x.f1
    have hr := ih (i + 1) (acc ++ ([x.f0 % 256] ++ varN x.f1)) (by omega) (by simp only [List.length_append, List.length_cons, List.length_nil]; omega)
    rw [drop_at l z99 i (by omega), hx2, nearT]
    apply ev_succ
    simp only [impl_RecordText.l0, hx]
    rw [w64 (by omega) (by omega)]
    refine ev_pos (by omega) (ev_pos (by omega) (ev_pos (by omega) ?_))
    refine Ev.bind (impl_VarText_yes x.f1 (by omega) (by omega)) ?_
    simp only [Option.bind_some, str_app]
    refine ev_pos (by simp only [Go.strOfNums_size, List.length_cons, List.length_nil, List.length_append]; omega) (ev_pos (by simp only [Go.strOfNums_size, List.length_cons, List.length_nil, List.length_append]; omega) ?_)
    refine ev_to hr ?_
    congr 2
    simp only [List.append_assoc, List.cons_append, List.nil_append]
theorem impl_RecordText_yes (ar ki ow ke se : Int) (l : List S99) (co : Int) (fa : Bool) (hl : l.length ≤ 1048576) (h : recB ar ki ow ke se l co fa = true) :
    Ev (fun k => impl_RecordText.f k ar ki ow ke se l co fa) (strOfNums (recT ar ki ow ke se l co fa), true) := by
  have hf := recB_facts h
  have hv := varN_len se
  have hw := varN_len (l.length : Int)
  unfold impl_RecordText.f
  refine Ev.bind (impl_RecordOk_ev ar ki ow ke se l co fa (by omega)) ?_
  rw [h]
  refine ev_pos rfl ?_
  refine Ev.bind (impl_VarText_yes se (by omega) (by omega)) (Ev.bind (impl_VarText_yes (l.length : Int) (by omega) (by omega)) ?_)
  simp only [Option.bind_some, str_app]
  refine ev_pos (by simp only [Go.strOfNums_size, List.length_cons, List.length_nil, List.length_append]; omega) ?_
  refine ev_pos (by simp only [Go.strOfNums_size, List.length_cons, List.length_nil, List.length_append]; omega) ?_
  exact impl_RecordText_l0_ev ar ki ow ke se co fa l hl (recB_near h) (by omega) l.length 0 ([ar % 256, ki % 256, ow % 256, ke % 256] ++ varN se ++ varN (l.length : Int)) (by omega) (by simp only [List.length_cons, List.length_nil, List.length_append]; omega)
theorem impl_RecordText_no (ar ki ow ke se : Int) (l : List S99) (co : Int) (fa : Bool) (hl : l.length ≤ 9223372036854775807) (h : ¬ recB ar ki ow ke se l co fa = true) :
    Ev (fun k => impl_RecordText.f k ar ki ow ke se l co fa) (⟨#[]⟩, false) := by
  unfold impl_RecordText.f
  exact Ev.bind (impl_RecordOk_ev ar ki ow ke se l co fa hl) (ev_neg h (Ev.now _))

-- toNear
/-! Near: lists -/
def toNear1 (x : S121) : S99 := ⟨x.f0, x.f1⟩
def toNearL (l : List S121) : List S99 := l.map toNear1
theorem toNearL_len (l : List S121) : (toNearL l).length = l.length := by simp [toNearL]
theorem laws_toNearS_l0_ev (l : List S121) (hl : l.length ≤ 9223372036854775807) (d : Nat) : ∀ i : Nat, i + d = l.length →
    Ev (fun k => laws_toNearS.l0 k l ((toNearL l).take i ++ List.replicate d z99) i) (toNearL l) := by
  induction d with
  | zero =>
    intro i hi
    apply ev_succ
    simp only [laws_toNearS.l0]
    refine ev_neg (by omega) (ev_some ?_)
    rw [List.take_of_length_le (by rw [toNearL_len]; omega)]
    simp
  | succ d ih =>
    intro i hi
    have hr := ih (i + 1) (by omega)
    have hlt : i < (toNearL l).length := by rw [toNearL_len]; omega
    apply ev_succ
    simp only [laws_toNearS.l0, laws_toNear.f, Option.bind_some]
    have hset : ((toNearL l).take i ++ List.replicate (d + 1) z99).set ((i : Int).toNat) (⟨(rd_T121 l i).f0, (rd_T121 l i).f1⟩ : S99) = (toNearL l).take (i + 1) ++ List.replicate d z99 := by
      rw [List.replicate_succ, set_mid _ _ _ _ _ (by rw [List.length_take]; omega), List.take_succ_eq_append_getElem hlt]
      rw [List.append_assoc]
      congr 1
      simp only [List.singleton_append]
      congr 1
      have hli : i < l.length := by omega
      simp [toNearL, toNear1, rd_T121, List.getD_eq_getElem?_getD, hli]
    rw [hset, w64 (by omega) (by omega)]
    refine ev_pos (by omega) (ev_pos (by omega) (ev_pos ?_ hr))
    simp only [List.length_append, List.length_take, List.length_replicate, toNearL_len]
    omega
theorem laws_toNearS_ev (l : List S121) (hl : l.length ≤ 1048576) : Ev (fun k => laws_toNearS.f k l) (toNearL l) := by
  unfold laws_toNearS.f
  refine ev_pos (by omega) (ev_pos (by omega) ?_)
  exact laws_toNearS_l0_ev l (by omega) l.length 0 (by omega)

-- szNear
theorem laws_szNearS_eq (l : List S121) (hl : l.length ≤ 9223372036854775807) (n : Int) (h0 : 0 ≤ n) (h1 : n ≤ 1048576) : laws_szNearS.f l n = some (if n < (l.length : Int) then -1 else n - l.length) := by
  unfold laws_szNearS.f
  rw [w64 (by omega) (by omega)]
  by_cases h : n < (l.length : Int)
  · rw [if_pos (by omega), if_pos h]
  · rw [if_neg (by omega), if_neg h]

-- toRecord
theorem laws_toRecord_ev (a b c d e : Int) (l : List S121) (f : Int) (g : Bool) (hl : l.length ≤ 1048576) : Ev (fun k => laws_toRecord.f k a b c d e l f g) (a, b, c, d, e, toNearL l, f, g) := by
  unfold laws_toRecord.f
  exact Ev.bind (laws_toNearS_ev l hl) (Ev.now _)
theorem laws_szRecord_eq (a b c d e : Int) (l : List S121) (f : Int) (g : Bool) (hl : l.length ≤ 9223372036854775807) (n : Int) (h0 : 0 ≤ n) (h1 : n ≤ 1048576) :
    laws_szRecord.f a b c d e l f g n = some (if n < (l.length : Int) then -1 else n - l.length) := by
  unfold laws_szRecord.f
  rw [laws_szNearS_eq l hl n h0 h1, Option.bind_some]
  by_cases h : n < (l.length : Int)
  · rw [if_pos h, if_pos (by omega)]
  · rw [if_neg h, if_neg (by omega)]

-- eqNear
theorem laws_eqNear_refl (a b : Int) : laws_eqNear.f a b a b = some true := by
  unfold laws_eqNear.f
  simp
theorem laws_eqNearS_l0_ev (l : List S99) (hl : l.length ≤ 9223372036854775807) (d : Nat) : ∀ i : Nat, i + d = l.length → Ev (fun k => laws_eqNearS.l0 k l l i) true := by
  induction d with
  | zero =>
    intro i hi
    apply ev_succ
    simp only [laws_eqNearS.l0]
    exact ev_neg (by omega) (Ev.now _)
  | succ d ih =>
    intro i hi
    apply ev_succ
    simp only [laws_eqNearS.l0, laws_eqNear_refl, if_true, Option.bind_some]
    rw [w64 (by omega) (by omega)]
    exact ev_pos (by omega) (ev_pos (by omega) (ev_pos (by omega) (ih (i + 1) (by omega))))
theorem laws_eqNearS_refl (l : List S99) (hl : l.length ≤ 9223372036854775807) : Ev (fun k => laws_eqNearS.f k l l) true := by
  unfold laws_eqNearS.f
  exact ev_pos rfl (laws_eqNearS_l0_ev l hl l.length 0 (by omega))

-- eqRecord
theorem laws_eqRecord_refl (a b c d e : Int) (l : List S99) (f : Int) (g : Bool) (hl : l.length ≤ 9223372036854775807) : Ev (fun k => laws_eqRecord.f k a b c d e l f g a b c d e l f g) true := by
  unfold laws_eqRecord.f
  simp only [if_true]
  refine Ev.bind (laws_eqNearS_refl l hl) ?_
  simp
  exact Ev.now _

-- FnExactRecordText
theorem FnExactRecordText : ∀ (a0_0 : Int) (a0_1 : Int) (a0_2 : Int) (a0_3 : Int) (a0_4 : Int) (l0_5 : List (S121)) (a0_6 : Int) (a0_7 : Bool), (l0_5.length ≤ 9223372036854775807) → ∃ k, laws_FnExactRecordText.f k a0_0 a0_1 a0_2 a0_3 a0_4 l0_5 a0_6 a0_7 = some true := by
  intro a b c d e l f g hl
  refine ev_ex ?_
  unfold laws_FnExactRecordText.f
  rw [laws_szRecord_eq a b c d e l f g hl 1048576 (by omega) (by omega)]
  simp only [Option.bind_some]
  refine ev_ite (fun _ => Ev.now _) (fun hs => ?_)
  have hl2 : l.length ≤ 1048576 := by
    by_cases h : (1048576 : Int) < l.length
    · rw [if_pos h] at hs; omega
    · omega
  have hl3 : (toNearL l).length ≤ 1048576 := by rw [toNearL_len]; exact hl2
  have hl4 : (toNearL l).length ≤ 9223372036854775807 := by omega
  have T := laws_toRecord_ev a b c d e l f g hl2
  have hj : Ev (fun k => laws_FnExactRecordText.j0 k false a b c d e l f g a b c d e (toNearL l) f g) true := by
    apply ev_succ
    simp only [laws_FnExactRecordText.j0]
    refine ev_neg (by simp) (Ev.bind T (Ev.bind (laws_eqRecord_refl a b c d e _ f g hl4) ?_))
    exact ev_pos rfl (Ev.now _)
  by_cases h : recB a b c d e (toNearL l) f g = true
  · exact Ev.bind T (Ev.bind (spec_RecordText_yes a b c d e _ f g hl3 h) (Ev.bind T (Ev.bind (impl_RecordText_yes a b c d e _ f g hl3 h) (ev_pos rfl hj))))
  · exact Ev.bind T (Ev.bind (spec_RecordText_no a b c d e _ f g hl4 h) (Ev.bind T (Ev.bind (impl_RecordText_no a b c d e _ f g hl4 h) (ev_pos rfl hj))))

end Go.Proofs.Ytjkjhaiemephdab.Pure
