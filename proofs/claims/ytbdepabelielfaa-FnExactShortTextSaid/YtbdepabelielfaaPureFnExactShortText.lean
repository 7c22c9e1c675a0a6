/- Proved: for every text that the row lets in, the law FnExactShortText returns true; there are no other conditions. -/
import Derived.Test.YtbdepabelielfaaPFnExactShortTextx1
set_option linter.unusedVariables false
set_option linter.unusedSimpArgs false
namespace Go.Proofs.Ytbdepabelielfaa.Pure
open Go.RowKit Go.Proofs.Ytbdepabelielfaa.PFnExactShortText Go.Proofs.YtbdepabelielfaaW.PrintWords Go.Proofs.YtbdepabelielfaaW.PrintLast

-- base
theorem w64 {x : Int} (h0 : -9223372036854775808 ≤ x) (h1 : x ≤ 9223372036854775807) : wrap64 x = x := by unfold wrap64; omega
theorem bt_b (s : ByteArray) (i : Int) : 0 ≤ bt s i ∧ bt s i < 256 := by have := bt_range s i; omega
theorem wbt (s : ByteArray) (i : Int) : wrap64 (bt s i) = bt s i := by have := bt_range s i; exact w64 (by omega) (by omega)
theorem tmodp {x m : Int} (h : 0 ≤ x) : Int.tmod x m = x % m := Int.tmod_eq_emod_of_nonneg h
theorem tdivp {x m : Int} (h : 0 ≤ x) : Int.tdiv x m = x / m := Int.tdiv_eq_ediv_of_nonneg h
/-- The bytes of a text, as numbers. -/
def B (s : ByteArray) : List Int := s.data.toList.map fun u => (u.toNat : Int)
def Byt (xs : List Int) : Prop := ∀ x ∈ xs, 0 ≤ x ∧ x < 256
theorem B_len (s : ByteArray) : (B s).length = s.size := by simp [B]
theorem B_byt (s : ByteArray) : Byt (B s) := by
  intro x hx
  obtain ⟨u, _, rfl⟩ := List.mem_map.1 hx
  have := u.toNat_lt
  omega
theorem B_str (xs : List Int) (h : Byt xs) : B (strOfNums xs) = xs := by
  simp only [B, strOfNums, List.map_map]
  conv => rhs; rw [← List.map_id xs]
  apply List.map_congr_left
  intro x hx
  have := h x hx
  simp only [Function.comp, UInt8.toNat_ofNat', id]
  omega
theorem str_B (s : ByteArray) : strOfNums (B s) = s := by
  apply Go.WideShapes.bytes_inj
  simp only [B, strOfNums, List.map_map]
  conv => rhs; rw [← List.map_id s.data.toList]
  apply List.map_congr_left
  intro x hx
  simp [Function.comp]
theorem B_inj {s t : ByteArray} (h : B s = B t) : s = t := by rw [← str_B s, ← str_B t, h]
theorem B_append (s t : ByteArray) : B (s ++ t) = B s ++ B t := by simp [B, ByteArray.data_append]
theorem B_extract (s : ByteArray) (a b : Nat) : B (s.extract a b) = ((B s).take b).drop a := by
  simp only [B, ByteArray.data_extract, Array.toList_extract, List.extract_eq_take_drop]
  rw [← List.map_take, ← List.map_drop, List.drop_take]
theorem B_bt (s : ByteArray) (i : Nat) (h : i < s.size) : (B s)[i]? = some (bt s i) := by
  have h' : i < s.data.toList.length := by rw [Array.length_toList]; exact h
  rw [B, List.getElem?_map, List.getElem?_eq_getElem h']
  simp [bt, h, ByteArray.getElem_eq_getElem_data]
theorem B_nil : B (⟨#[]⟩ : ByteArray) = [] := rfl
theorem tl_iff (s t : ByteArray) : s.toList = t.toList ↔ B s = B t := by
  rw [ByteArray.toList_eq, ByteArray.toList_eq]
  constructor
  · intro h; simp [B, h]
  · intro h; rw [B_inj h]
theorem byt_app {xs ys : List Int} (h : Byt xs) (k : Byt ys) : Byt (xs ++ ys) := by
  intro x hx
  rcases List.mem_append.1 hx with hx | hx
  · exact h x hx
  · exact k x hx
theorem wf_u32 {x : Int} (h : (Lit.int .u32 x).wf = true) : 0 ≤ x ∧ x < 4294967296 := by
  simp only [Lit.wf, IntKind.min, IntKind.max, IntKind.signed, IntKind.bits, Bool.and_eq_true, decide_eq_true_eq] at h
  simp at h
  omega
theorem wf_i64 {x : Int} (h : (Lit.int .i64 x).wf = true) : -9223372036854775808 ≤ x ∧ x ≤ 9223372036854775807 := by
  simp only [Lit.wf, IntKind.min, IntKind.max, IntKind.signed, IntKind.bits, Bool.and_eq_true, decide_eq_true_eq] at h
  simp at h
  omega
theorem ev_ex {α : Type} {g : Nat → Option α} {r : α} (h : Ev g r) : ∃ k, g k = some r := h.rounds

-- var
/-- A number in bytes, of seven bits each. -/
def varL : Nat → Int → List Int
  | 0, n => [n % 256]
  | d + 1, n => if n > 127 then (n % 128 + 128) :: varL d (n / 128) else [n % 256]
theorem varL_byt (d : Nat) : ∀ n, Byt (varL d n) := by
  induction d with
  | zero => intro n x hx; rw [varL, List.mem_singleton] at hx; omega
  | succ d ih =>
    intro n x hx
    rw [varL] at hx
    split at hx
    · rcases List.mem_cons.1 hx with rfl | hx
      · omega
      · exact ih _ x hx
    · rw [List.mem_singleton] at hx; omega
theorem varL_len (d : Nat) : ∀ n, 0 < (varL d n).length ∧ (varL d n).length ≤ d + 1 := by
  induction d with
  | zero => intro n; simp [varL]
  | succ d ih =>
    intro n
    rw [varL]
    split
    · have := ih (n / 128); simp only [List.length_cons]; omega
    · simp
def varN (n : Int) : List Int := varL 9 n
theorem varN_byt (n : Int) : Byt (varN n) := varL_byt 9 n
theorem varN_len (n : Int) : 0 < (varN n).length ∧ (varN n).length ≤ 10 := varL_len 9 n

-- spec_l01Var
theorem spec_l01Var_l0_ev (d : Nat) : ∀ (n : Int) (acc : List Int), 0 ≤ n → n ≤ 9223372036854775807 → n < 128 ^ (d + 1) → acc.length + d < 1000 →
    Ev (fun k => spec_l01Var.l0 k n acc) (strOfNums (acc ++ varL d n)) := by
  induction d with
  | zero =>
    intro n acc h0 hm h1 hl
    refine Ev.step (f := fun _ => some (strOfNums (acc ++ varL 0 n))) (fun k => ?_) (Ev.now _)
    simp only [spec_l01Var.l0, varL]
    rw [if_neg (by omega), if_pos (by omega)]
  | succ d ih =>
    intro n acc h0 hm h1 hl
    by_cases hn : n > 127
    · have hi := ih (n / 128) (acc ++ [n % 128 + 128]) (by omega) (by omega) (by rw [Int.pow_succ] at h1; omega) (by simp only [List.length_append, List.length_cons, List.length_nil]; omega)
      rw [List.append_assoc, List.singleton_append] at hi
      rw [varL, if_pos hn]
      refine Ev.step (fun k => ?_) hi
      simp only [spec_l01Var.l0]
      rw [if_pos hn, if_pos (by omega), tdivp h0, tmodp h0, w64 (by omega) (by omega), w64 (by omega) (by omega), show (n % 128 + 128) % 256 = n % 128 + 128 by omega]
    · rw [varL, if_neg hn]
      refine Ev.step (f := fun _ => some (strOfNums (acc ++ [n % 256]))) (fun k => ?_) (Ev.now _)
      simp only [spec_l01Var.l0]
      rw [if_neg hn, if_pos (by omega)]
theorem spec_l01Var_ev (n : Int) (h0 : 0 ≤ n) (h1 : n ≤ 9223372036854775807) : Ev (fun k => spec_l01Var.f k n) (strOfNums (varN n)) :=
  spec_l01Var_l0_ev 9 n [] h0 h1 (by omega) (by simp)

-- evtools
theorem ev_ite {α : Type} {c : Prop} [Decidable c] {g f : Nat → Option α} {r : α} (h : c → Ev g r) (k : ¬ c → Ev f r) : Ev (fun n => if c then g n else f n) r := by
  by_cases hc : c
  · exact Ev.congr (fun n => by rw [if_pos hc]) (h hc)
  · exact Ev.congr (fun n => by rw [if_neg hc]) (k hc)
theorem ev_pos {α : Type} {c : Prop} [Decidable c] {g f : Nat → Option α} {r : α} (hc : c) (h : Ev g r) : Ev (fun n => if c then g n else f n) r := Ev.congr (fun n => by rw [if_pos hc]) h
theorem ev_neg {α : Type} {c : Prop} [Decidable c] {g f : Nat → Option α} {r : α} (hc : ¬ c) (h : Ev f r) : Ev (fun n => if c then g n else f n) r := Ev.congr (fun n => by rw [if_neg hc]) h
theorem ev_some {α : Type} {x r : α} (h : x = r) : Ev (fun _ => some x) r := by rw [h]; exact Ev.now _
theorem ev_eq {α : Type} {x : Option α} {r : α} (h : x = some r) : Ev (fun _ => x) r := by rw [h]; exact Ev.now _

-- spec_ShortText
theorem spec_ShortText_yes (s : ByteArray) (hs : s.size ≤ 20000) : Ev (fun k => spec_ShortText.f k s) (strOfNums (varN s.size) ++ s, true) := by
  unfold spec_ShortText.f
  refine ev_neg (by omega) ?_
  refine Ev.bind (spec_l01Var_ev _ (by omega) (by omega)) (ev_pos ?_ (Ev.now _))
  have := varN_len s.size
  rw [Go.strOfNums_size]
  omega
theorem spec_ShortText_no (s : ByteArray) (hs : ¬ s.size ≤ 20000) : Ev (fun k => spec_ShortText.f k s) (⟨#[]⟩, false) := by
  unfold spec_ShortText.f
  exact ev_pos (by omega) (Ev.now _)

-- impl_in
theorem impl_in_eq (a b c : Int) : impl_in.f a b c = some (decide (b ≤ a ∧ a ≤ c)) := by
  unfold impl_in.f
  by_cases h : a ≥ b
  · rw [if_pos h]; congr 1; simp; omega
  · rw [if_neg h]; congr 1; simp; omega

-- impl_VarText
theorem impl_VarText_l0_ev (d : Nat) : ∀ (n : Int) (acc : List Int), 0 ≤ n → n ≤ 9223372036854775807 → n < 128 ^ (d + 1) → acc.length + d < 1000 →
    Ev (fun k => impl_VarText.l0 k n acc) (strOfNums (acc ++ varL d n), true) := by
  induction d with
  | zero =>
    intro n acc h0 hm h1 hl
    refine Ev.step (f := fun _ => some (strOfNums (acc ++ varL 0 n), true)) (fun k => ?_) (Ev.now _)
    simp only [impl_VarText.l0, varL]
    rw [if_neg (by omega), if_pos (by omega)]
  | succ d ih =>
    intro n acc h0 hm h1 hl
    by_cases hn : n > 127
    · have hi := ih (n / 128) (acc ++ [n % 128 + 128]) (by omega) (by omega) (by rw [Int.pow_succ] at h1; omega) (by simp only [List.length_append, List.length_cons, List.length_nil]; omega)
      rw [List.append_assoc, List.singleton_append] at hi
      rw [varL, if_pos hn]
      refine Ev.step (fun k => ?_) hi
      simp only [impl_VarText.l0]
      rw [if_pos hn, if_pos (by omega), tdivp h0, tmodp h0, w64 (by omega) (by omega), w64 (by omega) (by omega), show (n % 128 + 128) % 256 = n % 128 + 128 by omega]
    · rw [varL, if_neg hn]
      refine Ev.step (f := fun _ => some (strOfNums (acc ++ [n % 256]), true)) (fun k => ?_) (Ev.now _)
      simp only [impl_VarText.l0]
      rw [if_neg hn, if_pos (by omega)]
theorem impl_VarText_yes (n : Int) (h0 : 0 ≤ n) (h1 : n ≤ 1000000000) : Ev (fun k => impl_VarText.f k n) (strOfNums (varN n), true) := by
  refine Ev.congr (fun k => ?_) (impl_VarText_l0_ev 9 n [] h0 (by omega) (by omega) (by simp))
  simp only [impl_VarText.f, impl_in_eq, Option.bind_some]
  rw [if_pos (by simp; omega)]
theorem impl_VarText_no (n : Int) (h : ¬ (0 ≤ n ∧ n ≤ 1000000000)) : Ev (fun k => impl_VarText.f k n) (⟨#[]⟩, false) := by
  refine Ev.congr (fun k => ?_) (Ev.now _)
  simp only [impl_VarText.f, impl_in_eq, Option.bind_some]
  rw [if_neg (by simp; omega)]

-- impl_ShortText
theorem impl_ShortText_yes (s : ByteArray) (hs : s.size ≤ 20000) : Ev (fun k => impl_ShortText.f k s) (strOfNums (varN s.size) ++ s, true) := by
  unfold impl_ShortText.f
  refine ev_neg (by omega) ?_
  refine Ev.bind (impl_VarText_yes _ (by omega) (by omega)) (ev_pos ?_ (Ev.now _))
  have := varN_len s.size
  rw [Go.strOfNums_size]
  omega
theorem impl_ShortText_no (s : ByteArray) (hs : ¬ s.size ≤ 20000) : Ev (fun k => impl_ShortText.f k s) (⟨#[]⟩, false) := by
  unfold impl_ShortText.f
  exact ev_pos (by omega) (Ev.now _)

-- FnExactShortText
theorem FnExactShortText : laws_FnExactShortText.Pure := by
  intro s hs
  refine ev_ex ?_
  unfold laws_FnExactShortText.f
  refine ev_ite (fun _ => Ev.now _) (fun _ => ?_)
  by_cases h : s.size ≤ 20000
  · exact Ev.bind (spec_ShortText_yes s h) (Ev.bind (impl_ShortText_yes s h) (ev_pos rfl (ev_neg (by simp) (Ev.now _))))
  · exact Ev.bind (spec_ShortText_no s h) (Ev.bind (impl_ShortText_no s h) (ev_pos rfl (ev_neg (by simp) (Ev.now _))))

end Go.Proofs.Ytbdepabelielfaa.Pure
