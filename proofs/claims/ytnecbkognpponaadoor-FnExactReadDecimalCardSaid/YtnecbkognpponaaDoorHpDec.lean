/- What the specification's Decimal comes to, in plain Lean: for every int its numeral, as strconv.Itoa spells it; there are no other conditions. -/
import Derived.Test.YtnecbkognpponaaDoorHDec
import Derived.Test.YtnecbkognpponaaDoorQspecDecimal
set_option linter.unusedVariables false
set_option linter.unusedSimpArgs false
namespace Go.Proofs.YtnecbkognpponaaDoor.Pure
open Go.RowKit Go.Proofs.YtnecbkognpponaaDoor.Q Go.Proofs.YtnecbkognpponaaDoorW.PrintWords Go.Proofs.YtnecbkognpponaaDoorW.PrintLast
theorem w64 {x : Int} (h0 : -9223372036854775808 ≤ x) (h1 : x ≤ 9223372036854775807) : wrap64 x = x := by unfold wrap64; omega
theorem bt_b (s : ByteArray) (i : Int) : 0 ≤ bt s i ∧ bt s i < 256 := by have := bt_range s i; omega
theorem wbt (s : ByteArray) (i : Int) : wrap64 (bt s i) = bt s i := by have := bt_range s i; exact w64 (by omega) (by omega)
theorem tmodp {x m : Int} (h : 0 ≤ x) : Int.tmod x m = x % m := Int.tmod_eq_emod_of_nonneg h
theorem tdivp {x m : Int} (h : 0 ≤ x) : Int.tdiv x m = x / m := Int.tdiv_eq_ediv_of_nonneg h
/-- The bytes of a text, as numbers. -/
def B (s : ByteArray) : List Int := s.data.toList.map fun u => (u.toNat : Int)
def Byt (xs : List Int) : Prop := ∀ x ∈ xs, 0 ≤ x ∧ x < 256
theorem B_len (s : ByteArray) : (B s).length = s.size := by simp [B]
theorem B_byt (s : ByteArray) : Byt (B s) := by
  intro x hx
  obtain ⟨u, _, rfl⟩ := List.mem_map.1 hx
  have := u.toNat_lt
  omega
theorem B_str (xs : List Int) (h : Byt xs) : B (strOfNums xs) = xs := by
  simp only [B, strOfNums, List.map_map]
  conv => rhs; rw [← List.map_id xs]
  apply List.map_congr_left
  intro x hx
  have := h x hx
  simp only [Function.comp, UInt8.toNat_ofNat', id]
  omega
theorem str_B (s : ByteArray) : strOfNums (B s) = s := by
  apply Go.WideShapes.bytes_inj
  simp only [B, strOfNums, List.map_map]
  conv => rhs; rw [← List.map_id s.data.toList]
  apply List.map_congr_left
  intro x hx
  simp [Function.comp]
theorem B_inj {s t : ByteArray} (h : B s = B t) : s = t := by rw [← str_B s, ← str_B t, h]
theorem B_append (s t : ByteArray) : B (s ++ t) = B s ++ B t := by simp [B, ByteArray.data_append]
theorem B_extract (s : ByteArray) (a b : Nat) : B (s.extract a b) = ((B s).take b).drop a := by
  simp only [B, ByteArray.data_extract, Array.toList_extract, List.extract_eq_take_drop]
  rw [← List.map_take, ← List.map_drop, List.drop_take]
theorem B_bt (s : ByteArray) (i : Nat) (h : i < s.size) : (B s)[i]? = some (bt s i) := by
  have h' : i < s.data.toList.length := by rw [Array.length_toList]; exact h
  rw [B, List.getElem?_map, List.getElem?_eq_getElem h']
  simp [bt, h, ByteArray.getElem_eq_getElem_data]
theorem B_nil : B (⟨#[]⟩ : ByteArray) = [] := rfl
theorem tl_iff (s t : ByteArray) : s.toList = t.toList ↔ B s = B t := by
  rw [ByteArray.toList_eq, ByteArray.toList_eq]
  constructor
  · intro h; simp [B, h]
  · intro h; rw [B_inj h]
theorem byt_app {xs ys : List Int} (h : Byt xs) (k : Byt ys) : Byt (xs ++ ys) := by
  intro x hx
  rcases List.mem_append.1 hx with hx | hx
  · exact h x hx
  · exact k x hx
theorem wf_u32 {x : Int} (h : (Lit.int .u32 x).wf = true) : 0 ≤ x ∧ x < 4294967296 := by
  simp only [Lit.wf, IntKind.min, IntKind.max, IntKind.signed, IntKind.bits, Bool.and_eq_true, decide_eq_true_eq] at h
  simp at h
  omega
theorem wf_i64 {x : Int} (h : (Lit.int .i64 x).wf = true) : -9223372036854775808 ≤ x ∧ x ≤ 9223372036854775807 := by
  simp only [Lit.wf, IntKind.min, IntKind.max, IntKind.signed, IntKind.bits, Bool.and_eq_true, decide_eq_true_eq] at h
  simp at h
  omega
theorem ev_ex {α : Type} {g : Nat → Option α} {r : α} (h : Ev g r) : ∃ k, g k = some r := h.rounds
/-- The decimal digits of u, as numbers. -/
def dN (u : Nat) : List Int := (Lib.decDigits u).map fun x => (x.toNat : Int)
theorem u8n {x : Nat} (h : x < 256) : (UInt8.ofNat x).toNat = x := by simp [UInt8.toNat_ofNat']; omega
theorem dN_small {u : Nat} (h : u < 10) : dN u = [48 + (u : Int)] := by
  unfold dN; rw [Lib.decDigits, dif_pos h]
  simp only [List.map_cons, List.map_nil]
  rw [u8n (by omega)]; simp
theorem dN_big {u : Nat} (h : ¬ u < 10) : dN u = dN (u / 10) ++ [48 + ((u % 10 : Nat) : Int)] := by
  unfold dN; rw [Lib.decDigits, dif_neg h]
  simp only [List.map_append, List.map_cons, List.map_nil]
  rw [u8n (by omega)]; simp
theorem dN_dig : ∀ (d u : Nat), u < 10 ^ d → ∀ x ∈ dN u, 48 ≤ x ∧ x ≤ 57
  | 0, u, h => by
    have : u = 0 := by simpa using h
    subst this; rw [dN_small (by omega)]; simp
  | d + 1, u, h => by
    by_cases hs : u < 10
    · rw [dN_small hs]; intro x hx; simp at hx; omega
    · rw [dN_big hs]; intro x hx
      rcases List.mem_append.1 hx with hx | hx
      · exact dN_dig d (u / 10) (by rw [Nat.pow_succ] at h; omega) x hx
      · simp only [List.mem_singleton] at hx; omega
theorem dN_len : ∀ (d u : Nat), u < 10 ^ d → 1 ≤ (dN u).length ∧ (dN u).length ≤ d + 1
  | 0, u, h => by
    have : u = 0 := by simpa using h
    subst this; rw [dN_small (by omega)]; simp
  | d + 1, u, h => by
    by_cases hs : u < 10
    · rw [dN_small hs]; simp
    · rw [dN_big hs]
      have := dN_len d (u / 10) (by rw [Nat.pow_succ] at h; omega)
      simp only [List.length_append, List.length_cons, List.length_nil]; omega
theorem B_itoa (n : Int) : B (itoaB n) = (if n < 0 then 45 :: dN n.natAbs else dN n.natAbs) := by
  unfold B itoaB Lib.itoa dN
  by_cases h : n < 0
  · rw [if_pos h, if_pos h]; rfl
  · rw [if_neg h, if_neg h]
    have : n.toNat = n.natAbs := by omega
    rw [this]
theorem fig (x : Int) (h0 : 0 ≤ x) (h : x < 10) : spec_l01Figure.f x = some (48 + x) := by
  unfold spec_l01Figure.f; rw [if_pos h, w64 (by omega) (by omega)]; congr 1; omega
theorem one_size (x : Int) : (strOfNums [x]).size = 1 := by simp [strOfNums, ByteArray.size]
theorem dec_l0 (b : Bool) : ∀ (d : Nat) (n : Int) (s : ByteArray) (k : Nat), n ≠ 0 → n.natAbs < 10 ^ d → -9223372036854775808 ≤ n → n ≤ 9223372036854775807 → s.size + d ≤ 1000 → d < k →
    ∃ r, spec_Decimal.l0 k n b s = some r ∧ B r = (if b then [45] else []) ++ dN n.natAbs ++ B s
  | 0, n, s, k, hn, h, _, _, _, _ => by exfalso; simp at h; omega
  | d + 1, n, s, k, hn, h, h0, h1, hs, hk => by
    obtain ⟨k, rfl⟩ : ∃ m, k = m + 1 := ⟨k - 1, by omega⟩
    have hq : (Int.tdiv n 10).natAbs = n.natAbs / 10 := by rw [Int.natAbs_tdiv]; rfl
    have hr : (Int.tmod n 10).natAbs = n.natAbs % 10 := by simp [Int.natAbs_tmod]
    have hd : n = 10 * Int.tdiv n 10 + Int.tmod n 10 := (Int.mul_tdiv_add_tmod n 10).symm
    have hlt : n.natAbs / 10 < 10 ^ d := by rw [Nat.pow_succ] at h; omega
    have wq : wrap64 (Int.tdiv n 10) = Int.tdiv n 10 := w64 (by omega) (by omega)
    have key : ∀ x : Int, x = ((n.natAbs % 10 : Nat) : Int) → (strOfNums [48 + x]).size + s.size ≤ 9223372036854775807 ∧
        ∃ r, spec_Decimal.l0 k (Int.tdiv n 10) b (strOfNums [48 + x] ++ s) = some r ∧ B r = (if b then [45] else []) ++ dN n.natAbs ++ B s := by
      intro x hx
      have hB : B (strOfNums [48 + x] ++ s) = (48 + x) :: B s := by
        rw [B_append, B_str _ (by intro y hy; simp only [List.mem_singleton] at hy; omega)]; rfl
      refine ⟨by rw [one_size]; omega, ?_⟩
      by_cases hs10 : n.natAbs < 10
      · have hz : Int.tdiv n 10 = 0 := by omega
        obtain ⟨k, rfl⟩ : ∃ m, k = m + 1 := ⟨k - 1, by omega⟩
        rw [hz]
        simp only [spec_Decimal.l0, if_true]
        have hx' : n.natAbs % 10 = n.natAbs := by omega
        rw [hx'] at hx
        cases b with
        | true =>
          rw [if_pos rfl, if_pos (by rw [ByteArray.size_append, one_size]; omega)]
          refine ⟨_, rfl, ?_⟩
          rw [B_append, hB, dN_small hs10, hx]; rfl
        | false =>
          rw [if_neg (by decide)]
          refine ⟨_, rfl, ?_⟩
          rw [hB, dN_small hs10, hx]; rfl
      · obtain ⟨r, e, hB2⟩ := dec_l0 b d (Int.tdiv n 10) (strOfNums [48 + x] ++ s) k (by omega) (by rw [hq]; exact hlt) (by omega) (by omega) (by rw [ByteArray.size_append, one_size]; omega) (by omega)
        refine ⟨r, e, ?_⟩
        rw [hB2, hB, hq, dN_big hs10, hx]
        simp
    simp only [spec_Decimal.l0]
    rw [if_neg hn]
    by_cases hneg : Int.tmod n 10 < 0
    · have wr : wrap64 (-(Int.tmod n 10)) = -(Int.tmod n 10) := w64 (by omega) (by omega)
      rw [if_pos hneg, wr, fig _ (by omega) (by omega)]
      simp only [Option.bind_some]
      obtain ⟨c, r, e, hB⟩ := key (-(Int.tmod n 10)) (by omega)
      rw [if_pos c, wq]; exact ⟨r, e, hB⟩
    · rw [if_neg hneg, fig _ (by omega) (by omega)]
      simp only [Option.bind_some]
      obtain ⟨c, r, e, hB⟩ := key (Int.tmod n 10) (by omega)
      rw [if_pos c, wq]; exact ⟨r, e, hB⟩
/-- The specification's Decimal: the numeral, for every int. -/
theorem spec_dec (n : Int) (h0 : -9223372036854775808 ≤ n) (h1 : n ≤ 9223372036854775807) (k : Nat) (hk : 30 ≤ k) : spec_Decimal.f k n = some (itoaB n) := by
  unfold spec_Decimal.f
  by_cases hz : n = 0
  · subst hz; rw [if_pos rfl]; congr 1; apply B_inj; rw [B_itoa, if_neg (by omega), dN_small (by decide)]; rfl
  · rw [if_neg hz]
    obtain ⟨r, e, hB⟩ := dec_l0 (decide (n < 0)) 20 n ⟨#[]⟩ k hz (by omega) h0 h1 (by show 0 + 20 ≤ 1000; omega) (by omega)
    rw [e]; congr 1
    apply B_inj
    rw [hB, B_itoa, B_nil, List.append_nil]
    by_cases hn : n < 0
    · simp [hn]
    · simp [hn]
end Go.Proofs.YtnecbkognpponaaDoor.Pure
