/- What the specification's ReadDecimal comes to, in plain Lean: for every text what the program's does; there are no other conditions. -/
import Derived.Test.YtnecbkognpponaaDoorHpDec
import Derived.Test.YtnecbkognpponaaDoorHRead
import Derived.Lib.AtoiTie
set_option linter.unusedVariables false
set_option linter.unusedSimpArgs false
namespace Go.Proofs.YtnecbkognpponaaDoor.Pure
open Go.RowKit Go.Proofs.YtnecbkognpponaaDoor.Q Go.Proofs.YtnecbkognpponaaDoorW.PrintWords Go.Proofs.YtnecbkognpponaaDoorW.PrintLast
theorem decFrom_app : ∀ (l m : List UInt8) (a : Nat), Lib.decFrom a (l ++ m) = (Lib.decFrom a l).bind fun b => Lib.decFrom b m
  | [], m, a => rfl
  | c :: l, m, a => by
    simp only [List.cons_append, Lib.decFrom]
    cases Lib.digitVal c with
    | none => rfl
    | some d => exact decFrom_app l m _
theorem digitVal_of {x : Nat} (h : x < 10) : Lib.digitVal (UInt8.ofNat (48 + x)) = some x := by
  unfold Lib.digitVal; rw [u8n (by omega), if_pos (by omega)]; congr 1; omega
theorem decFrom_dec : ∀ (d u : Nat), u < 10 ^ d → Lib.decFrom 0 (Lib.decDigits u) = some u
  | 0, u, h => by
    have : u = 0 := by simpa using h
    subst this; rw [Lib.decDigits, dif_pos (by omega)]
    simp only [Lib.decFrom, digitVal_of (x := 0) (by omega)]
  | d + 1, u, h => by
    by_cases hs : u < 10
    · rw [Lib.decDigits, dif_pos hs]; simp only [Lib.decFrom, digitVal_of hs]; congr 1; omega
    · rw [Lib.decDigits, dif_neg hs, decFrom_app, decFrom_dec d (u / 10) (by rw [Nat.pow_succ] at h; omega)]
      simp only [Option.bind_some, Lib.decFrom, digitVal_of (x := u % 10) (by omega)]; congr 1; omega
theorem decDigits_ne (u : Nat) : Lib.decDigits u ≠ [] := by
  intro h
  have := Lib.decDigits_length u
  have := Lib.nDigits_pos u
  rw [h] at *; simp at *; omega
theorem dec_head {u : Nat} {b : UInt8} {r : List UInt8} (h : Lib.decDigits u = b :: r) : 48 ≤ b.toNat := by
  have hm : (b.toNat : Int) ∈ dN u := by unfold dN; rw [h]; simp
  have := dN_dig u u (Nat.lt_pow_self (by decide)) _ hm
  omega
theorem itoa_len {v : Int} (h0 : 0 ≤ v) (h1 : v ≤ 1000000000) : (Lib.itoa v).length ≤ 10 := by
  unfold Lib.itoa; rw [if_neg (by omega), Lib.decDigits_length]
  by_cases h : v = 1000000000
  · subst h
    rw [show Lib.nDigits (1000000000 : Int).toNat = 9 + 1 from Lib.nDigits_unique 9 _ (by decide) (by decide)]; omega
  · have hlt : v.toNat < 10 ^ 9 := by omega
    have := dN_len 9 v.toNat hlt
    unfold dN at this; rw [List.length_map, Lib.decDigits_length] at this; omega
theorem atoi_itoa {v : Int} (h0 : 0 ≤ v) (h1 : v ≤ 1000000000) : Lib.atoiAll (Lib.itoa v) = .ok v := by
  have hl := itoa_len h0 h1
  rw [Lib.atoiAll_short _ (by omega)]
  have ha : Lib.atoi (Lib.itoa v) = some v := by
    unfold Lib.itoa; rw [if_neg (by omega)]
    have hd := decFrom_dec v.toNat v.toNat (Nat.lt_pow_self (by decide))
    have hne := decDigits_ne v.toNat
    cases hc : Lib.decDigits v.toNat with
    | nil => exact absurd hc hne
    | cons b r =>
      have hb := dec_head hc
      have h45 : (b == 45) = false := by
        rw [beq_eq_false_iff_ne]; intro e; rw [e] at hb; revert hb; decide
      have h43 : (b == 43) = false := by
        rw [beq_eq_false_iff_ne]; intro e; rw [e] at hb; revert hb; decide
      simp only [Lib.atoi, h45, h43, Bool.false_eq_true, if_false]
      unfold Lib.decNat
      rw [if_neg (by simp), ← hc, hd]
      simp; omega
  rw [ha]; rfl
theorem list_itoaB (v : Int) : (itoaB v).data.toList = Lib.itoa v := rfl
theorem toList_eq (s t : ByteArray) : s.toList = t.toList ↔ s = t := by
  rw [tl_iff]; exact ⟨B_inj, fun h => by rw [h]⟩
/-- The program's answer, by what the text is. -/
theorem rdN_yes {v : Int} (h0 : 0 ≤ v) (h1 : v ≤ 1000000000) : rdN (itoaB v) = (v, true) := by
  unfold rdN; rw [list_itoaB, atoi_itoa h0 h1]
  simp only
  rw [if_pos h0, if_pos h1]; simp
theorem rdN_no (s : ByteArray) (h : ∀ v : Int, 0 ≤ v → v ≤ 1000000000 → s ≠ itoaB v) : rdN s = (0, false) := by
  unfold rdN
  cases ha : Lib.atoiAll s.data.toList with
  | «syntax» => rfl
  | range => rfl
  | ok v =>
    simp only
    by_cases h0 : 0 ≤ v
    · by_cases h1 : v ≤ 1000000000
      · rw [if_pos h0, if_pos h1, if_neg]
        intro e; exact h v h0 h1 ((toList_eq _ _).1 e).symm
      · rw [if_pos h0, if_neg h1]
    · rw [if_neg h0]
/-- The number that figures spell, behind a. -/
def valD (a : Int) : List Int → Int
  | [] => a
  | c :: r => valD (10 * a + (c - 48)) r
theorem valD_app (l m : List Int) : ∀ a, valD a (l ++ m) = valD (valD a l) m := by
  induction l with
  | nil => intro a; rfl
  | cons c l ih => intro a; simp only [List.cons_append, valD]; exact ih _
theorem valD_dN : ∀ (d u : Nat), u < 10 ^ d → valD 0 (dN u) = u
  | 0, u, h => by
    have : u = 0 := by simpa using h
    subst this; rw [dN_small (by omega)]; simp [valD]
  | d + 1, u, h => by
    by_cases hs : u < 10
    · rw [dN_small hs]; simp [valD]; omega
    · rw [dN_big hs, valD_app, valD_dN d (u / 10) (by rw [Nat.pow_succ] at h; omega)]
      simp only [valD]; omega
theorem drop_bt (s : ByteArray) (i : Nat) (h : i < s.size) : (B s).drop i = bt s i :: (B s).drop (i + 1) := by
  have hl : i < (B s).length := by rw [B_len]; exact h
  rw [List.drop_eq_getElem_cons hl]
  have := B_bt s i h
  rw [List.getElem?_eq_getElem hl] at this
  rw [Option.some.inj this]
/-- The specification's loop, from place i on. -/
theorem rd_loop (s : ByteArray) (hs : s.size ≤ 10) : ∀ (d i : Nat) (x : Int) (k : Nat), i + d = s.size → 0 ≤ x → x < 10 ^ i → d + 40 ≤ k →
    spec_ReadDecimal.l0 k s x i = some (if ∀ c ∈ (B s).drop i, 48 ≤ c ∧ c ≤ 57 then (if valD x ((B s).drop i) ≤ 1000000000 ∧ s = itoaB (valD x ((B s).drop i)) then (valD x ((B s).drop i), true) else (0, false)) else (0, false)) ∧ ((∀ c ∈ (B s).drop i, 48 ≤ c ∧ c ≤ 57) → 0 ≤ valD x ((B s).drop i))
  | 0, i, x, k, hd, h0, h1, hk => by
    obtain ⟨k, rfl⟩ : ∃ m, k = m + 1 := ⟨k - 1, by omega⟩
    have hi : i = s.size := by omega
    have hdrop : (B s).drop i = [] := by rw [List.drop_eq_nil_iff, B_len]; omega
    have hx : x < 10000000000 := by
      have : (10 : Int) ^ i ≤ 10 ^ 10 := by
        have := Nat.pow_le_pow_right (n := 10) (by decide) (show i ≤ 10 by omega)
        exact_mod_cast this
      have e : (10 : Int) ^ 10 = 10000000000 := by decide
      omega
    rw [hdrop]
    refine ⟨?_, fun _ => h0⟩
    rw [if_pos (by simp)]
    have hv0 : valD x [] = x := rfl
    rw [hv0]
    simp only [spec_ReadDecimal.l0]
    rw [if_neg (by omega)]
    by_cases hm : x > 1000000000
    · rw [if_pos hm, if_neg (fun h => absurd h.1 (by omega))]
    · rw [if_neg hm, spec_dec x (by omega) (by omega) k (by omega)]
      simp only [Option.bind_some]
      by_cases he : (itoaB x).toList = s.toList
      · rw [if_pos he, if_pos ⟨by omega, ((toList_eq _ _).1 he).symm⟩]
      · rw [if_neg he, if_neg (fun h => he ((toList_eq _ _).2 h.2.symm))]
  | d + 1, i, x, k, hd, h0, h1, hk => by
    obtain ⟨k, rfl⟩ : ∃ m, k = m + 1 := ⟨k - 1, by omega⟩
    have hi : i < s.size := by omega
    have hb := bt_b s i
    have hx : x < 10000000000 := by
      have : (10 : Int) ^ i ≤ 10 ^ 10 := by
        have := Nat.pow_le_pow_right (n := 10) (by decide) (show i ≤ 10 by omega)
        exact_mod_cast this
      have e : (10 : Int) ^ 10 = 10000000000 := by decide
      omega
    have hdr := drop_bt s i hi
    simp only [spec_ReadDecimal.l0]
    rw [if_pos (by omega), if_pos (by omega), hdr]
    by_cases hlo : bt s i < 48
    · rw [if_pos hlo, if_neg (by intro h; have := h (bt s i) (by simp); omega)]
      exact ⟨rfl, fun h => by have := h (bt s i) (by simp); omega⟩
    · rw [if_neg hlo]
      by_cases hhi : bt s i > 57
      · rw [if_pos hhi, if_neg (by intro h; have := h (bt s i) (by simp); omega)]
        exact ⟨rfl, fun h => by have := h (bt s i) (by simp); omega⟩
      · rw [if_neg hhi, wbt, w64 (x := 10 * x) (by omega) (by omega), w64 (x := 10 * x + bt s i) (by omega) (by omega), w64 (x := 10 * x + bt s i - 48) (by omega) (by omega), w64 (x := (i : Int) + 1) (by omega) (by omega)]
        have hp : (10 : Int) ^ (i + 1) = 10 ^ i * 10 := Int.pow_succ _ _
        obtain ⟨e, hv⟩ := rd_loop s hs d (i + 1) (10 * x + bt s i - 48) k (by omega) (by omega) (by omega) (by omega)
        have ec : ((i + 1 : Nat) : Int) = (i : Int) + 1 := by omega
        rw [ec] at e
        rw [e]
        have ev : valD x (bt s i :: (B s).drop (i + 1)) = valD (10 * x + bt s i - 48) ((B s).drop (i + 1)) := by
          simp only [valD]; congr 1; omega
        rw [ev]
        have iff : (∀ c ∈ bt s i :: (B s).drop (i + 1), 48 ≤ c ∧ c ≤ 57) ↔ ∀ c ∈ (B s).drop (i + 1), 48 ≤ c ∧ c ≤ 57 := by
          constructor
          · intro h c hc; exact h c (by simp [hc])
          · intro h c hc
            rcases List.mem_cons.1 hc with rfl | hc
            · exact ⟨by omega, by omega⟩
            · exact h c hc
        refine ⟨?_, fun h => hv (iff.1 h)⟩
        by_cases hall : ∀ c ∈ (B s).drop (i + 1), 48 ≤ c ∧ c ≤ 57
        · rw [if_pos hall, if_pos (iff.2 hall)]
        · rw [if_neg hall, if_neg (fun h => hall (iff.1 h))]
/-- The specification's ReadDecimal answers as the program's. -/
theorem spec_read (s : ByteArray) (hs : s.size ≤ 1048576) (k : Nat) (hk : 60 ≤ k) : spec_ReadDecimal.f k s = some (rdN s) := by
  unfold spec_ReadDecimal.f
  by_cases h10 : (s.size : Int) > 10
  · rw [if_pos h10, rdN_no]
    intro v h0 h1 e
    have := itoa_len h0 h1
    have e2 : s.size = (Lib.itoa v).length := by rw [e]; rfl
    omega
  · rw [if_neg h10]
    obtain ⟨e, hv⟩ := rd_loop s (by omega) s.size 0 0 k (by omega) (by omega) (by decide) (by omega)
    have e0 : ((0 : Nat) : Int) = 0 := rfl
    rw [e0, List.drop_zero] at e
    rw [List.drop_zero] at hv
    rw [e]
    congr 1
    by_cases hall : ∀ c ∈ B s, 48 ≤ c ∧ c ≤ 57
    · rw [if_pos hall]
      have h0 := hv hall
      by_cases hc : valD 0 (B s) ≤ 1000000000 ∧ s = itoaB (valD 0 (B s))
      · rw [if_pos hc]
        have := rdN_yes h0 hc.1
        rw [← hc.2] at this
        exact this.symm
      · rw [if_neg hc, rdN_no]
        intro v h0 h1 es
        have hB : B s = dN v.natAbs := by rw [es, B_itoa, if_neg (by omega)]
        have hval : valD 0 (B s) = v := by rw [hB, valD_dN v.natAbs v.natAbs (Nat.lt_pow_self (by decide))]; omega
        exact hc ⟨by omega, by rw [hval]; exact es⟩
    · rw [if_neg hall, rdN_no]
      intro v h0 h1 es
      apply hall
      rw [es, B_itoa, if_neg (by omega)]
      exact dN_dig v.natAbs v.natAbs (Nat.lt_pow_self (by decide))
end Go.Proofs.YtnecbkognpponaaDoor.Pure
