/- Proved: the pure statement of the law FnExactReadRecord, for every input that its statement lets in. -/
import Derived.Test.YtnecbkognpponaaQlawsFnExactReadRecord
set_option linter.unusedVariables false
set_option linter.unusedSimpArgs false
namespace Go.Proofs.Ytnecbkognpponaa.Pure
open Go.RowKit Go.Proofs.Ytnecbkognpponaa.Q Go.Proofs.YtnecbkognpponaaW.PrintWords Go.Proofs.YtnecbkognpponaaW.PrintLast

theorem w64 {x : Int} (h0 : -9223372036854775808 ≤ x) (h1 : x ≤ 9223372036854775807) : wrap64 x = x := by unfold wrap64; omega
theorem bt_b (s : ByteArray) (i : Int) : 0 ≤ bt s i ∧ bt s i < 256 := by have := bt_range s i; omega
theorem wbt (s : ByteArray) (i : Int) : wrap64 (bt s i) = bt s i := by have := bt_range s i; exact w64 (by omega) (by omega)
theorem tmodp {x m : Int} (h : 0 ≤ x) : Int.tmod x m = x % m := Int.tmod_eq_emod_of_nonneg h
theorem tdivp {x m : Int} (h : 0 ≤ x) : Int.tdiv x m = x / m := Int.tdiv_eq_ediv_of_nonneg h
/-- The bytes of a text, as numbers. -/
def B (s : ByteArray) : List Int := s.data.toList.map fun u => (u.toNat : Int)
def Byt (xs : List Int) : Prop := ∀ x ∈ xs, 0 ≤ x ∧ x < 256
theorem B_len (s : ByteArray) : (B s).length = s.size := by simp [B]
theorem B_byt (s : ByteArray) : Byt (B s) := by
  intro x hx
  obtain ⟨u, _, rfl⟩ := List.mem_map.1 hx
  have := u.toNat_lt
  omega
theorem B_str (xs : List Int) (h : Byt xs) : B (strOfNums xs) = xs := by
  simp only [B, strOfNums, List.map_map]
  conv => rhs; rw [← List.map_id xs]
  apply List.map_congr_left
  intro x hx
  have := h x hx
  simp only [Function.comp, UInt8.toNat_ofNat', id]
  omega
theorem str_B (s : ByteArray) : strOfNums (B s) = s := by
  apply Go.WideShapes.bytes_inj
  simp only [B, strOfNums, List.map_map]
  conv => rhs; rw [← List.map_id s.data.toList]
  apply List.map_congr_left
  intro x hx
  simp [Function.comp]
theorem B_inj {s t : ByteArray} (h : B s = B t) : s = t := by rw [← str_B s, ← str_B t, h]
theorem B_extract (s : ByteArray) (a b : Nat) : B (s.extract a b) = ((B s).take b).drop a := by
  simp only [B, ByteArray.data_extract, Array.toList_extract, List.extract_eq_take_drop]
  rw [← List.map_take, ← List.map_drop, List.drop_take]
theorem B_bt (s : ByteArray) (i : Nat) (h : i < s.size) : (B s)[i]? = some (bt s i) := by
  have h' : i < s.data.toList.length := by rw [Array.length_toList]; exact h
  rw [B, List.getElem?_map, List.getElem?_eq_getElem h']
  simp [bt, h, ByteArray.getElem_eq_getElem_data]
theorem tl_iff (s t : ByteArray) : s.toList = t.toList ↔ B s = B t := by
  rw [ByteArray.toList_eq, ByteArray.toList_eq]
  constructor
  · intro h; simp [B, h]
  · intro h; rw [B_inj h]
theorem ev_ex {α : Type} {g : Nat → Option α} {r : α} (h : Ev g r) : ∃ k, g k = some r := h.rounds

/-- A number in bytes, of seven bits each. -/
def varL : Nat → Int → List Int
  | 0, n => [n % 256]
  | d + 1, n => if n > 127 then (n % 128 + 128) :: varL d (n / 128) else [n % 256]
theorem varL_byt (d : Nat) : ∀ n, Byt (varL d n) := by
  induction d with
  | zero => intro n x hx; rw [varL, List.mem_singleton] at hx; omega
  | succ d ih =>
    intro n x hx
    rw [varL] at hx
    split at hx
    · rcases List.mem_cons.1 hx with rfl | hx
      · omega
      · exact ih _ x hx
    · rw [List.mem_singleton] at hx; omega
theorem varL_len (d : Nat) : ∀ n, 0 < (varL d n).length ∧ (varL d n).length ≤ d + 1 := by
  induction d with
  | zero => intro n; simp [varL]
  | succ d ih =>
    intro n
    rw [varL]
    split
    · have := ih (n / 128); simp only [List.length_cons]; omega
    · simp
def varN (n : Int) : List Int := varL 9 n
theorem varN_byt (n : Int) : Byt (varN n) := varL_byt 9 n
theorem varN_len (n : Int) : 0 < (varN n).length ∧ (varN n).length ≤ 10 := varL_len 9 n

theorem B_drop (s : ByteArray) (i : Nat) (h : i < s.size) : (B s).drop i = bt s i :: (B s).drop (i + 1) := by
  have hl : i < (B s).length := by rw [B_len]; exact h
  rw [List.drop_eq_getElem_cons hl]
  have h1 := B_bt s i h
  rw [List.getElem?_eq_getElem hl] at h1
  rw [Option.some.inj h1]
theorem B_dropAll (s : ByteArray) (i : Nat) (h : s.size ≤ i) : (B s).drop i = [] := List.drop_eq_nil_of_le (by rw [B_len]; exact h)
theorem ev_ite {α : Type} {c : Prop} [Decidable c] {g f : Nat → Option α} {r : α} (h : c → Ev g r) (k : ¬ c → Ev f r) : Ev (fun n => if c then g n else f n) r := by
  by_cases hc : c
  · exact Ev.congr (fun n => by rw [if_pos hc]) (h hc)
  · exact Ev.congr (fun n => by rw [if_neg hc]) (k hc)
theorem ev_pos {α : Type} {c : Prop} [Decidable c] {g f : Nat → Option α} {r : α} (hc : c) (h : Ev g r) : Ev (fun n => if c then g n else f n) r := Ev.congr (fun n => by rw [if_pos hc]) h
theorem ev_neg {α : Type} {c : Prop} [Decidable c] {g f : Nat → Option α} {r : α} (hc : ¬ c) (h : Ev f r) : Ev (fun n => if c then g n else f n) r := Ev.congr (fun n => by rw [if_neg hc]) h
theorem ev_some {α : Type} {x r : α} (h : x = r) : Ev (fun _ => some x) r := by rw [h]; exact Ev.now _
theorem ev_succ {α : Type} {g : Nat → Option α} {r : α} (h : Ev (fun k => g (k + 1)) r) : Ev g r := Ev.step (fun _ => rfl) h
theorem ev_to {α : Type} {g : Nat → Option α} {r r' : α} (h : Ev g r) (e : r = r') : Ev g r' := e ▸ h

def valL : List Int → Int
  | [] => 0
  | b :: bs => b % 128 + 128 * valL bs
theorem valL_bd (bs : List Int) : 0 ≤ valL bs ∧ valL bs < 128 ^ bs.length := by
  induction bs with
  | nil => simp [valL]
  | cons b bs ih =>
    simp only [valL, List.length_cons, Int.pow_succ]
    omega
theorem valL_snoc (bs : List Int) (b : Int) : valL (bs ++ [b]) = valL bs + b % 128 * 128 ^ bs.length := by
  induction bs with
  | nil => simp [valL]
  | cons c bs ih =>
    simp only [List.cons_append, valL, ih, List.length_cons, Int.pow_succ]
    generalize (128 : Int) ^ bs.length = p
    generalize b % 128 = q
    have e : q * (p * 128) = 128 * (q * p) := by rw [← Int.mul_assoc, Int.mul_comm]
    omega
theorem pw_bd (j : Nat) (h : j ≤ 5) : 1 ≤ (128 : Int) ^ j ∧ (128 : Int) ^ j ≤ 34359738368 := by
  have h' : ∀ n : Fin 6, 1 ≤ (128 : Int) ^ n.val ∧ (128 : Int) ^ n.val ≤ 34359738368 := by decide
  exact h' ⟨j, by omega⟩
/-- A number is told by its bytes alone, the last of them not 0 behind others. -/
theorem varL_val (pre : List Int) : ∀ (d : Nat) (b : Int), (∀ x ∈ pre, 128 ≤ x ∧ x < 256) → 0 ≤ b → b < 128 → pre.length ≤ d →
    (varL d (valL (pre ++ [b])) = pre ++ [b] ↔ ¬ (b = 0 ∧ pre ≠ [])) := by
  induction pre with
  | nil =>
    intro d b _ h0 h1 _
    have hb : b % 128 = b := by omega
    simp only [List.nil_append, valL, hb]
    constructor
    · intro _ h; exact h.2 rfl
    · intro _
      cases d with
      | zero => simp only [varL]; congr 1; omega
      | succ d => simp only [varL]; rw [if_neg (by omega)]; congr 1; omega
  | cons c pre ih =>
    intro d b hp h0 h1 hl
    obtain ⟨d, rfl⟩ : ∃ m, d = m + 1 := ⟨d - 1, by simp only [List.length_cons] at hl; omega⟩
    have hc := hp c List.mem_cons_self
    have hi := ih d b (fun x hx => hp x (List.mem_cons_of_mem _ hx)) h0 h1 (by simp only [List.length_cons] at hl; omega)
    have hv := valL_bd (pre ++ [b])
    simp only [List.cons_append, valL]
    generalize hq : valL (pre ++ [b]) = q at hi hv ⊢
    simp only [varL]
    by_cases hq0 : q = 0
    · have hb0 : b = 0 := by
        rw [valL_snoc] at hq
        have h2 := valL_bd pre
        have h3 : 0 < (128 : Int) ^ pre.length := Int.pow_pos (by decide)
        have h4 : 0 ≤ b % 128 * 128 ^ pre.length := Int.mul_nonneg (by omega) (Int.le_of_lt h3)
        have h5 : b % 128 * 128 ^ pre.length = 0 := by omega
        rcases Int.mul_eq_zero.1 h5 with h6 | h6
        · omega
        · omega
      rw [if_neg (by omega)]
      constructor
      · intro h
        have := congrArg List.length h
        simp at this
      · intro h
        exact absurd ⟨hb0, by simp⟩ h
    · rw [if_pos (by omega), show (c % 128 + 128 * q) % 128 + 128 = c by omega, show (c % 128 + 128 * q) / 128 = q by omega, List.cons.injEq]
      constructor
      · rintro ⟨_, h⟩ ⟨hb0, _⟩
        have h2 := hi.1 h
        by_cases hpn : pre = []
        · subst hpn
          simp only [List.nil_append, valL, hb0] at hq
          omega
        · exact h2 ⟨hb0, hpn⟩
      · intro h
        exact ⟨rfl, hi.2 (fun h2 => h ⟨h2.1, by simp⟩)⟩
/-- Reading a number: what is read is n, the place i. -/
def rvM (a : Nat) : Nat → List Int → Int → Int → Nat → Int × Int × Bool
  | 0, _, _, _, _ => (0, 0, false)
  | _ + 1, [], _, _, _ => (0, 0, false)
  | f + 1, b :: bs, n, u, i => if b < 128 then (if (b = 0 ∧ a < i) ∨ n + b % 128 * u > 1000000000 then (0, 0, false) else (n + b % 128 * u, (i : Int) + 1, true)) else rvM a f bs (n + b % 128 * u) (u * 128) (i + 1)
def rvB (s : ByteArray) (a : Nat) : Int × Int × Bool := rvM a 5 ((B s).drop a) 0 1 a
/-- What was read till place i. -/
def preB (s : ByteArray) (a i : Nat) : List Int := ((B s).take i).drop a
theorem preB_nil (s : ByteArray) (a : Nat) : preB s a a = [] := List.drop_eq_nil_of_le (by rw [List.length_take]; omega)
theorem preB_len (s : ByteArray) (a i : Nat) (hi : i ≤ s.size) : (preB s a i).length = i - a := by
  simp only [preB, List.length_drop, List.length_take, B_len]; omega
theorem preB_snoc (s : ByteArray) (a i : Nat) (ha : a ≤ i) (hi : i < s.size) : preB s a (i + 1) = preB s a i ++ [bt s i] := by
  have hl : i < (B s).length := by rw [B_len]; exact hi
  have h1 := B_bt s i hi
  rw [List.getElem?_eq_getElem hl] at h1
  unfold preB
  rw [List.take_succ_eq_append_getElem hl, List.drop_append_of_le_length (by rw [List.length_take]; omega), Option.some.inj h1]

theorem rvM_ok (a : Nat) (f : Nat) : ∀ (L : List Int) (n u : Int) (i : Nat) (m j : Int), 0 ≤ n → 0 ≤ u → rvM a f L n u i = (m, j, true) → 0 ≤ m ∧ m ≤ 1000000000 ∧ (i : Int) < j ∧ j ≤ i + L.length := by
  induction f with
  | zero => intro L n u i m j _ _ h; simp [rvM] at h
  | succ f ih =>
    intro L n u i m j hn hu h
    cases L with
    | nil => simp [rvM] at h
    | cons b bs =>
      have hp : 0 ≤ b % 128 * u := Int.mul_nonneg (by omega) hu
      rw [rvM] at h
      by_cases hb : b < 128
      · rw [if_pos hb] at h
        split at h
        · simp at h
        · rename_i hc
          simp only [Prod.mk.injEq, and_true] at h
          simp only [List.length_cons]
          omega
      · rw [if_neg hb] at h
        have := ih bs (n + b % 128 * u) (u * 128) (i + 1) m j (by omega) (by omega) h
        simp only [List.length_cons]
        omega
theorem rvB_ok (s : ByteArray) (a : Nat) (ha : a ≤ s.size) {m j : Int} (h : rvB s a = (m, j, true)) : 0 ≤ m ∧ m ≤ 1000000000 ∧ (a : Int) < j ∧ j ≤ s.size := by
  have := rvM_ok a 5 _ 0 1 a m j (by omega) (by omega) h
  rw [List.length_drop, B_len] at this
  omega

/-- What a number was read from is its bytes. -/
theorem rvM_enc (a : Nat) : ∀ (f : Nat) (L : List Int) (n u : Int) (i : Nat) (m j : Int) (pre : List Int), Byt L → (∀ x ∈ pre, 128 ≤ x ∧ x < 256) → pre.length + f = 5 → i = a + pre.length → n = valL pre → u = 128 ^ pre.length → rvM a f L n u i = (m, j, true) →
    ∃ p rest, L = p ++ rest ∧ j = (i : Int) + p.length ∧ varN m = pre ++ p
  | 0, L, n, u, i, m, j, pre, _, _, _, _, _, _, h => by simp [rvM] at h
  | f + 1, [], n, u, i, m, j, pre, _, _, _, _, _, _, h => by simp [rvM] at h
  | f + 1, b :: bs, n, u, i, m, j, pre, hL, hp, hl, hi, hn, hu, h => by
    have hb := hL b List.mem_cons_self
    rw [rvM] at h
    by_cases hb1 : b < 128
    · rw [if_pos hb1] at h
      split at h
      · simp at h
      · rename_i hc
        simp only [Prod.mk.injEq, and_true] at h
        have hval : valL (pre ++ [b]) = n + b % 128 * u := by rw [valL_snoc, ← hn, ← hu]
        refine ⟨[b], bs, rfl, by rw [← h.2]; simp, ?_⟩
        rw [← h.1, ← hval]
        refine (varL_val pre 9 b hp (by omega) hb1 (by omega)).2 (fun h2 => hc (Or.inl ⟨h2.1, ?_⟩))
        have : 0 < pre.length := List.length_pos_iff.mpr h2.2
        omega
    · rw [if_neg hb1] at h
      obtain ⟨p, rest, e1, e2, e3⟩ := rvM_enc a f bs _ _ (i + 1) m j (pre ++ [b]) (fun x hx => hL x (List.mem_cons_of_mem _ hx)) (by
        intro x hx
        rcases List.mem_append.1 hx with hx | hx
        · exact hp x hx
        · simp only [List.mem_singleton] at hx; omega) (by simp; omega) (by simp; omega) (by rw [valL_snoc, ← hn, ← hu]) (by rw [hu, List.length_append, List.length_singleton, Int.pow_succ]) h
      refine ⟨b :: p, rest, by rw [e1]; rfl, by rw [e2]; simp; omega, by rw [e3]; simp⟩
theorem rvB_enc (s : ByteArray) (a : Nat) (ha : a ≤ s.size) {m j : Int} (h : rvB s a = (m, j, true)) : (B s).take j.toNat = (B s).take a ++ varN m ∧ j = (a : Int) + (varN m).length := by
  obtain ⟨p, rest, e1, e2, e3⟩ := rvM_enc a 5 ((B s).drop a) 0 1 a m j [] (fun x hx => B_byt s x (List.mem_of_mem_drop hx)) (by intro x hx; cases hx) rfl rfl rfl rfl h
  rw [List.nil_append] at e3
  have hj : j.toNat = a + p.length := by omega
  refine ⟨?_, by rw [e3]; exact e2⟩
  rw [hj, List.take_add, e1, e3]
  simp

theorem spec_l01In_eq (a b c : Int) : spec_l01In.f a b c = some (decide (b ≤ a ∧ a ≤ c)) := by
  unfold spec_l01In.f
  by_cases h : a ≥ b
  · rw [if_pos h]; congr 1; simp; omega
  · rw [if_neg h]; congr 1; simp; omega

theorem spec_l01Var_l0_ev (d : Nat) : ∀ (n : Int) (acc : List Int), 0 ≤ n → n ≤ 9223372036854775807 → n < 128 ^ (d + 1) → acc.length + d < 1000 →
    Ev (fun k => spec_l01Var.l0 k n acc) (strOfNums (acc ++ varL d n)) := by
  induction d with
  | zero =>
    intro n acc h0 hm h1 hl
    refine Ev.step (f := fun _ => some (strOfNums (acc ++ varL 0 n))) (fun k => ?_) (Ev.now _)
    simp only [spec_l01Var.l0, varL]
    rw [if_neg (by omega), if_pos (by omega)]
  | succ d ih =>
    intro n acc h0 hm h1 hl
    by_cases hn : n > 127
    · have hi := ih (n / 128) (acc ++ [n % 128 + 128]) (by omega) (by omega) (by rw [Int.pow_succ] at h1; omega) (by simp only [List.length_append, List.length_cons, List.length_nil]; omega)
      rw [List.append_assoc, List.singleton_append] at hi
      rw [varL, if_pos hn]
      refine Ev.step (fun k => ?_) hi
      simp only [spec_l01Var.l0]
      rw [if_pos hn, if_pos (by omega), tdivp h0, tmodp h0, w64 (by omega) (by omega), w64 (by omega) (by omega), show (n % 128 + 128) % 256 = n % 128 + 128 by omega]
    · rw [varL, if_neg hn]
      refine Ev.step (f := fun _ => some (strOfNums (acc ++ [n % 256]))) (fun k => ?_) (Ev.now _)
      simp only [spec_l01Var.l0]
      rw [if_neg hn, if_pos (by omega)]
theorem spec_l01Var_ev (n : Int) (h0 : 0 ≤ n) (h1 : n ≤ 9223372036854775807) : Ev (fun k => spec_l01Var.f k n) (strOfNums (varN n)) :=
  spec_l01Var_l0_ev 9 n [] h0 h1 (by omega) (by simp)

theorem spec_ReadVar_l0_ev (s : ByteArray) (hs : s.size ≤ 9223372036854775000) (a : Nat) (f : Nat) : ∀ i : Nat, a ≤ i → i - a + f = 5 → i ≤ s.size → (∀ x ∈ preB s a i, 128 ≤ x ∧ x < 256) →
    Ev (fun k => spec_ReadVar.l0 k s a (valL (preB s a i)) (128 ^ (i - a)) i) (rvM a f ((B s).drop i) (valL (preB s a i)) (128 ^ (i - a)) i) := by
  have fail : ∀ (i : Nat) (n u : Int), Ev (fun k => spec_ReadVar.j1 k s a n u i false) (0, 0, false) := by
    intro i n u
    refine Ev.step (f := fun _ => some (0, 0, false)) (fun k => ?_) (Ev.now _)
    simp only [spec_ReadVar.j1]
    rfl
  induction f with
  | zero =>
    intro i ha hf hi _
    rw [rvM]
    refine Ev.step (fun k => ?_) (fail i (valL (preB s a i)) (128 ^ (i - a)))
    simp only [spec_ReadVar.l0]
    by_cases hlt : (i : Int) < s.size
    · rw [if_pos hlt, w64 (by omega) (by omega), decide_eq_false (by omega)]
    · rw [if_neg hlt]
  | succ f ih =>
    intro i ha hf hi hpre
    by_cases hlt : i < s.size
    · have hsn := preB_snoc s a i ha hlt
      have hv := valL_snoc (preB s a i) (bt s i)
      have hlen := preB_len s a i hi
      rw [hlen, ← hsn] at hv
      have hb0 := valL_bd (preB s a i)
      have hb1 := valL_bd (preB s a (i + 1))
      have hl1 := preB_len s a (i + 1) hlt
      have hp0 := pw_bd (i - a) (by omega)
      have hp1 := pw_bd (i + 1 - a) (by omega)
      rw [hlen] at hb0
      rw [hl1] at hb1
      have hbt := bt_b s i
      have hpw : (128 : Int) ^ (i - a) * 128 = 128 ^ (i + 1 - a) := by rw [show i + 1 - a = (i - a) + 1 by omega, Int.pow_succ]
      rw [B_drop s i hlt, rvM]
      have hprod0 : 0 ≤ bt s i % 128 * 128 ^ (i - a) := Int.mul_nonneg (by omega) (by omega)
      have hw1 : wrap64 (bt s i % 128 * 128 ^ (i - a)) = bt s i % 128 * 128 ^ (i - a) := w64 (by omega) (by omega)
      have hw2 : wrap64 (valL (preB s a i) + bt s i % 128 * 128 ^ (i - a)) = valL (preB s a (i + 1)) := by rw [← hv]; exact w64 (by omega) (by omega)
      have hstep : ∀ r, Ev (fun k => spec_ReadVar.j1 k s a (valL (preB s a i)) (128 ^ (i - a)) i true) r → Ev (fun k => spec_ReadVar.l0 k s a (valL (preB s a i)) (128 ^ (i - a)) i) r := by
        intro r h
        refine Ev.step (fun k => ?_) h
        simp only [spec_ReadVar.l0]
        rw [if_pos (by omega), w64 (by omega) (by omega), decide_eq_true (by omega)]
      apply hstep
      rw [← hv]
      by_cases hsm : bt s i < 128
      · rw [if_pos hsm]
        have hiff := varL_val (preB s a i) 9 (bt s i) hpre hbt.1 hsm (by omega)
        rw [← hsn] at hiff
        have hne : preB s a i ≠ [] ↔ a < i := by rw [ne_eq, ← List.length_eq_zero_iff, hlen]; omega
        by_cases hmx : valL (preB s a (i + 1)) > 1000000000
        · rw [if_pos (.inr hmx)]
          refine Ev.step (f := fun _ => some (0, 0, false)) (fun k => ?_) (Ev.now _)
          simp only [spec_ReadVar.j1]
          rw [if_pos trivial, if_pos (by omega), if_pos (by omega), if_pos hsm, wbt, tmodp hbt.1, hw1, hw2, if_pos hmx]
        · have htx : (strOfNums (varN (valL (preB s a (i + 1))))).toList = (s.extract a (i + 1)).toList ↔ ¬ (bt s i = 0 ∧ a < i) := by
            rw [tl_iff, B_str _ (varN_byt _), B_extract]
            show varL 9 (valL (preB s a (i + 1))) = preB s a (i + 1) ↔ _
            rw [hiff, hne]
          have hb := Ev.bind (spec_l01Var_ev (valL (preB s a (i + 1))) hb1.1 (by omega))
            (f := fun _ t => if t.toList = (s.extract a (i + 1)).toList then some (valL (preB s a (i + 1)), (i : Int) + 1, true) else some (0, 0, false))
            (r := if bt s i = 0 ∧ a < i ∨ valL (preB s a (i + 1)) > 1000000000 then (0, 0, false) else (valL (preB s a (i + 1)), (i : Int) + 1, true))
            (by
              by_cases hz : bt s i = 0 ∧ a < i
              · have e : (if bt s i = 0 ∧ a < i ∨ valL (preB s a (i + 1)) > 1000000000 then ((0 : Int), (0 : Int), false) else (valL (preB s a (i + 1)), (i : Int) + 1, true)) = (0, 0, false) := if_pos (.inl hz)
                rw [e]
                exact ev_neg (fun h => (htx.1 h) hz) (Ev.now _)
              · have e : (if bt s i = 0 ∧ a < i ∨ valL (preB s a (i + 1)) > 1000000000 then ((0 : Int), (0 : Int), false) else (valL (preB s a (i + 1)), (i : Int) + 1, true)) = (valL (preB s a (i + 1)), (i : Int) + 1, true) := if_neg (fun h => h.elim hz hmx)
                rw [e]
                exact ev_pos (htx.2 hz) (Ev.now _))
          refine Ev.step (fun k => ?_) hb
          simp only [spec_ReadVar.j1]
          rw [if_pos trivial, if_pos (by omega), if_pos (by omega), if_pos hsm, wbt, tmodp hbt.1, hw1, hw2, if_neg hmx, w64 (x := (i : Int) + 1) (by omega) (by omega)]
          congr 1
          funext t
          rw [if_pos (by omega), if_pos (by omega), if_pos (by omega)]
          rfl
      · have ih' := ih (i + 1) (by omega) (by omega) (by omega) (by
          intro x hx
          rw [hsn] at hx
          rcases List.mem_append.1 hx with hx | hx
          · exact hpre x hx
          · rw [List.mem_singleton.1 hx]; omega)
        rw [if_neg hsm, hpw]
        refine Ev.step (fun k => ?_) ih'
        simp only [spec_ReadVar.j1]
        rw [if_pos trivial, if_pos (by omega), if_pos (by omega), if_neg hsm, wbt, tmodp hbt.1, hw1, hw2, hpw, w64 (x := 128 ^ (i + 1 - a)) (by omega) (by omega), w64 (x := (i : Int) + 1) (by omega) (by omega)]
        rfl
    · rw [B_dropAll s i (by omega), rvM]
      refine Ev.step (fun k => ?_) (fail i (valL (preB s a i)) (128 ^ (i - a)))
      simp only [spec_ReadVar.l0]
      rw [if_neg (by omega)]
theorem spec_ReadVar_yes (s : ByteArray) (hs : s.size ≤ 9223372036854775000) (a : Nat) (ha : a ≤ s.size) : Ev (fun k => spec_ReadVar.f k s a) (rvB s a) := by
  have h := spec_ReadVar_l0_ev s hs a 5 a (Nat.le_refl _) (by omega) ha (by rw [preB_nil]; simp)
  rw [preB_nil, Nat.sub_self] at h
  refine Ev.congr (fun k => ?_) h
  simp only [spec_ReadVar.f, spec_l01In_eq, Option.bind_some]
  rw [if_pos (by simp; omega)]
  rfl
theorem impl_in_eq (a b c : Int) : impl_in.f a b c = some (decide (b ≤ a ∧ a ≤ c)) := by
  unfold impl_in.f
  by_cases h : a ≥ b
  · rw [if_pos h]; congr 1; simp; omega
  · rw [if_neg h]; congr 1; simp; omega

theorem impl_ReadVar_l0_ev (s : ByteArray) (hs : s.size ≤ 9223372036854775000) (a : Nat) (f : Nat) : ∀ i : Nat, a ≤ i → i - a + f = 5 → i ≤ s.size →
    Ev (fun k => impl_ReadVar.l0 k s a (valL (preB s a i)) (128 ^ (i - a)) i) (rvM a f ((B s).drop i) (valL (preB s a i)) (128 ^ (i - a)) i) := by
  have fail : ∀ (i : Nat) (n u : Int), Ev (fun k => impl_ReadVar.j1 k s a n u i false) (0, 0, false) := by
    intro i n u
    refine Ev.step (f := fun _ => some (0, 0, false)) (fun k => ?_) (Ev.now _)
    simp only [impl_ReadVar.j1]
    rfl
  induction f with
  | zero =>
    intro i ha hf hi
    rw [rvM]
    refine Ev.step (fun k => ?_) (fail i (valL (preB s a i)) (128 ^ (i - a)))
    simp only [impl_ReadVar.l0]
    by_cases hlt : (i : Int) < s.size
    · rw [if_pos hlt, w64 (by omega) (by omega), decide_eq_false (by omega)]
    · rw [if_neg hlt]
  | succ f ih =>
    intro i ha hf hi
    by_cases hlt : i < s.size
    · have hsn := preB_snoc s a i ha hlt
      have hv := valL_snoc (preB s a i) (bt s i)
      have hlen := preB_len s a i hi
      rw [hlen, ← hsn] at hv
      have hb0 := valL_bd (preB s a i)
      have hb1 := valL_bd (preB s a (i + 1))
      have hl1 := preB_len s a (i + 1) hlt
      have hp0 := pw_bd (i - a) (by omega)
      have hp1 := pw_bd (i + 1 - a) (by omega)
      rw [hlen] at hb0
      rw [hl1] at hb1
      have hbt := bt_b s i
      have hpw : (128 : Int) ^ (i - a) * 128 = 128 ^ (i + 1 - a) := by rw [show i + 1 - a = (i - a) + 1 by omega, Int.pow_succ]
      have ih' := ih (i + 1) (by omega) (by omega) (by omega)
      rw [B_drop s i hlt, rvM]
      have hprod0 : 0 ≤ bt s i % 128 * 128 ^ (i - a) := Int.mul_nonneg (by omega) (by omega)
      have hw1 : wrap64 (bt s i % 128 * 128 ^ (i - a)) = bt s i % 128 * 128 ^ (i - a) := w64 (by omega) (by omega)
      have hw2 : wrap64 (valL (preB s a i) + bt s i % 128 * 128 ^ (i - a)) = valL (preB s a (i + 1)) := by rw [← hv]; exact w64 (by omega) (by omega)
      have hstep : ∀ r, Ev (fun k => impl_ReadVar.j1 k s a (valL (preB s a i)) (128 ^ (i - a)) i true) r → Ev (fun k => impl_ReadVar.l0 k s a (valL (preB s a i)) (128 ^ (i - a)) i) r := by
        intro r h
        refine Ev.step (fun k => ?_) h
        simp only [impl_ReadVar.l0]
        rw [if_pos (by omega), w64 (by omega) (by omega), decide_eq_true (by omega)]
      apply hstep
      rw [← hv]
      by_cases hsm : bt s i < 128
      · rw [if_pos hsm]
        refine Ev.step (f := fun _ => some (if bt s i = 0 ∧ a < i ∨ valL (preB s a (i + 1)) > 1000000000 then (0, 0, false) else (valL (preB s a (i + 1)), (i : Int) + 1, true))) (fun k => ?_) (Ev.now _)
        simp only [impl_ReadVar.j1]
        rw [if_pos trivial, if_pos (by omega), if_pos (by omega), wbt, if_pos hsm, tmodp hbt.1, hw1, hw2, w64 (x := (i : Int) + 1) (by omega) (by omega)]
        by_cases hz : bt s i = 0
        · rw [if_pos hz]
          by_cases hai : a < i
          · rw [if_pos (by omega), if_pos (.inl ⟨hz, hai⟩)]
          · rw [if_neg (by omega)]
            by_cases hmx : valL (preB s a (i + 1)) > 1000000000
            · rw [if_pos hmx, if_pos (.inr hmx)]
            · rw [if_neg hmx, if_neg (by omega)]
        · rw [if_neg hz]
          by_cases hmx : valL (preB s a (i + 1)) > 1000000000
          · rw [if_pos hmx, if_pos (.inr hmx)]
          · rw [if_neg hmx, if_neg (by omega)]
      · rw [if_neg hsm, hpw]
        refine Ev.step (fun k => ?_) ih'
        simp only [impl_ReadVar.j1]
        rw [if_pos trivial, if_pos (by omega), if_pos (by omega), wbt, if_neg hsm, tmodp hbt.1, hw1, hw2, hpw, w64 (x := 128 ^ (i + 1 - a)) (by omega) (by omega), w64 (x := (i : Int) + 1) (by omega) (by omega)]
        rfl
    · rw [B_dropAll s i (by omega), rvM]
      refine Ev.step (fun k => ?_) (fail i (valL (preB s a i)) (128 ^ (i - a)))
      simp only [impl_ReadVar.l0]
      rw [if_neg (by omega)]
theorem impl_ReadVar_yes (s : ByteArray) (hs : s.size ≤ 9223372036854775000) (a : Nat) (ha : a ≤ s.size) : Ev (fun k => impl_ReadVar.f k s a) (rvB s a) := by
  have h := impl_ReadVar_l0_ev s hs a 5 a (Nat.le_refl _) (by omega) ha
  rw [preB_nil, Nat.sub_self] at h
  refine Ev.congr (fun k => ?_) h
  simp only [impl_ReadVar.f, impl_in_eq, Option.bind_some]
  rw [if_pos (by simp; omega)]
  rfl
theorem set_mid {α : Type} (p : List α) (x y : α) (r : List α) (i : Nat) (h : p.length = i) : (p ++ x :: r).set i y = p ++ y :: r := by
  subst h
  simp
theorem drop_at {α : Type} (l : List α) (z : α) (i : Nat) (h : i < l.length) : l.drop i = l.getD i z :: l.drop (i + 1) := by
  rw [List.drop_eq_getElem_cons h, List.getD_eq_getElem?_getD, List.getElem?_eq_getElem h]
  rfl
/-- What is near ascends, and is right; the one before, if there is one. -/
def nearGo (ow : Int) : Option Int → List S63 → Bool
  | _, [] => true
  | p, x :: xs => decide (1 ≤ x.f0 ∧ x.f0 ≤ 6) && !decide (x.f0 = ow) && decide (1 ≤ x.f1 ∧ x.f1 ≤ 1000) && p.all (fun y => decide (y < x.f0)) && nearGo ow (some x.f0) xs
def nearB (ow : Int) (l : List S63) : Bool := nearGo ow none l
def pvN (l : List S63) (i : Nat) : Option Int := if i = 0 then none else some (l.getD (i - 1) z63).f0
theorem pvN_succ (l : List S63) (i : Nat) : pvN l (i + 1) = some (l.getD i z63).f0 := by simp [pvN]
theorem rdNp (l : List S63) (i : Nat) (h : 0 < i) (hl : i < 9223372036854775807) : rd_T63 l (wrap64 ((i : Int) - 1)) = l.getD (i - 1) z63 := by
  rw [w64 (by omega) (by omega), show (i : Int) - 1 = ((i - 1 : Nat) : Int) by omega]
  rfl

/-- Is what a record holds right for its kind? -/
def recK (ar ki ow ke : Int) (l : List S63) (co : Int) (fa : Bool) : Bool :=
  if ki = 1 then decide (0 ≤ ar ∧ ar ≤ 2) && decide (ke = 0) && nearB ow l && decide (co = 0) && !fa
  else if ki = 2 then decide (0 ≤ ar ∧ ar ≤ 2) && decide (1 ≤ ke ∧ ke ≤ 6) && decide (l.length = 0) && decide (0 ≤ co ∧ co ≤ 60000) && !fa
  else if ki = 3 then decide (ar = 9) && decide (1 ≤ ke ∧ ke ≤ 9) && decide (l.length = 0) && (decide (1 ≤ co ∧ co ≤ 1000) || (co == 60000))
  else false
def recB (ar ki ow ke se : Int) (l : List S63) (co : Int) (fa : Bool) : Bool := decide (1 ≤ ow ∧ ow ≤ 6) && decide (1 ≤ se ∧ se ≤ 100000) && recK ar ki ow ke l co fa

theorem str_app (xs ys : List Int) : strOfNums xs ++ strOfNums ys = strOfNums (xs ++ ys) := by
  apply Go.WideShapes.bytes_inj
  simp [strOfNums, ByteArray.data_append]
theorem nearGo_all (ow : Int) (l : List S63) : ∀ p, nearGo ow p l = true → ∀ x ∈ l, 1 ≤ x.f0 ∧ x.f0 ≤ 6 ∧ 1 ≤ x.f1 ∧ x.f1 ≤ 1000 := by
  induction l with
  | nil => intro p _ x hx; simp at hx
  | cons y l ih =>
    intro p h x hx
    rw [nearGo] at h
    simp only [Bool.and_eq_true, decide_eq_true_eq] at h
    rcases List.mem_cons.1 hx with rfl | hx
    · omega
    · exact ih _ h.2 x hx
theorem recB_facts {ar ki ow ke se : Int} {l : List S63} {co : Int} {fa : Bool} (h : recB ar ki ow ke se l co fa = true) :
    1 ≤ ow ∧ ow ≤ 6 ∧ 1 ≤ se ∧ se ≤ 100000 ∧ 0 ≤ ar ∧ ar ≤ 9 ∧ 1 ≤ ki ∧ ki ≤ 3 ∧ 0 ≤ ke ∧ ke ≤ 9 ∧ 0 ≤ co ∧ co ≤ 60000 ∧ (nearB ow l = true ∨ l = []) := by
  unfold recB recK at h
  simp only [Bool.and_eq_true, decide_eq_true_eq] at h
  obtain ⟨⟨h1, h2⟩, h3⟩ := h
  split at h3
  · simp only [Bool.and_eq_true, decide_eq_true_eq] at h3
    exact ⟨by omega, by omega, by omega, by omega, by omega, by omega, by omega, by omega, by omega, by omega, by omega, by omega, .inl h3.1.1.2⟩
  · split at h3
    · simp only [Bool.and_eq_true, decide_eq_true_eq] at h3
      exact ⟨by omega, by omega, by omega, by omega, by omega, by omega, by omega, by omega, by omega, by omega, by omega, by omega, .inr (List.eq_nil_of_length_eq_zero h3.1.1.2)⟩
    · split at h3
      · simp only [Bool.and_eq_true, Bool.or_eq_true, decide_eq_true_eq, beq_iff_eq] at h3
        exact ⟨by omega, by omega, by omega, by omega, by omega, by omega, by omega, by omega, by omega, by omega, by omega, by omega, .inr (List.eq_nil_of_length_eq_zero h3.1.2)⟩
      · cases h3
theorem recB_near {ar ki ow ke se : Int} {l : List S63} {co : Int} {fa : Bool} (h : recB ar ki ow ke se l co fa = true) : ∀ x ∈ l, 1 ≤ x.f0 ∧ x.f0 ≤ 6 ∧ 1 ≤ x.f1 ∧ x.f1 ≤ 1000 := by
  obtain ⟨_, _, _, _, _, _, _, _, _, _, _, _, h⟩ := recB_facts h
  rcases h with h | rfl
  · exact nearGo_all _ _ _ h
  · intro x hx; simp at hx
def nearT : List S63 → List Int
  | [] => []
  | x :: xs => (x.f0 % 256) :: (varN x.f1 ++ nearT xs)
def farT (b : Bool) : List Int := [if b = true then 1 else 0]
/-- A record in bytes. -/
def recT (ar ki ow ke se : Int) (l : List S63) (co : Int) (fa : Bool) : List Int :=
  [ar % 256, ki % 256, ow % 256, ke % 256] ++ varN se ++ varN (l.length : Int) ++ nearT l ++ varN co ++ farT fa

theorem spec_l04Near_l0_ev (q0 q1 ow q3 q4 q6 : Int) (q7 : Bool) (l : List S63) (hl : l.length ≤ 9223372036854775807) (d : Nat) : ∀ i : Nat, i + d = l.length →
    Ev (fun k => spec_l04Near.l0 k i q0 q1 ow q3 q4 l q6 q7) (nearGo ow (pvN l i) (l.drop i)) := by
  induction d with
  | zero =>
    intro i hi
    rw [List.drop_eq_nil_of_le (by omega)]
    apply ev_succ
    simp only [spec_l04Near.l0]
    exact ev_neg (by omega) (ev_some rfl)
  | succ d ih =>
    intro i hi
    have hr := ih (i + 1) (by omega)
    obtain ⟨x, hx⟩ : ∃ x, rd_T63 l (i : Int) = x := ⟨_, rfl⟩
    have hx2 : l.getD i z63 = x := hx
    rw [pvN_succ, hx2] at hr
    rw [drop_at l z63 i (by omega), hx2]
    apply ev_succ
    simp only [spec_l04Near.l0, spec_l01In_eq, Option.bind_some, decide_eq_true_eq, hx]
    rw [nearGo]
    refine ev_pos (by omega) (ev_pos (by omega) ?_)
    refine ev_ite (fun h1 => ?_) (fun h1 => ev_some (by rw [decide_eq_false h1]; rfl))
    refine ev_ite (fun h2 => ev_some (by rw [decide_eq_true h1, decide_eq_true h2]; rfl)) (fun h2 => ?_)
    refine ev_ite (fun h3 => ?_) (fun h3 => ev_some (by rw [decide_eq_true h1, decide_eq_false h2, decide_eq_false h3]; rfl))
    refine ev_ite (fun h4 => ?_) (fun h4 => ?_)
    · have h0 : 0 < i := by omega
      refine ev_pos (by rw [w64 (by omega) (by omega)]; omega) (ev_pos (by rw [w64 (by omega) (by omega)]; omega) ?_)
      have hp : pvN l i = some (l.getD (i - 1) z63).f0 := by unfold pvN; rw [if_neg (by omega)]
      rw [hp, rdNp l i h0 (by omega)]
      refine ev_ite (fun h5 => ev_some ?_) (fun h5 => ?_)
      · have h6 : ¬ ((l.getD (i - 1) z63).f0 < x.f0) := by omega
        simp only [Option.all_some, decide_eq_false h6, Bool.and_false, Bool.false_and]
      · have h6 : (l.getD (i - 1) z63).f0 < x.f0 := by omega
        rw [w64 (by omega) (by omega)]
        refine ev_to hr ?_
        simp only [Option.all_some, decide_eq_true h6, decide_eq_true h1, decide_eq_false h2, decide_eq_true h3, Bool.true_and, Bool.not_false]
    · have h0 : i = 0 := by omega
      have hp : pvN l i = none := by rw [h0]; rfl
      rw [hp, w64 (by omega) (by omega)]
      refine ev_to hr ?_
      simp only [Option.all_none, decide_eq_true h1, decide_eq_false h2, decide_eq_true h3, Bool.true_and, Bool.not_false]
theorem spec_l04Near_ev (q0 q1 ow q3 q4 q6 : Int) (q7 : Bool) (l : List S63) (hl : l.length ≤ 9223372036854775807) : Ev (fun k => spec_l04Near.f k q0 q1 ow q3 q4 l q6 q7) (nearB ow l) :=
  spec_l04Near_l0_ev q0 q1 ow q3 q4 q6 q7 l hl l.length 0 (by omega)

-- spec_RecordOk
/-! spec_RecordOk -/
theorem spec_RecordOk_ev (ar ki ow ke se : Int) (l : List S63) (co : Int) (fa : Bool) (hl : l.length ≤ 9223372036854775807) : Ev (fun k => spec_RecordOk.f k ar ki ow ke se l co fa) (recB ar ki ow ke se l co fa) := by
  have hj : ∀ b : Bool, Ev (fun k => spec_RecordOk.j0 k b ar ki ow ke se l co fa) (!b && recK ar ki ow ke l co fa) := by
    intro b
    apply ev_succ
    simp only [spec_RecordOk.j0, spec_l01In_eq, Option.bind_some, decide_eq_true_eq]
    refine ev_ite (fun hb => ev_some (by simp [hb])) (fun hb => ?_)
    have hb' : b = false := by simpa using hb
    rw [hb']
    unfold recK
    refine ev_ite (fun h1 => ?_) (fun h1 => ?_)
    · rw [if_pos h1]
      refine ev_ite (fun h2 => ?_) (fun h2 => ev_some (by simp [h2]))
      refine ev_ite (fun h3 => ?_) (fun h3 => ev_some (by simp [h3]))
      refine Ev.bind (spec_l04Near_ev ar ki ow ke se co fa l hl) ?_
      refine ev_ite (fun h4 => ?_) (fun h4 => ev_some (by simp [h4]))
      refine ev_ite (fun h5 => ev_some ?_) (fun h5 => ev_some (by simp [h5]))
      simp [h2, h3, h4, h5]
    · rw [if_neg h1]
      refine ev_ite (fun h1 => ?_) (fun h1 => ?_)
      · rw [if_pos h1]
        refine ev_ite (fun h2 => ?_) (fun h2 => ev_some (by simp [h2]))
        refine ev_ite (fun h3 => ?_) (fun h3 => ev_some (by simp [h3]))
        refine ev_ite (fun h4 => ?_) (fun h4 => ev_some ?_)
        · have h4' : l.length = 0 := by omega
          refine ev_ite (fun h5 => ev_some ?_) (fun h5 => ev_some (by simp [h5]))
          simp [h2, h3, h4', h5]
        · have h4' : ¬ l.length = 0 := by omega
          simp [h4']
      · rw [if_neg h1]
        refine ev_ite (fun h1 => ?_) (fun h1 => ?_)
        · rw [if_pos h1]
          refine ev_ite (fun h2 => ?_) (fun h2 => ev_some (by simp [h2]))
          refine ev_ite (fun h3 => ?_) (fun h3 => ev_some (by simp [h3]))
          refine ev_ite (fun h4 => ?_) (fun h4 => ev_some ?_)
          · have h4' : l.length = 0 := by omega
            refine ev_ite (fun h5 => ev_some ?_) (fun h5 => ev_some ?_)
            · simp [h2, h3, h4', h5]
            · simp [h2, h3, h4', h5]
          · have h4' : ¬ l.length = 0 := by omega
            simp [h4']
        · rw [if_neg h1]
          exact ev_some (by simp)
  unfold spec_RecordOk.f
  simp only [spec_l01In_eq, Option.bind_some, decide_eq_true_eq]
  unfold recB
  refine ev_ite (fun h1 => ?_) (fun h1 => ?_)
  · exact ev_to (hj _) (by simp [h1])
  · exact ev_to (hj _) (by simp [h1])

theorem spec_RecordText_l0_ev (q0 q1 q2 q3 q4 co : Int) (fa : Bool) (l : List S63) (hl : l.length ≤ 1048576) (hn : ∀ x ∈ l, 1 ≤ x.f0 ∧ x.f0 ≤ 6 ∧ 1 ≤ x.f1 ∧ x.f1 ≤ 1000) (hc : 0 ≤ co ∧ co ≤ 60000) (d : Nat) :
    ∀ (i : Nat) (acc : List Int), i + d = l.length → acc.length ≤ 100 + 11 * i →
    Ev (fun k => spec_RecordText.l0 k (strOfNums acc) i q0 q1 q2 q3 q4 l co fa) (strOfNums (acc ++ nearT (l.drop i) ++ varN co ++ farT fa), true) := by
  induction d with
  | zero =>
    intro i acc hi ha
    have hv := varN_len co
    rw [List.drop_eq_nil_of_le (by omega), nearT, List.append_nil]
    apply ev_succ
    simp only [spec_RecordText.l0]
    refine ev_neg (by omega) (Ev.bind (spec_l01Var_ev co hc.1 (by omega)) ?_)
    rw [str_app]
    refine ev_pos (by rw [Go.strOfNums_size, Go.strOfNums_size]; omega) ?_
    have hs : (strOfNums (acc ++ varN co)).size + 1 ≤ 9223372036854775807 := by rw [Go.strOfNums_size, List.length_append]; omega
    cases fa with
    | true => exact ev_pos rfl (ev_pos hs (ev_some (by rw [show (⟨#[1]⟩ : ByteArray) = strOfNums [1] from rfl, str_app]; rfl)))
    | false => exact ev_neg (by simp) (ev_pos hs (ev_some (by rw [show (⟨#[0]⟩ : ByteArray) = strOfNums [0] from rfl, str_app]; rfl)))
  | succ d ih =>
    intro i acc hi ha
    obtain ⟨x, hx⟩ : ∃ x, rd_T63 l (i : Int) = x := ⟨_, rfl⟩
    have hx2 : l.getD i z63 = x := hx
    have hm : x ∈ l := by rw [← hx2, List.getD_eq_getElem?_getD, List.getElem?_eq_getElem (by omega)]; exact List.getElem_mem _
    have hx3 := hn x hm
    have hv := varN_len x.f1
    have hr := ih (i + 1) (acc ++ [x.f0 % 256] ++ varN x.f1) (by omega) (by simp only [List.length_append, List.length_cons, List.length_nil]; omega)
    rw [drop_at l z63 i (by omega), hx2, nearT]
    apply ev_succ
    simp only [spec_RecordText.l0, hx, spec_l04Byte.f, Option.bind_some, str_app]
    rw [w64 (by omega) (by omega)]
    refine ev_pos (by omega) (ev_pos (by omega) (ev_pos (by rw [Go.strOfNums_size, Go.strOfNums_size]; simp only [List.length_cons, List.length_nil]; omega) ?_))
    refine Ev.bind (spec_l01Var_ev x.f1 (by omega) (by omega)) ?_
    refine ev_pos (by rw [Go.strOfNums_size, Go.strOfNums_size, List.length_append]; simp only [List.length_cons, List.length_nil]; omega) ?_
    rw [str_app]
    refine ev_to hr ?_
    congr 2
    simp only [List.append_assoc, List.cons_append, List.nil_append]
theorem spec_RecordText_yes (ar ki ow ke se : Int) (l : List S63) (co : Int) (fa : Bool) (hl : l.length ≤ 1048576) (h : recB ar ki ow ke se l co fa = true) :
    Ev (fun k => spec_RecordText.f k ar ki ow ke se l co fa) (strOfNums (recT ar ki ow ke se l co fa), true) := by
  have hf := recB_facts h
  have hv := varN_len se
  have hw := varN_len (l.length : Int)
  unfold spec_RecordText.f
  refine Ev.bind (spec_RecordOk_ev ar ki ow ke se l co fa (by omega)) ?_
  rw [h]
  simp only [spec_l04Byte.f, Option.bind_some, str_app]
  refine ev_pos trivial ?_
  refine ev_pos (by simp only [Go.strOfNums_size, List.length_cons, List.length_nil, List.length_append]; omega) ?_
  refine ev_pos (by simp only [Go.strOfNums_size, List.length_cons, List.length_nil, List.length_append]; omega) ?_
  refine ev_pos (by simp only [Go.strOfNums_size, List.length_cons, List.length_nil, List.length_append]; omega) ?_
  refine Ev.bind (spec_l01Var_ev se (by omega) (by omega)) ?_
  refine ev_pos (by simp only [Go.strOfNums_size, List.length_cons, List.length_nil, List.length_append]; omega) ?_
  refine Ev.bind (spec_l01Var_ev (l.length : Int) (by omega) (by omega)) ?_
  simp only [str_app]
  refine ev_pos (by simp only [Go.strOfNums_size, List.length_cons, List.length_nil, List.length_append]; omega) ?_
  have hr := spec_RecordText_l0_ev ar ki ow ke se co fa l hl (recB_near h) (by omega) l.length 0 ([ar % 256] ++ [ki % 256] ++ [ow % 256] ++ [ke % 256] ++ varN se ++ varN (l.length : Int)) (by omega) (by simp only [List.length_cons, List.length_nil, List.length_append]; omega)
  exact hr
theorem spec_RecordText_no (ar ki ow ke se : Int) (l : List S63) (co : Int) (fa : Bool) (hl : l.length ≤ 9223372036854775807) (h : ¬ recB ar ki ow ke se l co fa = true) :
    Ev (fun k => spec_RecordText.f k ar ki ow ke se l co fa) (⟨#[]⟩, false) := by
  unfold spec_RecordText.f
  exact Ev.bind (spec_RecordOk_ev ar ki ow ke se l co fa hl) (ev_neg h (Ev.now _))

theorem impl_nearOk_l0_ev (q0 q1 ow q3 q4 q6 : Int) (q7 : Bool) (l : List S63) (hl : l.length ≤ 9223372036854775807) (d : Nat) : ∀ i : Nat, i + d = l.length →
    Ev (fun k => impl_nearOk.l0 k l (l.length : Int) i q0 q1 ow q3 q4 l q6 q7) (nearGo ow (pvN l i) (l.drop i)) := by
  induction d with
  | zero =>
    intro i hi
    rw [List.drop_eq_nil_of_le (by omega)]
    apply ev_succ
    simp only [impl_nearOk.l0]
    exact ev_neg (by omega) (ev_some rfl)
  | succ d ih =>
    intro i hi
    have hr := ih (i + 1) (by omega)
    obtain ⟨x, hx⟩ : ∃ x, rd_T63 l (i : Int) = x := ⟨_, rfl⟩
    have hx2 : l.getD i z63 = x := hx
    rw [pvN_succ, hx2] at hr
    rw [drop_at l z63 i (by omega), hx2]
    apply ev_succ
    simp only [impl_nearOk.l0, impl_in_eq, Option.bind_some, decide_eq_true_eq, hx]
    rw [nearGo]
    refine ev_pos (by omega) (ev_pos (by omega) (ev_pos (by omega) ?_))
    refine ev_ite (fun h1 => ?_) (fun h1 => ev_some (by rw [decide_eq_false h1]; rfl))
    refine ev_ite (fun h2 => ev_some (by rw [decide_eq_true h1, decide_eq_true h2]; rfl)) (fun h2 => ?_)
    refine ev_ite (fun h3 => ?_) (fun h3 => ev_some (by rw [decide_eq_true h1, decide_eq_false h2, decide_eq_false h3]; rfl))
    refine ev_ite (fun h4 => ?_) (fun h4 => ?_)
    · have h0 : 0 < i := by omega
      refine ev_pos (by rw [w64 (by omega) (by omega)]; omega) (ev_pos (by rw [w64 (by omega) (by omega)]; omega) ?_)
      have hp : pvN l i = some (l.getD (i - 1) z63).f0 := by unfold pvN; rw [if_neg (by omega)]
      rw [hp, rdNp l i h0 (by omega)]
      refine ev_ite (fun h5 => ev_some ?_) (fun h5 => ?_)
      · have h6 : ¬ ((l.getD (i - 1) z63).f0 < x.f0) := by omega
        simp only [Option.all_some, decide_eq_false h6, Bool.and_false, Bool.false_and]
      · have h6 : (l.getD (i - 1) z63).f0 < x.f0 := by omega
        rw [w64 (by omega) (by omega)]
        refine ev_to hr ?_
        simp only [Option.all_some, decide_eq_true h6, decide_eq_true h1, decide_eq_false h2, decide_eq_true h3, Bool.true_and, Bool.not_false]
    · have h0 : i = 0 := by omega
      have hp : pvN l i = none := by rw [h0]; rfl
      rw [hp, w64 (by omega) (by omega)]
      refine ev_to hr ?_
      simp only [Option.all_none, decide_eq_true h1, decide_eq_false h2, decide_eq_true h3, Bool.true_and, Bool.not_false]
theorem impl_nearOk_ev (q0 q1 ow q3 q4 q6 : Int) (q7 : Bool) (l : List S63) (hl : l.length ≤ 9223372036854775807) : Ev (fun k => impl_nearOk.f k q0 q1 ow q3 q4 l q6 q7) (nearB ow l) :=
  impl_nearOk_l0_ev q0 q1 ow q3 q4 q6 q7 l hl l.length 0 (by omega)

-- impl_RecordOk
/-! impl_RecordOk -/
theorem impl_RecordOk_ev (ar ki ow ke se : Int) (l : List S63) (co : Int) (fa : Bool) (hl : l.length ≤ 9223372036854775807) : Ev (fun k => impl_RecordOk.f k ar ki ow ke se l co fa) (recB ar ki ow ke se l co fa) := by
  have hj : ∀ b : Bool, Ev (fun k => impl_RecordOk.j0 k b ar ki ow ke se l co fa) (!b && recK ar ki ow ke l co fa) := by
    intro b
    apply ev_succ
    simp only [impl_RecordOk.j0, impl_in_eq, Option.bind_some, decide_eq_true_eq]
    refine ev_ite (fun hb => ev_some (by simp [hb])) (fun hb => ?_)
    have hb' : b = false := by simpa using hb
    rw [hb']
    unfold recK
    refine ev_ite (fun h1 => ?_) (fun h1 => ?_)
    · rw [if_pos h1]
      refine ev_ite (fun h2 => ?_) (fun h2 => ev_some (by simp [h2]))
      refine ev_ite (fun h3 => ?_) (fun h3 => ev_some (by simp [h3]))
      refine Ev.bind (impl_nearOk_ev ar ki ow ke se co fa l hl) ?_
      refine ev_ite (fun h4 => ?_) (fun h4 => ev_some (by simp [h4]))
      refine ev_ite (fun h5 => ev_some ?_) (fun h5 => ev_some (by simp [h5]))
      simp [h2, h3, h4, h5]
    · rw [if_neg h1]
      refine ev_ite (fun h1 => ?_) (fun h1 => ?_)
      · rw [if_pos h1]
        refine ev_ite (fun h2 => ?_) (fun h2 => ev_some (by simp [h2]))
        refine ev_ite (fun h3 => ?_) (fun h3 => ev_some (by simp [h3]))
        refine ev_ite (fun h4 => ?_) (fun h4 => ev_some ?_)
        · have h4' : l.length = 0 := by omega
          refine ev_ite (fun h5 => ev_some ?_) (fun h5 => ev_some (by simp [h5]))
          simp [h2, h3, h4', h5]
        · have h4' : ¬ l.length = 0 := by omega
          simp [h4']
      · rw [if_neg h1]
        refine ev_ite (fun h1 => ?_) (fun h1 => ?_)
        · rw [if_pos h1]
          refine ev_ite (fun h2 => ?_) (fun h2 => ev_some (by simp [h2]))
          refine ev_ite (fun h3 => ?_) (fun h3 => ev_some (by simp [h3]))
          refine ev_ite (fun h4 => ?_) (fun h4 => ev_some ?_)
          · have h4' : l.length = 0 := by omega
            refine ev_ite (fun h5 => ev_some ?_) (fun h5 => ev_some ?_)
            · simp [h2, h3, h4', h5]
            · simp [h2, h3, h4', h5]
          · have h4' : ¬ l.length = 0 := by omega
            simp [h4']
        · rw [if_neg h1]
          exact ev_some (by simp)
  unfold impl_RecordOk.f
  simp only [impl_in_eq, Option.bind_some, decide_eq_true_eq]
  unfold recB
  refine ev_ite (fun h1 => ?_) (fun h1 => ?_)
  · exact ev_to (hj _) (by simp [h1])
  · exact ev_to (hj _) (by simp [h1])

def oneB (s : ByteArray) (p : Int) (b : Bool) : Int × Int × Bool := if b = true then (0, p, true) else if p ≥ (s.size : Int) then (0, p, true) else (bt s p, p + 1, false)
def numB (s : ByteArray) (p : Int) (b : Bool) : Int × Int × Bool := if b = true then (0, p, true) else if (rvB s p.toNat).2.2 = true then ((rvB s p.toNat).1, (rvB s p.toNat).2.1, false) else (0, p, true)
theorem evUnique {α : Type} {g : Nat → Option α} {r r' : α} (h : Ev g r) (h' : Ev g r') : r = r' := by
  obtain ⟨K, h⟩ := h
  obtain ⟨K', h'⟩ := h'
  have e := h (K + K') (by omega)
  rw [h' (K + K') (by omega)] at e
  exact (Option.some.inj e).symm
theorem impl_one_eq (s : ByteArray) (hs : s.size ≤ 9223372036854775000) (p : Int) (b : Bool) (h0 : 0 ≤ p) (h1 : p ≤ s.size) : impl_reader_one.f s p b = some ((oneB s p b).1, s, (oneB s p b).2.1, (oneB s p b).2.2) := by
  unfold impl_reader_one.f oneB
  by_cases hb : b = true
  · rw [if_pos hb, if_pos hb]
  · rw [if_neg hb, if_neg hb]
    by_cases hp : p ≥ (s.size : Int)
    · rw [if_pos hp, if_pos hp]
    · rw [if_neg hp, if_neg hp, w64 (x := p + 1) (by omega) (by omega), show p + 1 - 1 = p by omega, w64 (x := p) (by omega) (by omega), if_pos h0, if_pos (by omega), wbt]
      have : b = false := by simpa using hb
      rw [this]
theorem spec_one_eq (s : ByteArray) (hs : s.size ≤ 9223372036854775000) (p : Int) (b : Bool) (h0 : 0 ≤ p) (h1 : p ≤ s.size) : spec_l04One.f s p b = some ((oneB s p b).1, s, (oneB s p b).2.1, (oneB s p b).2.2) := by
  unfold spec_l04One.f spec_l04Take.f oneB
  by_cases hb : b = true
  · rw [if_pos hb, if_pos hb]
    simp
  · have hb' : b = false := by simpa using hb
    subst hb'
    simp only [Bool.false_eq_true, if_false]
    rw [w64 (x := (s.size : Int) - p) (by omega) (by omega)]
    by_cases hp : p ≥ (s.size : Int)
    · rw [if_pos (by omega), if_pos hp]
      simp
    · rw [if_neg (by omega), if_neg hp, w64 (x := p + 1) (by omega) (by omega), show p + 1 - 1 = p by omega, w64 (x := p) (by omega) (by omega), if_pos h0, if_pos (by omega), if_pos (by omega)]
      simp only [Option.bind_some]
      have hsz : (s.extract p.toNat (p + 1).toNat).size = 1 := by rw [ByteArray.size_extract]; omega
      have hbt : bt (s.extract p.toNat (p + 1).toNat) 0 = bt s p := by
        have h3 := B_bt (s.extract p.toNat (p + 1).toNat) 0 (by omega)
        have h4 := B_bt s p.toNat (by omega)
        rw [B_extract] at h3
        have e : (((B s).take (p + 1).toNat).drop p.toNat)[0]? = (B s)[p.toNat]? := by
          rw [List.getElem?_drop, Nat.add_zero, List.getElem?_take, if_pos (by omega)]
        rw [e, h4] at h3
        have e2 : ((p.toNat : Nat) : Int) = p := by omega
        rw [e2] at h3
        exact (Option.some.inj h3).symm
      rw [if_neg (by decide), if_pos (by omega), hbt, wbt]
theorem impl_num_ev (s : ByteArray) (hs : s.size ≤ 9223372036854775000) (p : Int) (b : Bool) (h0 : 0 ≤ p) (h1 : p ≤ s.size) : Ev (fun k => impl_reader_num.f k s p b) ((numB s p b).1, s, (numB s p b).2.1, (numB s p b).2.2) := by
  have h := impl_ReadVar_yes s hs p.toNat (by omega)
  have e : ((p.toNat : Nat) : Int) = p := by omega
  rw [e] at h
  unfold impl_reader_num.f
  refine Ev.bind h ?_
  cases b with
  | true => exact ev_pos (by simp) (Ev.now _)
  | false =>
    refine ev_neg (by decide) ?_
    unfold numB
    cases ho : (rvB s p.toNat).2.2 <;> simp only [ho, Bool.false_eq_true, if_true, if_false] <;> exact Ev.now _
theorem spec_num_ev (s : ByteArray) (hs : s.size ≤ 9223372036854775000) (p : Int) (b : Bool) (h0 : 0 ≤ p) (h1 : p ≤ s.size) : Ev (fun k => spec_l04Var.f k s p b) ((numB s p b).1, s, (numB s p b).2.1, (numB s p b).2.2) := by
  have h := spec_ReadVar_yes s hs p.toNat (by omega)
  have e : ((p.toNat : Nat) : Int) = p := by omega
  rw [e] at h
  unfold spec_l04Var.f
  refine Ev.bind h ?_
  cases b with
  | true => exact ev_pos (by simp) (Ev.now _)
  | false =>
    refine ev_neg (by decide) ?_
    unfold numB
    cases ho : (rvB s p.toNat).2.2 <;> simp only [ho, Bool.false_eq_true, if_true, if_false] <;> exact Ev.now _
theorem oneB_bad (s : ByteArray) (p : Int) : oneB s p true = (0, p, true) := rfl
theorem numB_bad (s : ByteArray) (p : Int) : numB s p true = (0, p, true) := rfl
/-- A byte, read: it is bad, or the byte is told. -/
theorem oneB_cases (s : ByteArray) (p : Int) (h0 : 0 ≤ p) (h1 : p ≤ s.size) : oneB s p false = (0, p, true) ∨ ∃ r, oneB s p false = (r, p + 1, false) ∧ 0 ≤ r ∧ r < 256 ∧ p < s.size ∧ (B s).take (p + 1).toNat = (B s).take p.toNat ++ [r] := by
  unfold oneB
  by_cases hp : p ≥ (s.size : Int)
  · left; rw [if_neg (by decide), if_pos hp]
  · right
    have hb := bt_b s p
    refine ⟨bt s p, by rw [if_neg (by decide), if_neg hp], hb.1, hb.2, by omega, ?_⟩
    have h4 := B_bt s p.toNat (by omega)
    have e2 : ((p.toNat : Nat) : Int) = p := by omega
    rw [e2] at h4
    have hl : p.toNat < (B s).length := by rw [B_len]; omega
    rw [List.getElem?_eq_getElem hl] at h4
    rw [show (p + 1).toNat = p.toNat + 1 by omega, List.take_succ_eq_append_getElem hl, Option.some.inj h4]
theorem numB_cases (s : ByteArray) (p : Int) (h0 : 0 ≤ p) (h1 : p ≤ s.size) : numB s p false = (0, p, true) ∨ ∃ r j, numB s p false = (r, j, false) ∧ 0 ≤ r ∧ r ≤ 1000000000 ∧ p < j ∧ j ≤ s.size ∧ (B s).take j.toNat = (B s).take p.toNat ++ varN r := by
  unfold numB
  rw [if_neg (by decide)]
  generalize hv : rvB s p.toNat = v
  obtain ⟨m, j, o⟩ := v
  cases o with
  | false => left; rfl
  | true =>
    right
    have h2 := rvB_ok s p.toNat (by omega) hv
    have h3 := rvB_enc s p.toNat (by omega) hv
    exact ⟨m, j, rfl, h2.1, h2.2.1, by omega, by omega, h3.1⟩
def zRec : Int × Int × Int × Int × Int × (List S63) × Int × Bool × Bool := (0, 0, 0, 0, 0, [], 0, false, false)
theorem spec_text_some (a b c d e : Int) (l : List S63) (co : Int) (fa : Bool) (hl : l.length ≤ 1048576) : ∃ r, Ev (fun k => spec_RecordText.f k a b c d e l co fa) r := by
  by_cases h : recB a b c d e l co fa = true
  · exact ⟨_, spec_RecordText_yes a b c d e l co fa hl h⟩
  · exact ⟨_, spec_RecordText_no a b c d e l co fa (by omega) h⟩
/-- Once something was not as it must be, nothing is read. -/
theorem impl_rec_bad (s : ByteArray) (hs : s.size ≤ 9223372036854775000) (n p : Int) (h0 : 0 ≤ p) (h1 : p ≤ s.size) (a b c d e : Int) (l : List S63) : Ev (fun k => impl_ReadRecord.l0 k s n s p true a b c d e l 0 false) zRec := by
  have hj : Ev (fun k => impl_ReadRecord.j1 k s n false s p true a b c d e l 0 false) zRec := by
    apply ev_succ
    simp only [impl_ReadRecord.j1]
    refine ev_neg (by decide) (Ev.bind (impl_num_ev s hs p true h0 h1) ?_)
    simp only [numB_bad, impl_one_eq s hs p true h0 h1, Option.bind_some, oneB_bad]
    exact ev_pos (by simp) (Ev.now _)
  apply ev_succ
  simp only [impl_ReadRecord.l0, Bool.not_true]
  exact ev_ite (fun _ => hj) (fun _ => hj)
theorem spec_rec_bad (s : ByteArray) (hs : s.size ≤ 9223372036854775000) (n i p : Int) (h0 : 0 ≤ p) (h1 : p ≤ s.size) (a b c d e : Int) (l : List S63) (hl : l.length ≤ 1048576) : Ev (fun k => spec_ReadRecord.l0 k s n i s p true a b c d e l 0 false) zRec := by
  have hj : Ev (fun k => spec_ReadRecord.j1 k s n i false s p true a b c d e l 0 false) zRec := by
    apply ev_succ
    simp only [spec_ReadRecord.j1]
    refine ev_neg (by decide) (Ev.bind (spec_num_ev s hs p true h0 h1) ?_)
    simp only [numB_bad, spec_one_eq s hs p true h0 h1, Option.bind_some, oneB_bad]
    obtain ⟨r, hr⟩ := spec_text_some a b c d e l 0 ((0 : Int) == 1) hl
    exact Ev.bind hr (ev_pos (by simp) (Ev.now _))
  apply ev_succ
  simp only [spec_ReadRecord.l0, Bool.not_true]
  exact ev_ite (fun _ => ev_ite (fun _ => hj) (fun _ => hj)) (fun _ => hj)
theorem nearGo_len (ow : Int) : ∀ (l : List S63) (q : Int), nearGo ow (some q) l = true → 0 ≤ q → q ≤ 6 → (l.length : Int) ≤ 6 - q
  | [], q, _, h0, h1 => by simp; omega
  | x :: l, q, h, h0, h1 => by
    rw [nearGo] at h
    simp only [Bool.and_eq_true, decide_eq_true_eq, Option.all_some] at h
    have h2 := nearGo_len ow l x.f0 h.2 (by omega) (by omega)
    have h3 : q < x.f0 := h.1.2
    simp only [List.length_cons]; omega
theorem nearB_len {ow : Int} {l : List S63} (h : nearB ow l = true) : l.length ≤ 6 := by
  cases l with
  | nil => simp
  | cons x l =>
    unfold nearB at h
    rw [nearGo] at h
    simp only [Bool.and_eq_true, decide_eq_true_eq] at h
    have h2 := nearGo_len ow l x.f0 h.2 (by omega) (by omega)
    simp only [List.length_cons]; omega
theorem recB_len {ar ki ow ke se : Int} {l : List S63} {co : Int} {fa : Bool} (h : recB ar ki ow ke se l co fa = true) : l.length ≤ 6 := by
  obtain ⟨_, _, _, _, _, _, _, _, _, _, _, _, h⟩ := recB_facts h
  rcases h with h | rfl
  · exact nearB_len h
  · simp
/-- The end of a reading that is bad at the last two steps, or of what is no record. -/
theorem impl_rec_end (s : ByteArray) (hs : s.size ≤ 9223372036854775000) (n p : Int) (h0 : 0 ≤ p) (h1 : p ≤ s.size) (a b c d e : Int) (l : List S63) (hl : l.length ≤ 9223372036854775000) (hn : ∀ co fa, recB a b c d e l co fa = false) : Ev (fun k => impl_ReadRecord.j1 k s n false s p false a b c d e l 0 false) zRec := by
  apply ev_succ
  simp only [impl_ReadRecord.j1]
  refine ev_neg (by decide) (Ev.bind (impl_num_ev s hs p false h0 h1) ?_)
  rcases numB_cases s p h0 h1 with h | ⟨co, j, h, c0, c1, hj0, hj1, _⟩
  · simp only [h, impl_one_eq s hs p true h0 h1, Option.bind_some, oneB_bad]
    exact ev_pos (by simp) (Ev.now _)
  · simp only [h]
    rcases oneB_cases s j (by omega) (by omega) with h2 | ⟨r, h2, r0, r1, hj2, _⟩
    · simp only [impl_one_eq s hs j false (by omega) (by omega), Option.bind_some, h2]
      exact ev_pos (by simp) (Ev.now _)
    · simp only [impl_one_eq s hs j false (by omega) (by omega), Option.bind_some, h2]
      refine ev_neg (by decide) (ev_ite (fun _ => Ev.now _) (fun _ => ev_ite (fun _ => ?_) (fun _ => Ev.now _)))
      refine Ev.bind (impl_RecordOk_ev a b c d e l co (r == 1) (by omega)) ?_
      rw [hn]
      exact ev_neg (by decide) (Ev.now _)
theorem spec_rec_end (s : ByteArray) (hs : s.size ≤ 9223372036854775000) (n i p : Int) (h0 : 0 ≤ p) (h1 : p ≤ s.size) (a b c d e : Int) (l : List S63) (hl : l.length ≤ 1048576) (hn : ∀ co fa, recB a b c d e l co fa = false) : Ev (fun k => spec_ReadRecord.j1 k s n i false s p false a b c d e l 0 false) zRec := by
  apply ev_succ
  simp only [spec_ReadRecord.j1]
  refine ev_neg (by decide) (Ev.bind (spec_num_ev s hs p false h0 h1) ?_)
  have hno : ∀ co fa, Ev (fun k => spec_RecordText.f k a b c d e l co fa) (⟨#[]⟩, false) := fun co fa => spec_RecordText_no a b c d e l co fa (by omega) (by rw [hn]; decide)
  rcases numB_cases s p h0 h1 with h | ⟨co, j, h, c0, c1, hj0, hj1, _⟩
  · simp only [h, spec_one_eq s hs p true h0 h1, Option.bind_some, oneB_bad]
    exact Ev.bind (hno _ _) (ev_pos (by simp) (Ev.now _))
  · simp only [h]
    rcases oneB_cases s j (by omega) (by omega) with h2 | ⟨r, h2, r0, r1, hj2, _⟩
    · simp only [spec_one_eq s hs j false (by omega) (by omega), Option.bind_some, h2]
      exact Ev.bind (hno _ _) (ev_pos (by simp) (Ev.now _))
    · simp only [spec_one_eq s hs j false (by omega) (by omega), Option.bind_some, h2]
      exact Ev.bind (hno _ _) (ev_neg (by decide) (ev_neg (by decide) (Ev.now _)))
theorem long_no {a b c d e : Int} {l : List S63} (hl : 7 ≤ l.length) : ∀ co fa, recB a b c d e l co fa = false := by
  intro co fa
  cases h : recB a b c d e l co fa with
  | false => rfl
  | true => have := recB_len h; omega
theorem impl_rec_long (s : ByteArray) (hs : s.size ≤ 1048576) (a b c d e : Int) (m : Nat) : ∀ (n p : Int) (l : List S63), 0 ≤ p → p ≤ s.size → (s.size : Int) - p ≤ m → 0 ≤ n → n ≤ 1000000000 → 7 ≤ l.length → l.length + m ≤ 2000000 →
    Ev (fun k => impl_ReadRecord.l0 k s n s p false a b c d e l 0 false) zRec := by
  induction m with
  | zero =>
    intro n p l h0 h1 hm hn hn1 hl hlm
    apply ev_succ
    simp only [impl_ReadRecord.l0, Bool.not_false]
    refine ev_ite (fun _ => ?_) (fun _ => impl_rec_end s (by omega) n p h0 h1 a b c d e l (by omega) (long_no hl))
    apply ev_succ
    simp only [impl_ReadRecord.j1]
    have hb : oneB s p false = (0, p, true) := by unfold oneB; rw [if_neg (by decide), if_pos (by omega)]
    rw [impl_one_eq s (by omega) p false h0 h1, hb]
    simp only [Option.bind_some]
    refine ev_pos trivial (Ev.bind (impl_num_ev s (by omega) p true h0 h1) ?_)
    simp only [numB_bad]
    exact ev_pos (by omega) (impl_rec_bad s (by omega) _ p h0 h1 a b c d e _)
  | succ m ih =>
    intro n p l h0 h1 hm hn hn1 hl hlm
    apply ev_succ
    simp only [impl_ReadRecord.l0, Bool.not_false]
    refine ev_ite (fun hn0 => ?_) (fun _ => impl_rec_end s (by omega) n p h0 h1 a b c d e l (by omega) (long_no hl))
    apply ev_succ
    simp only [impl_ReadRecord.j1]
    rcases oneB_cases s p h0 h1 with h | ⟨r, h, r0, r1, hp, _⟩
    · rw [impl_one_eq s (by omega) p false h0 h1, h]
      simp only [Option.bind_some]
      refine ev_pos trivial (Ev.bind (impl_num_ev s (by omega) p true h0 h1) ?_)
      simp only [numB_bad]
      exact ev_pos (by omega) (impl_rec_bad s (by omega) _ p h0 h1 a b c d e _)
    · rw [impl_one_eq s (by omega) p false h0 h1, h]
      simp only [Option.bind_some]
      refine ev_pos trivial (Ev.bind (impl_num_ev s (by omega) (p + 1) false (by omega) (by omega)) ?_)
      rcases numB_cases s (p + 1) (by omega) (by omega) with h2 | ⟨co, j, h2, c0, c1, hj0, hj1, _⟩
      · simp only [h2]
        exact ev_pos (by omega) (impl_rec_bad s (by omega) _ (p + 1) (by omega) (by omega) a b c d e _)
      · simp only [h2]
        rw [w64 (x := n - 1) (by omega) (by omega)]
        exact ev_pos (by omega) (ih (n - 1) j _ (by omega) (by omega) (by omega) (by omega) (by omega) (by simp; omega) (by simp; omega))
theorem spec_rec_long (s : ByteArray) (hs : s.size ≤ 1048576) (a b c d e n : Int) (m : Nat) : ∀ (i : Nat) (p : Int) (l : List S63), i + m = 50 → 0 ≤ p → p ≤ s.size → 7 ≤ l.length → l.length ≤ i →
    Ev (fun k => spec_ReadRecord.l0 k s n i s p false a b c d e l 0 false) zRec := by
  induction m with
  | zero =>
    intro i p l hi h0 h1 hl hli
    apply ev_succ
    simp only [spec_ReadRecord.l0, Bool.not_false]
    exact ev_ite (fun _ => ev_neg (by omega) (spec_rec_end s (by omega) n i p h0 h1 a b c d e l (by omega) (long_no hl))) (fun _ => spec_rec_end s (by omega) n i p h0 h1 a b c d e l (by omega) (long_no hl))
  | succ m ih =>
    intro i p l hi h0 h1 hl hli
    apply ev_succ
    simp only [spec_ReadRecord.l0, Bool.not_false]
    refine ev_ite (fun _ => ev_pos (by omega) ?_) (fun _ => spec_rec_end s (by omega) n i p h0 h1 a b c d e l (by omega) (long_no hl))
    apply ev_succ
    simp only [spec_ReadRecord.j1]
    have ew : wrap64 ((i : Int) + 1) = ((i + 1 : Nat) : Int) := by rw [w64 (by omega) (by omega)]; omega
    rcases oneB_cases s p h0 h1 with h | ⟨r, h, r0, r1, hp, _⟩
    · rw [spec_one_eq s (by omega) p false h0 h1, h]
      simp only [Option.bind_some]
      refine ev_pos trivial (Ev.bind (spec_num_ev s (by omega) p true h0 h1) ?_)
      simp only [numB_bad]
      exact ev_pos (by omega) (spec_rec_bad s (by omega) _ _ p h0 h1 a b c d e _ (by simp; omega))
    · rw [spec_one_eq s (by omega) p false h0 h1, h]
      simp only [Option.bind_some]
      refine ev_pos trivial (Ev.bind (spec_num_ev s (by omega) (p + 1) false (by omega) (by omega)) ?_)
      rcases numB_cases s (p + 1) (by omega) (by omega) with h2 | ⟨co, j, h2, c0, c1, hj0, hj1, _⟩
      · simp only [h2]
        exact ev_pos (by omega) (spec_rec_bad s (by omega) _ _ (p + 1) (by omega) (by omega) a b c d e _ (by simp; omega))
      · simp only [h2]
        rw [ew]
        exact ev_pos (by omega) (ih (i + 1) j _ (by omega) (by omega) (by omega) (by simp; omega) (by simp; omega))
theorem nearT_snoc (l : List S63) (x : S63) (h0 : 0 ≤ x.f0) (h1 : x.f0 < 256) : nearT (l ++ [x]) = nearT l ++ ([x.f0] ++ varN x.f1) := by
  have hx : x.f0 % 256 = x.f0 := by omega
  induction l with
  | nil => simp [nearT, hx]
  | cons y l ih => simp only [List.cons_append, nearT, ih]; simp
/-- The end of a reading in which nothing was bad so far. -/
theorem rec_end (s : ByteArray) (hs : s.size ≤ 1048576) (n i p : Int) (h0 : 0 ≤ p) (h1 : p ≤ s.size) (a b c d e : Int) (l : List S63) (hl : l.length ≤ 7)
    (ha : 0 ≤ a ∧ a < 256) (hb : 0 ≤ b ∧ b < 256) (hc : 0 ≤ c ∧ c < 256) (hd : 0 ≤ d ∧ d < 256) (hI : (B s).take p.toNat = [a, b, c, d] ++ varN e ++ varN (l.length : Int) ++ nearT l) :
    ∃ R : Int × Int × Int × Int × Int × (List S63) × Int × Bool × Bool, Ev (fun k => impl_ReadRecord.j1 k s n false s p false a b c d e l 0 false) R ∧ Ev (fun k => spec_ReadRecord.j1 k s n i false s p false a b c d e l 0 false) R ∧ R.2.2.2.2.2.1.length ≤ 7 := by
  rcases numB_cases s p h0 h1 with h | ⟨co, j, h, c0, c1, hj0, hj1, hco⟩
  · refine ⟨zRec, ?_, ?_, by simp [zRec]⟩
    · apply ev_succ
      simp only [impl_ReadRecord.j1]
      refine ev_neg (by decide) (Ev.bind (impl_num_ev s (by omega) p false h0 h1) ?_)
      simp only [h, impl_one_eq s (by omega) p true h0 h1, Option.bind_some, oneB_bad]
      exact ev_pos (by simp) (Ev.now _)
    · apply ev_succ
      simp only [spec_ReadRecord.j1]
      refine ev_neg (by decide) (Ev.bind (spec_num_ev s (by omega) p false h0 h1) ?_)
      simp only [h, spec_one_eq s (by omega) p true h0 h1, Option.bind_some, oneB_bad]
      obtain ⟨r, hr⟩ := spec_text_some a b c d e l 0 ((0 : Int) == 1) (by omega)
      exact Ev.bind hr (ev_pos (by simp) (Ev.now _))
  · rcases oneB_cases s j (by omega) (by omega) with h2 | ⟨fb, h2, f0, f1, hj2, hfb⟩
    · refine ⟨zRec, ?_, ?_, by simp [zRec]⟩
      · apply ev_succ
        simp only [impl_ReadRecord.j1]
        refine ev_neg (by decide) (Ev.bind (impl_num_ev s (by omega) p false h0 h1) ?_)
        simp only [h, impl_one_eq s (by omega) j false (by omega) (by omega), Option.bind_some, h2]
        exact ev_pos (by simp) (Ev.now _)
      · apply ev_succ
        simp only [spec_ReadRecord.j1]
        refine ev_neg (by decide) (Ev.bind (spec_num_ev s (by omega) p false h0 h1) ?_)
        simp only [h, spec_one_eq s (by omega) j false (by omega) (by omega), Option.bind_some, h2]
        obtain ⟨r, hr⟩ := spec_text_some a b c d e l co ((0 : Int) == 1) (by omega)
        exact Ev.bind hr (ev_pos (by simp) (Ev.now _))
    · have hall : B s = ([a, b, c, d] ++ varN e ++ varN (l.length : Int) ++ nearT l ++ varN co ++ [fb]) ++ (B s).drop (j + 1).toNat := by
        have := (List.take_append_drop (j + 1).toNat (B s)).symm
        rw [hfb, hco, hI] at this
        exact this
      have hlen : ((B s).drop (j + 1).toNat).length = s.size - (j + 1).toNat := by rw [List.length_drop, B_len]
      by_cases hrec : recB a b c d e l co (fb == 1) = true
      · have hfacts := recB_facts hrec
        have ht : recT a b c d e l co (fb == 1) = [a, b, c, d] ++ varN e ++ varN (l.length : Int) ++ nearT l ++ varN co ++ farT (fb == 1) := by
          unfold recT
          rw [show a % 256 = a by omega, show b % 256 = b by omega, show c % 256 = c by omega, show d % 256 = d by omega]
        have hbyt : Byt (recT a b c d e l co (fb == 1)) := by
          have h3 := B_byt s
          rw [hall] at h3
          rw [ht]
          intro x hx
          rcases List.mem_append.1 hx with hx | hx
          · exact h3 x (List.mem_append_left _ (List.mem_append_left _ hx))
          · unfold farT at hx
            simp only [List.mem_singleton] at hx
            rw [hx]; split <;> omega
        by_cases hg : fb ≤ 1 ∧ j + 1 = (s.size : Int)
        · have hdr : (B s).drop (j + 1).toNat = [] := List.eq_nil_of_length_eq_zero (by omega)
          have hfar : farT (fb == 1) = [fb] := by
            unfold farT
            by_cases h3 : fb = 1
            · rw [h3]; rfl
            · have h4 : fb = 0 := by omega
              rw [h4]; rfl
          have hst : (strOfNums (recT a b c d e l co (fb == 1))).toList = s.toList := by
            rw [tl_iff, B_str _ hbyt, ht, hfar, hall, hdr, List.append_nil]
          refine ⟨(a, b, c, d, e, l, co, (fb == 1), true), ?_, ?_, hl⟩
          · apply ev_succ
            simp only [impl_ReadRecord.j1]
            refine ev_neg (by decide) (Ev.bind (impl_num_ev s (by omega) p false h0 h1) ?_)
            simp only [h, impl_one_eq s (by omega) j false (by omega) (by omega), Option.bind_some, h2]
            refine ev_neg (by decide) (ev_neg (by omega) (ev_pos hg.2 (Ev.bind (impl_RecordOk_ev a b c d e l co (fb == 1) (by omega)) (ev_pos hrec (Ev.now _)))))
          · apply ev_succ
            simp only [spec_ReadRecord.j1]
            refine ev_neg (by decide) (Ev.bind (spec_num_ev s (by omega) p false h0 h1) ?_)
            simp only [h, spec_one_eq s (by omega) j false (by omega) (by omega), Option.bind_some, h2]
            exact Ev.bind (spec_RecordText_yes a b c d e l co (fb == 1) (by omega) hrec) (ev_neg (by decide) (ev_pos rfl (ev_pos hst (Ev.now _))))
        · have hst : ¬ (strOfNums (recT a b c d e l co (fb == 1))).toList = s.toList := by
            rw [tl_iff, B_str _ hbyt, ht, hall]
            intro he
            rw [List.append_assoc _ [fb]] at he
            have h5 := List.append_cancel_left he
            unfold farT at h5
            simp only [List.cons_append, List.nil_append] at h5
            injection h5 with h6 h7
            have h8 := congrArg List.length h7
            rw [hlen] at h8
            simp only [List.length_nil] at h8
            refine hg ⟨?_, by omega⟩
            rw [← h6]; split <;> omega
          refine ⟨zRec, ?_, ?_, by simp [zRec]⟩
          · apply ev_succ
            simp only [impl_ReadRecord.j1]
            refine ev_neg (by decide) (Ev.bind (impl_num_ev s (by omega) p false h0 h1) ?_)
            simp only [h, impl_one_eq s (by omega) j false (by omega) (by omega), Option.bind_some, h2]
            refine ev_neg (by decide) (ev_ite (fun _ => Ev.now _) (fun h9 => ev_neg (by omega) (Ev.now _)))
          · apply ev_succ
            simp only [spec_ReadRecord.j1]
            refine ev_neg (by decide) (Ev.bind (spec_num_ev s (by omega) p false h0 h1) ?_)
            simp only [h, spec_one_eq s (by omega) j false (by omega) (by omega), Option.bind_some, h2]
            exact Ev.bind (spec_RecordText_yes a b c d e l co (fb == 1) (by omega) hrec) (ev_neg (by decide) (ev_pos rfl (ev_neg hst (Ev.now _))))
      · refine ⟨zRec, ?_, ?_, by simp [zRec]⟩
        · apply ev_succ
          simp only [impl_ReadRecord.j1]
          refine ev_neg (by decide) (Ev.bind (impl_num_ev s (by omega) p false h0 h1) ?_)
          simp only [h, impl_one_eq s (by omega) j false (by omega) (by omega), Option.bind_some, h2]
          refine ev_neg (by decide) (ev_ite (fun _ => Ev.now _) (fun _ => ev_ite (fun _ => ?_) (fun _ => Ev.now _)))
          exact Ev.bind (impl_RecordOk_ev a b c d e l co (fb == 1) (by omega)) (ev_neg hrec (Ev.now _))
        · apply ev_succ
          simp only [spec_ReadRecord.j1]
          refine ev_neg (by decide) (Ev.bind (spec_num_ev s (by omega) p false h0 h1) ?_)
          simp only [h, spec_one_eq s (by omega) j false (by omega) (by omega), Option.bind_some, h2]
          exact Ev.bind (spec_RecordText_no a b c d e l co (fb == 1) (by omega) hrec) (ev_neg (by decide) (ev_neg (by decide) (Ev.now _)))
/-- Both readings, in step. -/
theorem rec_loop (s : ByteArray) (hs : s.size ≤ 1048576) (a b c d e n : Int) (ha : 0 ≤ a ∧ a < 256) (hb : 0 ≤ b ∧ b < 256) (hc : 0 ≤ c ∧ c < 256) (hd : 0 ≤ d ∧ d < 256) (hn0 : 0 ≤ n) (hn1 : n ≤ 1000000000) (m : Nat) :
    ∀ (l : List S63) (p : Int), l.length + m = 7 → (l.length : Int) ≤ n → 0 ≤ p → p ≤ s.size → (B s).take p.toNat = [a, b, c, d] ++ varN e ++ varN n ++ nearT l →
    ∃ R : Int × Int × Int × Int × Int × (List S63) × Int × Bool × Bool, Ev (fun k => impl_ReadRecord.l0 k s (n - l.length) s p false a b c d e l 0 false) R ∧ Ev (fun k => spec_ReadRecord.l0 k s n (l.length : Int) s p false a b c d e l 0 false) R ∧ R.2.2.2.2.2.1.length ≤ 7 := by
  induction m with
  | zero =>
    intro l p hl hln h0 h1 hI
    exact ⟨zRec, impl_rec_long s hs a b c d e s.size (n - l.length) p l h0 h1 (by omega) (by omega) (by omega) (by omega) (by omega), spec_rec_long s hs a b c d e n 43 l.length p l (by omega) h0 h1 (by omega) (by omega), by simp [zRec]⟩
  | succ m ih =>
    intro l p hl hln h0 h1 hI
    by_cases he : (l.length : Int) = n
    · obtain ⟨R, r1, r2, r3⟩ := rec_end s hs (n - l.length) l.length p h0 h1 a b c d e l (by omega) ha hb hc hd (by rw [he]; exact hI)
      obtain ⟨R', r1', r2', r3'⟩ := rec_end s hs n l.length p h0 h1 a b c d e l (by omega) ha hb hc hd (by rw [he]; exact hI)
      have hj : ∀ x y : Int, (fun k => impl_ReadRecord.j1 k s x false s p false a b c d e l 0 false) = (fun k => impl_ReadRecord.j1 k s y false s p false a b c d e l 0 false) := by
        intro x y; funext k; cases k with
        | zero => rfl
        | succ k => simp only [impl_ReadRecord.j1]; rw [if_neg (by decide), if_neg (by decide)]
      have eR : R = R' := evUnique r1 (by rw [hj (n - l.length) n]; exact r1')
      subst eR
      refine ⟨R, ev_succ ?_, ev_succ ?_, r3⟩
      · simp only [impl_ReadRecord.l0]
        exact ev_neg (by omega) r1
      · simp only [spec_ReadRecord.l0]
        exact ev_neg (by omega) r2'
    · have ew : wrap64 ((l.length : Int) + 1) = (l.length : Int) + 1 := w64 (by omega) (by omega)
      have ew2 : wrap64 (n - l.length - 1) = n - l.length - 1 := w64 (by omega) (by omega)
      rcases oneB_cases s p h0 h1 with h | ⟨r, h, r0, r1, hp, hr⟩
      · refine ⟨zRec, ev_succ ?_, ev_succ ?_, by simp [zRec]⟩
        · simp only [impl_ReadRecord.l0, Bool.not_false]
          refine ev_pos (by omega) (ev_succ ?_)
          simp only [impl_ReadRecord.j1]
          rw [impl_one_eq s (by omega) p false h0 h1, h]
          simp only [Option.bind_some]
          refine ev_pos trivial (Ev.bind (impl_num_ev s (by omega) p true h0 h1) ?_)
          simp only [numB_bad]
          exact ev_pos (by omega) (impl_rec_bad s (by omega) _ p h0 h1 a b c d e _)
        · simp only [spec_ReadRecord.l0, Bool.not_false]
          refine ev_pos (by omega) (ev_pos (by omega) (ev_succ ?_))
          simp only [spec_ReadRecord.j1]
          rw [spec_one_eq s (by omega) p false h0 h1, h]
          simp only [Option.bind_some]
          refine ev_pos trivial (Ev.bind (spec_num_ev s (by omega) p true h0 h1) ?_)
          simp only [numB_bad]
          exact ev_pos (by omega) (spec_rec_bad s (by omega) _ _ p h0 h1 a b c d e _ (by simp; omega))
      · rcases numB_cases s (p + 1) (by omega) (by omega) with h2 | ⟨co, j, h2, c0, c1, hj0, hj1, hco⟩
        · refine ⟨zRec, ev_succ ?_, ev_succ ?_, by simp [zRec]⟩
          · simp only [impl_ReadRecord.l0, Bool.not_false]
            refine ev_pos (by omega) (ev_succ ?_)
            simp only [impl_ReadRecord.j1]
            rw [impl_one_eq s (by omega) p false h0 h1, h]
            simp only [Option.bind_some]
            refine ev_pos trivial (Ev.bind (impl_num_ev s (by omega) (p + 1) false (by omega) (by omega)) ?_)
            simp only [h2]
            exact ev_pos (by omega) (impl_rec_bad s (by omega) _ (p + 1) (by omega) (by omega) a b c d e _)
          · simp only [spec_ReadRecord.l0, Bool.not_false]
            refine ev_pos (by omega) (ev_pos (by omega) (ev_succ ?_))
            simp only [spec_ReadRecord.j1]
            rw [spec_one_eq s (by omega) p false h0 h1, h]
            simp only [Option.bind_some]
            refine ev_pos trivial (Ev.bind (spec_num_ev s (by omega) (p + 1) false (by omega) (by omega)) ?_)
            simp only [h2]
            exact ev_pos (by omega) (spec_rec_bad s (by omega) _ _ (p + 1) (by omega) (by omega) a b c d e _ (by simp; omega))
        · obtain ⟨R, q1, q2, q3⟩ := ih (l ++ [(⟨r, co⟩ : S63)]) j (by simp; omega) (by simp; omega) (by omega) (by omega) (by
            rw [hco, hr, hI, nearT_snoc l ⟨r, co⟩ r0 r1]; simp)
          have e1 : ((l ++ [(⟨r, co⟩ : S63)]).length : Int) = (l.length : Int) + 1 := by simp
          have e2 : n - ((l.length : Int) + 1) = n - l.length - 1 := by omega
          rw [e1, e2] at q1
          rw [e1] at q2
          refine ⟨R, ev_succ ?_, ev_succ ?_, q3⟩
          · simp only [impl_ReadRecord.l0, Bool.not_false]
            refine ev_pos (by omega) (ev_succ ?_)
            simp only [impl_ReadRecord.j1]
            rw [impl_one_eq s (by omega) p false h0 h1, h]
            simp only [Option.bind_some]
            refine ev_pos trivial (Ev.bind (impl_num_ev s (by omega) (p + 1) false (by omega) (by omega)) ?_)
            simp only [h2]
            rw [ew2]
            exact ev_pos (by omega) q1
          · simp only [spec_ReadRecord.l0, Bool.not_false]
            refine ev_pos (by omega) (ev_pos (by omega) (ev_succ ?_))
            simp only [spec_ReadRecord.j1]
            rw [spec_one_eq s (by omega) p false h0 h1, h]
            simp only [Option.bind_some]
            refine ev_pos trivial (Ev.bind (spec_num_ev s (by omega) (p + 1) false (by omega) (by omega)) ?_)
            simp only [h2]
            rw [ew]
            exact ev_pos (by omega) q2
/-- Both readings of a record answer alike. -/
theorem readrec_ev (s : ByteArray) (hs : s.size ≤ 1048576) : ∃ R : Int × Int × Int × Int × Int × (List S63) × Int × Bool × Bool, Ev (fun k => impl_ReadRecord.f k s) R ∧ Ev (fun k => spec_ReadRecord.f k s) R ∧ R.2.2.2.2.2.1.length ≤ 7 := by
  unfold impl_ReadRecord.f spec_ReadRecord.f
  rcases oneB_cases s 0 (by omega) (by omega) with h0 | ⟨a, h0, a0, a1, hl0, ht0⟩
  · refine ⟨zRec, ?_, ?_, by simp [zRec]⟩
    · simp only [impl_one_eq s (by omega) 0 false (by omega) (by omega), h0, impl_one_eq s (by omega) 0 true (by omega) (by omega), oneB_bad, Option.bind_some]
      refine Ev.bind (impl_num_ev s (by omega) 0 true (by omega) (by omega)) ?_
      simp only [numB_bad]
      refine Ev.bind (impl_num_ev s (by omega) 0 true (by omega) (by omega)) ?_
      simp only [numB_bad]
      exact impl_rec_bad s (by omega) _ 0 (by omega) (by omega) _ _ _ _ _ _
    · simp only [spec_one_eq s (by omega) 0 false (by omega) (by omega), h0, spec_one_eq s (by omega) 0 true (by omega) (by omega), oneB_bad, Option.bind_some]
      refine Ev.bind (spec_num_ev s (by omega) 0 true (by omega) (by omega)) ?_
      simp only [numB_bad]
      refine Ev.bind (spec_num_ev s (by omega) 0 true (by omega) (by omega)) ?_
      simp only [numB_bad]
      exact spec_rec_bad s (by omega) _ _ 0 (by omega) (by omega) _ _ _ _ _ _ (by simp)
  · obtain ⟨p1, hp1⟩ : ∃ q : Int, q = 0 + 1 := ⟨_, rfl⟩
    rw [← hp1] at h0 ht0
    rcases oneB_cases s p1 (by omega) (by omega) with h1 | ⟨b, h1, b0, b1, hl1, ht1⟩
    · refine ⟨zRec, ?_, ?_, by simp [zRec]⟩
      · simp only [impl_one_eq s (by omega) 0 false (by omega) (by omega), impl_one_eq s (by omega) p1 false (by omega) (by omega), h0, h1, impl_one_eq s (by omega) p1 true (by omega) (by omega), oneB_bad, Option.bind_some]
        refine Ev.bind (impl_num_ev s (by omega) p1 true (by omega) (by omega)) ?_
        simp only [numB_bad]
        refine Ev.bind (impl_num_ev s (by omega) p1 true (by omega) (by omega)) ?_
        simp only [numB_bad]
        exact impl_rec_bad s (by omega) _ p1 (by omega) (by omega) _ _ _ _ _ _
      · simp only [spec_one_eq s (by omega) 0 false (by omega) (by omega), spec_one_eq s (by omega) p1 false (by omega) (by omega), h0, h1, spec_one_eq s (by omega) p1 true (by omega) (by omega), oneB_bad, Option.bind_some]
        refine Ev.bind (spec_num_ev s (by omega) p1 true (by omega) (by omega)) ?_
        simp only [numB_bad]
        refine Ev.bind (spec_num_ev s (by omega) p1 true (by omega) (by omega)) ?_
        simp only [numB_bad]
        exact spec_rec_bad s (by omega) _ _ p1 (by omega) (by omega) _ _ _ _ _ _ (by simp)
    · obtain ⟨p2, hp2⟩ : ∃ q : Int, q = p1 + 1 := ⟨_, rfl⟩
      rw [← hp2] at h1 ht1
      rcases oneB_cases s p2 (by omega) (by omega) with h2 | ⟨c, h2, c0, c1, hl2, ht2⟩
      · refine ⟨zRec, ?_, ?_, by simp [zRec]⟩
        · simp only [impl_one_eq s (by omega) 0 false (by omega) (by omega), impl_one_eq s (by omega) p1 false (by omega) (by omega), impl_one_eq s (by omega) p2 false (by omega) (by omega), h0, h1, h2, impl_one_eq s (by omega) p2 true (by omega) (by omega), oneB_bad, Option.bind_some]
          refine Ev.bind (impl_num_ev s (by omega) p2 true (by omega) (by omega)) ?_
          simp only [numB_bad]
          refine Ev.bind (impl_num_ev s (by omega) p2 true (by omega) (by omega)) ?_
          simp only [numB_bad]
          exact impl_rec_bad s (by omega) _ p2 (by omega) (by omega) _ _ _ _ _ _
        · simp only [spec_one_eq s (by omega) 0 false (by omega) (by omega), spec_one_eq s (by omega) p1 false (by omega) (by omega), spec_one_eq s (by omega) p2 false (by omega) (by omega), h0, h1, h2, spec_one_eq s (by omega) p2 true (by omega) (by omega), oneB_bad, Option.bind_some]
          refine Ev.bind (spec_num_ev s (by omega) p2 true (by omega) (by omega)) ?_
          simp only [numB_bad]
          refine Ev.bind (spec_num_ev s (by omega) p2 true (by omega) (by omega)) ?_
          simp only [numB_bad]
          exact spec_rec_bad s (by omega) _ _ p2 (by omega) (by omega) _ _ _ _ _ _ (by simp)
      · obtain ⟨p3, hp3⟩ : ∃ q : Int, q = p2 + 1 := ⟨_, rfl⟩
        rw [← hp3] at h2 ht2
        rcases oneB_cases s p3 (by omega) (by omega) with h3 | ⟨d, h3, d0, d1, hl3, ht3⟩
        · refine ⟨zRec, ?_, ?_, by simp [zRec]⟩
          · simp only [impl_one_eq s (by omega) 0 false (by omega) (by omega), impl_one_eq s (by omega) p1 false (by omega) (by omega), impl_one_eq s (by omega) p2 false (by omega) (by omega), impl_one_eq s (by omega) p3 false (by omega) (by omega), h0, h1, h2, h3, impl_one_eq s (by omega) p3 true (by omega) (by omega), oneB_bad, Option.bind_some]
            refine Ev.bind (impl_num_ev s (by omega) p3 true (by omega) (by omega)) ?_
            simp only [numB_bad]
            refine Ev.bind (impl_num_ev s (by omega) p3 true (by omega) (by omega)) ?_
            simp only [numB_bad]
            exact impl_rec_bad s (by omega) _ p3 (by omega) (by omega) _ _ _ _ _ _
          · simp only [spec_one_eq s (by omega) 0 false (by omega) (by omega), spec_one_eq s (by omega) p1 false (by omega) (by omega), spec_one_eq s (by omega) p2 false (by omega) (by omega), spec_one_eq s (by omega) p3 false (by omega) (by omega), h0, h1, h2, h3, spec_one_eq s (by omega) p3 true (by omega) (by omega), oneB_bad, Option.bind_some]
            refine Ev.bind (spec_num_ev s (by omega) p3 true (by omega) (by omega)) ?_
            simp only [numB_bad]
            refine Ev.bind (spec_num_ev s (by omega) p3 true (by omega) (by omega)) ?_
            simp only [numB_bad]
            exact spec_rec_bad s (by omega) _ _ p3 (by omega) (by omega) _ _ _ _ _ _ (by simp)
        · obtain ⟨p4, hp4⟩ : ∃ q : Int, q = p3 + 1 := ⟨_, rfl⟩
          rw [← hp4] at h3 ht3
          rcases numB_cases s p4 (by omega) (by omega) with h4 | ⟨e, p5, h4, e0, e1, hl4, hm4, ht4⟩
          · refine ⟨zRec, ?_, ?_, by simp [zRec]⟩
            · simp only [impl_one_eq s (by omega) 0 false (by omega) (by omega), impl_one_eq s (by omega) p1 false (by omega) (by omega), impl_one_eq s (by omega) p2 false (by omega) (by omega), impl_one_eq s (by omega) p3 false (by omega) (by omega), h0, h1, h2, h3, Option.bind_some]
              refine Ev.bind (impl_num_ev s (by omega) p4 false (by omega) (by omega)) ?_
              simp only [h4]
              refine Ev.bind (impl_num_ev s (by omega) p4 true (by omega) (by omega)) ?_
              simp only [numB_bad]
              exact impl_rec_bad s (by omega) _ p4 (by omega) (by omega) _ _ _ _ _ _
            · simp only [spec_one_eq s (by omega) 0 false (by omega) (by omega), spec_one_eq s (by omega) p1 false (by omega) (by omega), spec_one_eq s (by omega) p2 false (by omega) (by omega), spec_one_eq s (by omega) p3 false (by omega) (by omega), h0, h1, h2, h3, Option.bind_some]
              refine Ev.bind (spec_num_ev s (by omega) p4 false (by omega) (by omega)) ?_
              simp only [h4]
              refine Ev.bind (spec_num_ev s (by omega) p4 true (by omega) (by omega)) ?_
              simp only [numB_bad]
              exact spec_rec_bad s (by omega) _ _ p4 (by omega) (by omega) _ _ _ _ _ _ (by simp)
          · skip
            rcases numB_cases s p5 (by omega) (by omega) with h5 | ⟨n, p6, h5, n0, n1, hl5, hm5, ht5⟩
            · refine ⟨zRec, ?_, ?_, by simp [zRec]⟩
              · simp only [impl_one_eq s (by omega) 0 false (by omega) (by omega), impl_one_eq s (by omega) p1 false (by omega) (by omega), impl_one_eq s (by omega) p2 false (by omega) (by omega), impl_one_eq s (by omega) p3 false (by omega) (by omega), h0, h1, h2, h3, Option.bind_some]
                refine Ev.bind (impl_num_ev s (by omega) p4 false (by omega) (by omega)) ?_
                simp only [h4]
                refine Ev.bind (impl_num_ev s (by omega) p5 false (by omega) (by omega)) ?_
                simp only [h5]
                exact impl_rec_bad s (by omega) _ p5 (by omega) (by omega) _ _ _ _ _ _
              · simp only [spec_one_eq s (by omega) 0 false (by omega) (by omega), spec_one_eq s (by omega) p1 false (by omega) (by omega), spec_one_eq s (by omega) p2 false (by omega) (by omega), spec_one_eq s (by omega) p3 false (by omega) (by omega), h0, h1, h2, h3, Option.bind_some]
                refine Ev.bind (spec_num_ev s (by omega) p4 false (by omega) (by omega)) ?_
                simp only [h4]
                refine Ev.bind (spec_num_ev s (by omega) p5 false (by omega) (by omega)) ?_
                simp only [h5]
                exact spec_rec_bad s (by omega) _ _ p5 (by omega) (by omega) _ _ _ _ _ _ (by simp)
            · have hz : (B s).take (0 : Int).toNat = [] := by rfl
              have hI : (B s).take p6.toNat = [a, b, c, d] ++ varN e ++ varN n ++ nearT ([] : List S63) := by
                rw [ht5, ht4, ht3, ht2, ht1, ht0, hz]; simp [nearT]
              obtain ⟨R, r1, r2, r3⟩ := rec_loop s hs a b c d e n ⟨a0, a1⟩ ⟨b0, b1⟩ ⟨c0, c1⟩ ⟨d0, d1⟩ n0 n1 7 [] p6 (by simp) (by simp; omega) (by omega) (by omega) hI
              refine ⟨R, ?_, ?_, r3⟩
              · simp only [impl_one_eq s (by omega) 0 false (by omega) (by omega), impl_one_eq s (by omega) p1 false (by omega) (by omega), impl_one_eq s (by omega) p2 false (by omega) (by omega), impl_one_eq s (by omega) p3 false (by omega) (by omega), h0, h1, h2, h3, Option.bind_some]
                refine Ev.bind (impl_num_ev s (by omega) p4 false (by omega) (by omega)) ?_
                simp only [h4]
                refine Ev.bind (impl_num_ev s (by omega) p5 false (by omega) (by omega)) ?_
                simp only [h5]
                have eq0 : n - ((List.length ([] : List S63) : Nat) : Int) = n := by simp
                rw [eq0] at r1
                exact r1
              · simp only [spec_one_eq s (by omega) 0 false (by omega) (by omega), spec_one_eq s (by omega) p1 false (by omega) (by omega), spec_one_eq s (by omega) p2 false (by omega) (by omega), spec_one_eq s (by omega) p3 false (by omega) (by omega), h0, h1, h2, h3, Option.bind_some]
                refine Ev.bind (spec_num_ev s (by omega) p4 false (by omega) (by omega)) ?_
                simp only [h4]
                refine Ev.bind (spec_num_ev s (by omega) p5 false (by omega) (by omega)) ?_
                simp only [h5]
                exact r2

theorem laws_eqNear_refl (a b : Int) : laws_eqNear.f a b a b = some true := by
  unfold laws_eqNear.f
  simp
theorem laws_eqNearS_l0_ev (l : List S63) (hl : l.length ≤ 9223372036854775807) (d : Nat) : ∀ i : Nat, i + d = l.length → Ev (fun k => laws_eqNearS.l0 k l l i) true := by
  induction d with
  | zero =>
    intro i hi
    apply ev_succ
    simp only [laws_eqNearS.l0]
    exact ev_neg (by omega) (Ev.now _)
  | succ d ih =>
    intro i hi
    apply ev_succ
    simp only [laws_eqNearS.l0, laws_eqNear_refl, if_true, Option.bind_some]
    rw [w64 (by omega) (by omega)]
    exact ev_pos (by omega) (ev_pos (by omega) (ev_pos (by omega) (ih (i + 1) (by omega))))
theorem laws_eqNearS_refl (l : List S63) (hl : l.length ≤ 9223372036854775807) : Ev (fun k => laws_eqNearS.f k l l) true := by
  unfold laws_eqNearS.f
  exact ev_pos rfl (laws_eqNearS_l0_ev l hl l.length 0 (by omega))

theorem laws_eqRecord_refl (a b c d e : Int) (l : List S63) (f : Int) (g : Bool) (hl : l.length ≤ 9223372036854775807) : Ev (fun k => laws_eqRecord.f k a b c d e l f g a b c d e l f g) true := by
  unfold laws_eqRecord.f
  simp only [if_true]
  refine Ev.bind (laws_eqNearS_refl l hl) ?_
  simp
  exact Ev.now _

/-- What is near, marked from m on. -/
def markN : List S63 → Int → List S63
  | [], _ => []
  | _ :: xs, m => ⟨m, m + 1⟩ :: markN xs (m + 2)
theorem rd_mid {α : Type} (p : List α) (x z : α) (r : List α) (i : Nat) (h : p.length = i) : (p ++ x :: r).getD i z = x := by
  subst h
  simp
theorem laws_markNearS_l0 (xs : List S63) : ∀ (p : List S63) (m : Int) (i : Nat), p.length = i → 0 ≤ m → m + 2 * (xs.length : Int) ≤ 4611686018427387904 → (i : Int) + xs.length ≤ 4611686018427387904 →
    Ev (fun k => laws_markNearS.l0 k (p ++ xs) m i) (m + 2 * (xs.length : Int), p ++ markN xs m) := by
  induction xs with
  | nil =>
    intro p m i hp h0 h1 h2
    apply ev_succ
    simp only [laws_markNearS.l0]
    exact ev_neg (by simp; omega) (ev_some (by simp [markN]))
  | cons x xs ih =>
    intro p m i hp h0 h1 h2
    simp only [List.length_cons] at h1 h2
    have hr := ih (p ++ [⟨m, m + 1⟩]) (m + 2) (i + 1) (by simp [hp]) (by omega) (by omega) (by omega)
    apply ev_succ
    simp only [laws_markNearS.l0, Option.bind_some]
    refine ev_pos (by simp; omega) (ev_pos (by omega) ?_)
    rw [w64 (x := m + 1) (by omega) (by omega), w64 (x := m + 1 + 1) (by omega) (by omega), w64 (x := (i : Int) + 1) (by omega) (by omega), Int.toNat_natCast, set_mid _ _ _ _ i hp, set_mid _ _ _ _ i hp]
    have hrd : rd_T63 (p ++ (⟨m, (rd_T63 (p ++ x :: xs) (i : Int)).f1⟩ : S63) :: xs) (i : Int) = ⟨m, (rd_T63 (p ++ x :: xs) (i : Int)).f1⟩ := rd_mid p _ _ xs i hp
    rw [hrd, show m + 1 + 1 = m + 2 by omega]
    have e : p ++ [(⟨m, m + 1⟩ : S63)] ++ xs = p ++ (⟨m, m + 1⟩ : S63) :: xs := by simp
    rw [e] at hr
    refine ev_to hr ?_
    simp only [markN, List.append_assoc, List.cons_append, List.nil_append, List.length_cons, Prod.mk.injEq, and_true]
    push_cast
    omega
theorem laws_markNearS_ev (l : List S63) (m : Int) (h0 : 0 ≤ m) (h1 : m + 2 * (l.length : Int) ≤ 4611686018427387904) :
    Ev (fun k => laws_markNearS.f k l m) (m + 2 * (l.length : Int), markN l m) := laws_markNearS_l0 l [] m 0 rfl h0 h1 (by omega)
theorem laws_heldNearS_l0 (xs : List S63) : ∀ (p : List S63) (m : Int) (i : Nat), p.length = i → 0 ≤ m → m + 2 * (xs.length : Int) ≤ 4611686018427387904 → (i : Int) + xs.length ≤ 4611686018427387904 →
    Ev (fun k => laws_heldNearS.l0 k (p ++ markN xs m) m i) (m + 2 * (xs.length : Int)) := by
  induction xs with
  | nil =>
    intro p m i hp h0 h1 h2
    apply ev_succ
    simp only [laws_heldNearS.l0]
    exact ev_neg (by simp [markN]; omega) (ev_some (by simp))
  | cons x xs ih =>
    intro p m i hp h0 h1 h2
    simp only [List.length_cons] at h1 h2
    have hr := ih (p ++ [⟨m, m + 1⟩]) (m + 2) (i + 1) (by simp [hp]) (by omega) (by omega) (by omega)
    have hrd : rd_T63 (p ++ (⟨m, m + 1⟩ : S63) :: markN xs (m + 2)) (i : Int) = ⟨m, m + 1⟩ := rd_mid p _ _ _ i hp
    apply ev_succ
    simp only [laws_heldNearS.l0, markN, hrd]
    refine ev_pos (by simp; omega) (ev_pos (by omega) (ev_pos (by trivial) ?_))
    rw [w64 (x := m + 1) (by omega) (by omega), w64 (x := m + 1 + 1) (by omega) (by omega), w64 (x := (i : Int) + 1) (by omega) (by omega), show m + 1 + 1 = m + 2 by omega]
    have e : p ++ [(⟨m, m + 1⟩ : S63)] ++ markN xs (m + 2) = p ++ (⟨m, m + 1⟩ : S63) :: markN xs (m + 2) := by simp
    rw [e] at hr
    refine ev_pos rfl (ev_to hr ?_)
    simp only [List.length_cons]
    push_cast
    omega
theorem laws_heldNearS_ev (l : List S63) (m : Int) (h0 : 0 ≤ m) (h1 : m + 2 * (l.length : Int) ≤ 4611686018427387904) :
    Ev (fun k => laws_heldNearS.f k (markN l m) m) (m + 2 * (l.length : Int)) := laws_heldNearS_l0 l [] m 0 rfl h0 h1 (by omega)

theorem FnExactReadRecord : laws_FnExactReadRecord.Pure := by
  intro s hs
  refine ev_ex ?_
  unfold laws_FnExactReadRecord.f
  refine ev_ite (fun _ => Ev.now _) (fun hsz => ?_)
  obtain ⟨R, h1, h2, h3⟩ := readrec_ev s (by omega)
  obtain ⟨a, b, c, d, e, l, co, fa, ok⟩ := R
  simp only at h3
  have E := laws_eqRecord_refl a b c d e l co fa (by omega)
  have hm : Ev (fun k => laws_markRecord.f k a b c d e l co fa 1) (1 + 2 * (l.length : Int), markN l 1) := Ev.bind (laws_markNearS_ev l 1 (by omega) (by omega)) (Ev.now _)
  have hh : Ev (fun k => laws_heldRecord.f k a b c d e (markN l 1) co fa 1) (1 + 2 * (l.length : Int)) := Ev.bind (laws_heldNearS_ev l 1 (by omega) (by omega)) (ev_neg (by omega) (Ev.now _))
  refine Ev.bind h2 (Ev.bind h1 (Ev.bind E (ev_pos rfl (ev_succ ?_))))
  simp only [laws_FnExactReadRecord.j0]
  refine ev_neg (by simp) (Ev.bind hm (Ev.bind hh (ev_neg (by omega) (ev_pos rfl (Ev.bind h1 (Ev.bind E (ev_pos rfl (ev_succ ?_))))))))
  simp only [laws_FnExactReadRecord.j1]
  exact ev_neg (by simp) (Ev.bind hh (ev_neg (by omega) (ev_pos rfl (Ev.now _))))

end Go.Proofs.Ytnecbkognpponaa.Pure
