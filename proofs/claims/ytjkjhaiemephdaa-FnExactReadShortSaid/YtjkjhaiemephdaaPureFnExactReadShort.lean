/- Proved: for every text and place that the row lets in, the law FnExactReadShort returns true; there are no other conditions. -/
import Derived.Test.YtjkjhaiemephdaaPFnExactReadShortx2
set_option linter.unusedVariables false
set_option linter.unusedSimpArgs false
namespace Go.Proofs.Ytjkjhaiemephdaa.Pure
open Go.RowKit Go.Proofs.Ytjkjhaiemephdaa.PFnExactReadShort Go.Proofs.YtjkjhaiemephdaaW.PrintWords Go.Proofs.YtjkjhaiemephdaaW.PrintLast

-- base
theorem w64 {x : Int} (h0 : -9223372036854775808 ≤ x) (h1 : x ≤ 9223372036854775807) : wrap64 x = x := by unfold wrap64; omega
theorem bt_b (s : ByteArray) (i : Int) : 0 ≤ bt s i ∧ bt s i < 256 := by have := bt_range s i; omega
theorem wbt (s : ByteArray) (i : Int) : wrap64 (bt s i) = bt s i := by have := bt_range s i; exact w64 (by omega) (by omega)
theorem tmodp {x m : Int} (h : 0 ≤ x) : Int.tmod x m = x % m := Int.tmod_eq_emod_of_nonneg h
theorem tdivp {x m : Int} (h : 0 ≤ x) : Int.tdiv x m = x / m := Int.tdiv_eq_ediv_of_nonneg h
/-- The bytes of a text, as numbers. -/
def B (s : ByteArray) : List Int := s.data.toList.map fun u => (u.toNat : Int)
def Byt (xs : List Int) : Prop := ∀ x ∈ xs, 0 ≤ x ∧ x < 256
theorem B_len (s : ByteArray) : (B s).length = s.size := by simp [B]
theorem B_byt (s : ByteArray) : Byt (B s) := by
  intro x hx
  obtain ⟨u, _, rfl⟩ := List.mem_map.1 hx
  have := u.toNat_lt
  omega
theorem B_str (xs : List Int) (h : Byt xs) : B (strOfNums xs) = xs := by
  simp only [B, strOfNums, List.map_map]
  conv => rhs; rw [← List.map_id xs]
  apply List.map_congr_left
  intro x hx
  have := h x hx
  simp only [Function.comp, UInt8.toNat_ofNat', id]
  omega
theorem str_B (s : ByteArray) : strOfNums (B s) = s := by
  apply Go.WideShapes.bytes_inj
  simp only [B, strOfNums, List.map_map]
  conv => rhs; rw [← List.map_id s.data.toList]
  apply List.map_congr_left
  intro x hx
  simp [Function.comp]
theorem B_inj {s t : ByteArray} (h : B s = B t) : s = t := by rw [← str_B s, ← str_B t, h]
theorem B_append (s t : ByteArray) : B (s ++ t) = B s ++ B t := by simp [B, ByteArray.data_append]
theorem B_extract (s : ByteArray) (a b : Nat) : B (s.extract a b) = ((B s).take b).drop a := by
  simp only [B, ByteArray.data_extract, Array.toList_extract, List.extract_eq_take_drop]
  rw [← List.map_take, ← List.map_drop, List.drop_take]
theorem B_bt (s : ByteArray) (i : Nat) (h : i < s.size) : (B s)[i]? = some (bt s i) := by
  have h' : i < s.data.toList.length := by rw [Array.length_toList]; exact h
  rw [B, List.getElem?_map, List.getElem?_eq_getElem h']
  simp [bt, h, ByteArray.getElem_eq_getElem_data]
theorem B_nil : B (⟨#[]⟩ : ByteArray) = [] := rfl
theorem tl_iff (s t : ByteArray) : s.toList = t.toList ↔ B s = B t := by
  rw [ByteArray.toList_eq, ByteArray.toList_eq]
  constructor
  · intro h; simp [B, h]
  · intro h; rw [B_inj h]
theorem byt_app {xs ys : List Int} (h : Byt xs) (k : Byt ys) : Byt (xs ++ ys) := by
  intro x hx
  rcases List.mem_append.1 hx with hx | hx
  · exact h x hx
  · exact k x hx
theorem wf_u32 {x : Int} (h : (Lit.int .u32 x).wf = true) : 0 ≤ x ∧ x < 4294967296 := by
  simp only [Lit.wf, IntKind.min, IntKind.max, IntKind.signed, IntKind.bits, Bool.and_eq_true, decide_eq_true_eq] at h
  simp at h
  omega
theorem wf_i64 {x : Int} (h : (Lit.int .i64 x).wf = true) : -9223372036854775808 ≤ x ∧ x ≤ 9223372036854775807 := by
  simp only [Lit.wf, IntKind.min, IntKind.max, IntKind.signed, IntKind.bits, Bool.and_eq_true, decide_eq_true_eq] at h
  simp at h
  omega
theorem ev_ex {α : Type} {g : Nat → Option α} {r : α} (h : Ev g r) : ∃ k, g k = some r := h.rounds

-- var
/-- A number in bytes, of seven bits each. -/
def varL : Nat → Int → List Int
  | 0, n => [n % 256]
  | d + 1, n => if n > 127 then (n % 128 + 128) :: varL d (n / 128) else [n % 256]
theorem varL_byt (d : Nat) : ∀ n, Byt (varL d n) := by
  induction d with
  | zero => intro n x hx; rw [varL, List.mem_singleton] at hx; omega
  | succ d ih =>
    intro n x hx
    rw [varL] at hx
    split at hx
    · rcases List.mem_cons.1 hx with rfl | hx
      · omega
      · exact ih _ x hx
    · rw [List.mem_singleton] at hx; omega
theorem varL_len (d : Nat) : ∀ n, 0 < (varL d n).length ∧ (varL d n).length ≤ d + 1 := by
  induction d with
  | zero => intro n; simp [varL]
  | succ d ih =>
    intro n
    rw [varL]
    split
    · have := ih (n / 128); simp only [List.length_cons]; omega
    · simp
def varN (n : Int) : List Int := varL 9 n
theorem varN_byt (n : Int) : Byt (varN n) := varL_byt 9 n
theorem varN_len (n : Int) : 0 < (varN n).length ∧ (varN n).length ≤ 10 := varL_len 9 n

-- sum
def U32 (x : Int) : Prop := 0 ≤ x ∧ x < 4294967296
theorem u32_bits (o : BinOp) (x y : Int) : U32 (Go.bits o .u32 x y) := by
  unfold Go.bits
  simp only [Go.IntKind.wrap_u32]
  unfold U32
  omega
theorem u32_and1 {x : Int} (h : U32 x) : Go.bits .and .u32 x 1 = x % 2 :=
  Go.bits_mask .u32 32 (by decide) (fun n h0 h1 => by rw [Go.IntKind.wrap_u32]; omega) 1 (by decide) x h.1 h.2
/-- One bit of the sum. -/
def crc1 (x : Int) : Int := if x % 2 = 1 then Go.bits .xor .u32 (x / 2) 3558460437 else x / 2
theorem crc1_u32 {x : Int} (h : U32 x) : U32 (crc1 x) := by
  unfold crc1
  split
  · exact u32_bits _ _ _
  · unfold U32 at *; omega
def crcN : Nat → Int → Int
  | 0, x => x
  | n + 1, x => crcN n (crc1 x)
theorem crcN_u32 (n : Nat) : ∀ {x : Int}, U32 x → U32 (crcN n x) := by
  induction n with
  | zero => intro x h; exact h
  | succ n ih => intro x h; exact ih (crc1_u32 h)
/-- One byte of the sum. -/
def crcB (x b : Int) : Int := crcN 8 (Go.bits .xor .u32 x b)
theorem crcB_u32 (x b : Int) : U32 (crcB x b) := crcN_u32 8 (u32_bits _ _ _)
/-- The sum of bytes. -/
def crcS : List Int → Int → Int
  | [], x => x
  | b :: bs, x => crcS bs (crcB x b)
theorem crcS_u32 (bs : List Int) : ∀ {x : Int}, U32 x → U32 (crcS bs x) := by
  induction bs with
  | nil => intro x h; exact h
  | cons b bs ih => intro x h; exact ih (crcB_u32 x b)
theorem B_drop (s : ByteArray) (i : Nat) (h : i < s.size) : (B s).drop i = bt s i :: (B s).drop (i + 1) := by
  have hl : i < (B s).length := by rw [B_len]; exact h
  rw [List.drop_eq_getElem_cons hl]
  have h1 := B_bt s i h
  rw [List.getElem?_eq_getElem hl] at h1
  rw [Option.some.inj h1]
theorem B_dropAll (s : ByteArray) (i : Nat) (h : s.size ≤ i) : (B s).drop i = [] := List.drop_eq_nil_of_le (by rw [B_len]; exact h)
theorem u32_mod {b : Int} (h : 0 ≤ b ∧ b < 256) : b % 4294967296 = b := by omega

-- evtools
theorem ev_ite {α : Type} {c : Prop} [Decidable c] {g f : Nat → Option α} {r : α} (h : c → Ev g r) (k : ¬ c → Ev f r) : Ev (fun n => if c then g n else f n) r := by
  by_cases hc : c
  · exact Ev.congr (fun n => by rw [if_pos hc]) (h hc)
  · exact Ev.congr (fun n => by rw [if_neg hc]) (k hc)
theorem ev_pos {α : Type} {c : Prop} [Decidable c] {g f : Nat → Option α} {r : α} (hc : c) (h : Ev g r) : Ev (fun n => if c then g n else f n) r := Ev.congr (fun n => by rw [if_pos hc]) h
theorem ev_neg {α : Type} {c : Prop} [Decidable c] {g f : Nat → Option α} {r : α} (hc : ¬ c) (h : Ev f r) : Ev (fun n => if c then g n else f n) r := Ev.congr (fun n => by rw [if_neg hc]) h
theorem ev_some {α : Type} {x r : α} (h : x = r) : Ev (fun _ => some x) r := by rw [h]; exact Ev.now _
theorem ev_eq {α : Type} {x : Option α} {r : α} (h : x = some r) : Ev (fun _ => x) r := by rw [h]; exact Ev.now _
theorem ev_succ {α : Type} {g : Nat → Option α} {r : α} (h : Ev (fun k => g (k + 1)) r) : Ev g r := Ev.step (fun _ => rfl) h
theorem ev_to {α : Type} {g : Nat → Option α} {r r' : α} (h : Ev g r) (e : r = r') : Ev g r' := e ▸ h

-- readvar
def valL : List Int → Int
  | [] => 0
  | b :: bs => b % 128 + 128 * valL bs
theorem valL_bd (bs : List Int) : 0 ≤ valL bs ∧ valL bs < 128 ^ bs.length := by
  induction bs with
  | nil => simp [valL]
  | cons b bs ih =>
    simp only [valL, List.length_cons, Int.pow_succ]
    omega
theorem valL_snoc (bs : List Int) (b : Int) : valL (bs ++ [b]) = valL bs + b % 128 * 128 ^ bs.length := by
  induction bs with
  | nil => simp [valL]
  | cons c bs ih =>
    simp only [List.cons_append, valL, ih, List.length_cons, Int.pow_succ]
    generalize (128 : Int) ^ bs.length = p
    generalize b % 128 = q
    have e : q * (p * 128) = 128 * (q * p) := by rw [← Int.mul_assoc, Int.mul_comm]
    omega
theorem pw_bd (j : Nat) (h : j ≤ 5) : 1 ≤ (128 : Int) ^ j ∧ (128 : Int) ^ j ≤ 34359738368 := by
  have h' : ∀ n : Fin 6, 1 ≤ (128 : Int) ^ n.val ∧ (128 : Int) ^ n.val ≤ 34359738368 := by decide
  exact h' ⟨j, by omega⟩
/-- A number is told by its bytes alone, the last of them not 0 behind others. -/
theorem varL_val (pre : List Int) : ∀ (d : Nat) (b : Int), (∀ x ∈ pre, 128 ≤ x ∧ x < 256) → 0 ≤ b → b < 128 → pre.length ≤ d →
    (varL d (valL (pre ++ [b])) = pre ++ [b] ↔ ¬ (b = 0 ∧ pre ≠ [])) := by
  induction pre with
  | nil =>
    intro d b _ h0 h1 _
    have hb : b % 128 = b := by omega
    simp only [List.nil_append, valL, hb]
    constructor
    · intro _ h; exact h.2 rfl
    · intro _
      cases d with
      | zero => simp only [varL]; congr 1; omega
      | succ d => simp only [varL]; rw [if_neg (by omega)]; congr 1; omega
  | cons c pre ih =>
    intro d b hp h0 h1 hl
    obtain ⟨d, rfl⟩ : ∃ m, d = m + 1 := ⟨d - 1, by simp only [List.length_cons] at hl; omega⟩
    have hc := hp c List.mem_cons_self
    have hi := ih d b (fun x hx => hp x (List.mem_cons_of_mem _ hx)) h0 h1 (by simp only [List.length_cons] at hl; omega)
    have hv := valL_bd (pre ++ [b])
    simp only [List.cons_append, valL]
    generalize hq : valL (pre ++ [b]) = q at hi hv ⊢
    simp only [varL]
    by_cases hq0 : q = 0
    · have hb0 : b = 0 := by
        rw [valL_snoc] at hq
        have h2 := valL_bd pre
        have h3 : 0 < (128 : Int) ^ pre.length := Int.pow_pos (by decide)
        have h4 : 0 ≤ b % 128 * 128 ^ pre.length := Int.mul_nonneg (by omega) (Int.le_of_lt h3)
        have h5 : b % 128 * 128 ^ pre.length = 0 := by omega
        rcases Int.mul_eq_zero.1 h5 with h6 | h6
        · omega
        · omega
      rw [if_neg (by omega)]
      constructor
      · intro h
        have := congrArg List.length h
        simp at this
      · intro h
        exact absurd ⟨hb0, by simp⟩ h
    · rw [if_pos (by omega), show (c % 128 + 128 * q) % 128 + 128 = c by omega, show (c % 128 + 128 * q) / 128 = q by omega, List.cons.injEq]
      constructor
      · rintro ⟨_, h⟩ ⟨hb0, _⟩
        have h2 := hi.1 h
        by_cases hpn : pre = []
        · subst hpn
          simp only [List.nil_append, valL, hb0] at hq
          omega
        · exact h2 ⟨hb0, hpn⟩
      · intro h
        exact ⟨rfl, hi.2 (fun h2 => h ⟨h2.1, by simp⟩)⟩
/-- Reading a number: what is read is n, the place i. -/
def rvM (a : Nat) : Nat → List Int → Int → Int → Nat → Int × Int × Bool
  | 0, _, _, _, _ => (0, 0, false)
  | _ + 1, [], _, _, _ => (0, 0, false)
  | f + 1, b :: bs, n, u, i => if b < 128 then (if (b = 0 ∧ a < i) ∨ n + b % 128 * u > 1000000000 then (0, 0, false) else (n + b % 128 * u, (i : Int) + 1, true)) else rvM a f bs (n + b % 128 * u) (u * 128) (i + 1)
def rvB (s : ByteArray) (a : Nat) : Int × Int × Bool := rvM a 5 ((B s).drop a) 0 1 a
/-- What was read till place i. -/
def preB (s : ByteArray) (a i : Nat) : List Int := ((B s).take i).drop a
theorem preB_nil (s : ByteArray) (a : Nat) : preB s a a = [] := List.drop_eq_nil_of_le (by rw [List.length_take]; omega)
theorem preB_len (s : ByteArray) (a i : Nat) (hi : i ≤ s.size) : (preB s a i).length = i - a := by
  simp only [preB, List.length_drop, List.length_take, B_len]; omega
theorem preB_snoc (s : ByteArray) (a i : Nat) (ha : a ≤ i) (hi : i < s.size) : preB s a (i + 1) = preB s a i ++ [bt s i] := by
  have hl : i < (B s).length := by rw [B_len]; exact hi
  have h1 := B_bt s i hi
  rw [List.getElem?_eq_getElem hl] at h1
  unfold preB
  rw [List.take_succ_eq_append_getElem hl, List.drop_append_of_le_length (by rw [List.length_take]; omega), Option.some.inj h1]

-- rvprop
theorem rvM_ok (a : Nat) (f : Nat) : ∀ (L : List Int) (n u : Int) (i : Nat) (m j : Int), 0 ≤ n → 0 ≤ u → rvM a f L n u i = (m, j, true) → 0 ≤ m ∧ m ≤ 1000000000 ∧ (i : Int) < j ∧ j ≤ i + L.length := by
  induction f with
  | zero => intro L n u i m j _ _ h; simp [rvM] at h
  | succ f ih =>
    intro L n u i m j hn hu h
    cases L with
    | nil => simp [rvM] at h
    | cons b bs =>
      have hp : 0 ≤ b % 128 * u := Int.mul_nonneg (by omega) hu
      rw [rvM] at h
      by_cases hb : b < 128
      · rw [if_pos hb] at h
        split at h
        · simp at h
        · rename_i hc
          simp only [Prod.mk.injEq, and_true] at h
          simp only [List.length_cons]
          omega
      · rw [if_neg hb] at h
        have := ih bs (n + b % 128 * u) (u * 128) (i + 1) m j (by omega) (by omega) h
        simp only [List.length_cons]
        omega
theorem rvM_no (a : Nat) (f : Nat) : ∀ (L : List Int) (n u : Int) (i : Nat) (m j : Int), rvM a f L n u i = (m, j, false) → m = 0 ∧ j = 0 := by
  induction f with
  | zero => intro L n u i m j h; simp [rvM] at h; omega
  | succ f ih =>
    intro L n u i m j h
    cases L with
    | nil => simp [rvM] at h; omega
    | cons b bs =>
      rw [rvM] at h
      by_cases hb : b < 128
      · rw [if_pos hb] at h
        split at h
        · simp at h; omega
        · simp at h
      · rw [if_neg hb] at h
        exact ih _ _ _ _ _ _ h
theorem rvB_ok (s : ByteArray) (a : Nat) (ha : a ≤ s.size) {m j : Int} (h : rvB s a = (m, j, true)) : 0 ≤ m ∧ m ≤ 1000000000 ∧ (a : Int) < j ∧ j ≤ s.size := by
  have := rvM_ok a 5 _ 0 1 a m j (by omega) (by omega) h
  rw [List.length_drop, B_len] at this
  omega

-- short
/-- A text with its length, read. -/
def shortB (s : ByteArray) (v : Int × Int × Bool) : ByteArray × Int × Bool :=
  if v.2.2 = true then (if v.1 > 20000 then (⟨#[]⟩, 0, false) else if v.1 > (s.size : Int) - v.2.1 then (⟨#[]⟩, 0, false) else (s.extract v.2.1.toNat (v.2.1 + v.1).toNat, v.2.1 + v.1, true)) else (⟨#[]⟩, 0, false)

-- spec_l01In
theorem spec_l01In_eq (a b c : Int) : spec_l01In.f a b c = some (decide (b ≤ a ∧ a ≤ c)) := by
  unfold spec_l01In.f
  by_cases h : a ≥ b
  · rw [if_pos h]; congr 1; simp; omega
  · rw [if_neg h]; congr 1; simp; omega

-- spec_l01Var
theorem spec_l01Var_l0_ev (d : Nat) : ∀ (n : Int) (acc : List Int), 0 ≤ n → n ≤ 9223372036854775807 → n < 128 ^ (d + 1) → acc.length + d < 1000 →
    Ev (fun k => spec_l01Var.l0 k n acc) (strOfNums (acc ++ varL d n)) := by
  induction d with
  | zero =>
    intro n acc h0 hm h1 hl
    refine Ev.step (f := fun _ => some (strOfNums (acc ++ varL 0 n))) (fun k => ?_) (Ev.now _)
    simp only [spec_l01Var.l0, varL]
    rw [if_neg (by omega), if_pos (by omega)]
  | succ d ih =>
    intro n acc h0 hm h1 hl
    by_cases hn : n > 127
    · have hi := ih (n / 128) (acc ++ [n % 128 + 128]) (by omega) (by omega) (by rw [Int.pow_succ] at h1; omega) (by simp only [List.length_append, List.length_cons, List.length_nil]; omega)
      rw [List.append_assoc, List.singleton_append] at hi
      rw [varL, if_pos hn]
      refine Ev.step (fun k => ?_) hi
      simp only [spec_l01Var.l0]
      rw [if_pos hn, if_pos (by omega), tdivp h0, tmodp h0, w64 (by omega) (by omega), w64 (by omega) (by omega), show (n % 128 + 128) % 256 = n % 128 + 128 by omega]
    · rw [varL, if_neg hn]
      refine Ev.step (f := fun _ => some (strOfNums (acc ++ [n % 256]))) (fun k => ?_) (Ev.now _)
      simp only [spec_l01Var.l0]
      rw [if_neg hn, if_pos (by omega)]
theorem spec_l01Var_ev (n : Int) (h0 : 0 ≤ n) (h1 : n ≤ 9223372036854775807) : Ev (fun k => spec_l01Var.f k n) (strOfNums (varN n)) :=
  spec_l01Var_l0_ev 9 n [] h0 h1 (by omega) (by simp)

-- spec_ReadVar
theorem spec_ReadVar_l0_ev (s : ByteArray) (hs : s.size ≤ 9223372036854775000) (a : Nat) (f : Nat) : ∀ i : Nat, a ≤ i → i - a + f = 5 → i ≤ s.size → (∀ x ∈ preB s a i, 128 ≤ x ∧ x < 256) →
    Ev (fun k => spec_ReadVar.l0 k s a (valL (preB s a i)) (128 ^ (i - a)) i) (rvM a f ((B s).drop i) (valL (preB s a i)) (128 ^ (i - a)) i) := by
  have fail : ∀ (i : Nat) (n u : Int), Ev (fun k => spec_ReadVar.j1 k s a n u i false) (0, 0, false) := by
    intro i n u
    refine Ev.step (f := fun _ => some (0, 0, false)) (fun k => ?_) (Ev.now _)
    simp only [spec_ReadVar.j1]
    rfl
  induction f with
  | zero =>
    intro i ha hf hi _
    rw [rvM]
    refine Ev.step (fun k => ?_) (fail i (valL (preB s a i)) (128 ^ (i - a)))
    simp only [spec_ReadVar.l0]
    by_cases hlt : (i : Int) < s.size
    · rw [if_pos hlt, w64 (by omega) (by omega), decide_eq_false (by omega)]
    · rw [if_neg hlt]
  | succ f ih =>
    intro i ha hf hi hpre
    by_cases hlt : i < s.size
    · have hsn := preB_snoc s a i ha hlt
      have hv := valL_snoc (preB s a i) (bt s i)
      have hlen := preB_len s a i hi
      rw [hlen, ← hsn] at hv
      have hb0 := valL_bd (preB s a i)
      have hb1 := valL_bd (preB s a (i + 1))
      have hl1 := preB_len s a (i + 1) hlt
      have hp0 := pw_bd (i - a) (by omega)
      have hp1 := pw_bd (i + 1 - a) (by omega)
      rw [hlen] at hb0
      rw [hl1] at hb1
      have hbt := bt_b s i
      have hpw : (128 : Int) ^ (i - a) * 128 = 128 ^ (i + 1 - a) := by rw [show i + 1 - a = (i - a) + 1 by omega, Int.pow_succ]
      rw [B_drop s i hlt, rvM]
      have hprod0 : 0 ≤ bt s i % 128 * 128 ^ (i - a) := Int.mul_nonneg (by omega) (by omega)
      have hw1 : wrap64 (bt s i % 128 * 128 ^ (i - a)) = bt s i % 128 * 128 ^ (i - a) := w64 (by omega) (by omega)
      have hw2 : wrap64 (valL (preB s a i) + bt s i % 128 * 128 ^ (i - a)) = valL (preB s a (i + 1)) := by rw [← hv]; exact w64 (by omega) (by omega)
      have hstep : ∀ r, Ev (fun k => spec_ReadVar.j1 k s a (valL (preB s a i)) (128 ^ (i - a)) i true) r → Ev (fun k => spec_ReadVar.l0 k s a (valL (preB s a i)) (128 ^ (i - a)) i) r := by
        intro r h
        refine Ev.step (fun k => ?_) h
        simp only [spec_ReadVar.l0]
        rw [if_pos (by omega), w64 (by omega) (by omega), decide_eq_true (by omega)]
      apply hstep
      rw [← hv]
      by_cases hsm : bt s i < 128
      · rw [if_pos hsm]
        have hiff := varL_val (preB s a i) 9 (bt s i) hpre hbt.1 hsm (by omega)
        rw [← hsn] at hiff
        have hne : preB s a i ≠ [] ↔ a < i := by rw [ne_eq, ← List.length_eq_zero_iff, hlen]; omega
        by_cases hmx : valL (preB s a (i + 1)) > 1000000000
        · rw [if_pos (.inr hmx)]
          refine Ev.step (f := fun _ => some (0, 0, false)) (fun k => ?_) (Ev.now _)
          simp only [spec_ReadVar.j1]
          rw [if_pos trivial, if_pos (by omega), if_pos (by omega), if_pos hsm, wbt, tmodp hbt.1, hw1, hw2, if_pos hmx]
        · have htx : (strOfNums (varN (valL (preB s a (i + 1))))).toList = (s.extract a (i + 1)).toList ↔ ¬ (bt s i = 0 ∧ a < i) := by
            rw [tl_iff, B_str _ (varN_byt _), B_extract]
            show varL 9 (valL (preB s a (i + 1))) = preB s a (i + 1) ↔ _
            rw [hiff, hne]
          have hb := Ev.bind (spec_l01Var_ev (valL (preB s a (i + 1))) hb1.1 (by omega))
            (f := fun _ t => if t.toList = (s.extract a (i + 1)).toList then some (valL (preB s a (i + 1)), (i : Int) + 1, true) else some (0, 0, false))
            (r := if bt s i = 0 ∧ a < i ∨ valL (preB s a (i + 1)) > 1000000000 then (0, 0, false) else (valL (preB s a (i + 1)), (i : Int) + 1, true))
            (by
              by_cases hz : bt s i = 0 ∧ a < i
              · have e : (if bt s i = 0 ∧ a < i ∨ valL (preB s a (i + 1)) > 1000000000 then ((0 : Int), (0 : Int), false) else (valL (preB s a (i + 1)), (i : Int) + 1, true)) = (0, 0, false) := if_pos (.inl hz)
                rw [e]
                exact ev_neg (fun h => (htx.1 h) hz) (Ev.now _)
              · have e : (if bt s i = 0 ∧ a < i ∨ valL (preB s a (i + 1)) > 1000000000 then ((0 : Int), (0 : Int), false) else (valL (preB s a (i + 1)), (i : Int) + 1, true)) = (valL (preB s a (i + 1)), (i : Int) + 1, true) := if_neg (fun h => h.elim hz hmx)
                rw [e]
                exact ev_pos (htx.2 hz) (Ev.now _))
          refine Ev.step (fun k => ?_) hb
          simp only [spec_ReadVar.j1]
          rw [if_pos trivial, if_pos (by omega), if_pos (by omega), if_pos hsm, wbt, tmodp hbt.1, hw1, hw2, if_neg hmx, w64 (x := (i : Int) + 1) (by omega) (by omega)]
          congr 1
          funext t
          rw [if_pos (by omega), if_pos (by omega), if_pos (by omega)]
          rfl
      · have ih' := ih (i + 1) (by omega) (by omega) (by omega) (by
          intro x hx
          rw [hsn] at hx
          rcases List.mem_append.1 hx with hx | hx
          · exact hpre x hx
          · rw [List.mem_singleton.1 hx]; omega)
        rw [if_neg hsm, hpw]
        refine Ev.step (fun k => ?_) ih'
        simp only [spec_ReadVar.j1]
        rw [if_pos trivial, if_pos (by omega), if_pos (by omega), if_neg hsm, wbt, tmodp hbt.1, hw1, hw2, hpw, w64 (x := 128 ^ (i + 1 - a)) (by omega) (by omega), w64 (x := (i : Int) + 1) (by omega) (by omega)]
        rfl
    · rw [B_dropAll s i (by omega), rvM]
      refine Ev.step (fun k => ?_) (fail i (valL (preB s a i)) (128 ^ (i - a)))
      simp only [spec_ReadVar.l0]
      rw [if_neg (by omega)]
theorem spec_ReadVar_yes (s : ByteArray) (hs : s.size ≤ 9223372036854775000) (a : Nat) (ha : a ≤ s.size) : Ev (fun k => spec_ReadVar.f k s a) (rvB s a) := by
  have h := spec_ReadVar_l0_ev s hs a 5 a (Nat.le_refl _) (by omega) ha (by rw [preB_nil]; simp)
  rw [preB_nil, Nat.sub_self] at h
  refine Ev.congr (fun k => ?_) h
  simp only [spec_ReadVar.f, spec_l01In_eq, Option.bind_some]
  rw [if_pos (by simp; omega)]
  rfl
theorem spec_ReadVar_no (s : ByteArray) (a : Int) (ha : ¬ (0 ≤ a ∧ a ≤ s.size)) : Ev (fun k => spec_ReadVar.f k s a) (0, 0, false) := by
  refine Ev.congr (fun k => ?_) (Ev.now _)
  simp only [spec_ReadVar.f, spec_l01In_eq, Option.bind_some]
  rw [if_neg (by simp; omega)]

-- spec_ReadShort
theorem spec_ReadShort_yes (s : ByteArray) (hs : s.size ≤ 9223372036854775000) (a : Nat) (ha : a ≤ s.size) : Ev (fun k => spec_ReadShort.f k s a) (shortB s (rvB s a)) := by
  unfold spec_ReadShort.f
  refine Ev.bind (spec_ReadVar_yes s hs a ha) ?_
  generalize hv : rvB s a = v
  obtain ⟨m, j, o⟩ := v
  cases o with
  | false => exact ev_neg (by simp) (Ev.now _)
  | true =>
    have hb := rvB_ok s a ha hv
    simp only [shortB]
    refine ev_pos trivial ?_
    rw [if_pos trivial, w64 (x := (s.size : Int) - j) (by omega) (by omega)]
    refine ev_ite (fun h1 => ev_some (by rw [if_pos h1])) (fun h1 => ?_)
    rw [if_neg h1]
    refine ev_ite (fun h2 => ev_some (by rw [if_pos h2])) (fun h2 => ?_)
    rw [if_neg h2, w64 (by omega) (by omega)]
    exact ev_pos (by omega) (ev_pos (by omega) (ev_pos (by omega) (Ev.now _)))
theorem spec_ReadShort_no (s : ByteArray) (a : Int) (ha : ¬ (0 ≤ a ∧ a ≤ s.size)) : Ev (fun k => spec_ReadShort.f k s a) (⟨#[]⟩, 0, false) := by
  unfold spec_ReadShort.f
  exact Ev.bind (spec_ReadVar_no s a ha) (ev_neg (by simp) (Ev.now _))

-- impl_in
theorem impl_in_eq (a b c : Int) : impl_in.f a b c = some (decide (b ≤ a ∧ a ≤ c)) := by
  unfold impl_in.f
  by_cases h : a ≥ b
  · rw [if_pos h]; congr 1; simp; omega
  · rw [if_neg h]; congr 1; simp; omega

-- impl_ReadVar
theorem impl_ReadVar_l0_ev (s : ByteArray) (hs : s.size ≤ 9223372036854775000) (a : Nat) (f : Nat) : ∀ i : Nat, a ≤ i → i - a + f = 5 → i ≤ s.size →
    Ev (fun k => impl_ReadVar.l0 k s a (valL (preB s a i)) (128 ^ (i - a)) i) (rvM a f ((B s).drop i) (valL (preB s a i)) (128 ^ (i - a)) i) := by
  have fail : ∀ (i : Nat) (n u : Int), Ev (fun k => impl_ReadVar.j1 k s a n u i false) (0, 0, false) := by
    intro i n u
    refine Ev.step (f := fun _ => some (0, 0, false)) (fun k => ?_) (Ev.now _)
    simp only [impl_ReadVar.j1]
    rfl
  induction f with
  | zero =>
    intro i ha hf hi
    rw [rvM]
    refine Ev.step (fun k => ?_) (fail i (valL (preB s a i)) (128 ^ (i - a)))
    simp only [impl_ReadVar.l0]
    by_cases hlt : (i : Int) < s.size
    · rw [if_pos hlt, w64 (by omega) (by omega), decide_eq_false (by omega)]
    · rw [if_neg hlt]
  | succ f ih =>
    intro i ha hf hi
    by_cases hlt : i < s.size
    · have hsn := preB_snoc s a i ha hlt
      have hv := valL_snoc (preB s a i) (bt s i)
      have hlen := preB_len s a i hi
      rw [hlen, ← hsn] at hv
      have hb0 := valL_bd (preB s a i)
      have hb1 := valL_bd (preB s a (i + 1))
      have hl1 := preB_len s a (i + 1) hlt
      have hp0 := pw_bd (i - a) (by omega)
      have hp1 := pw_bd (i + 1 - a) (by omega)
      rw [hlen] at hb0
      rw [hl1] at hb1
      have hbt := bt_b s i
      have hpw : (128 : Int) ^ (i - a) * 128 = 128 ^ (i + 1 - a) := by rw [show i + 1 - a = (i - a) + 1 by omega, Int.pow_succ]
      have ih' := ih (i + 1) (by omega) (by omega) (by omega)
      rw [B_drop s i hlt, rvM]
      have hprod0 : 0 ≤ bt s i % 128 * 128 ^ (i - a) := Int.mul_nonneg (by omega) (by omega)
      have hw1 : wrap64 (bt s i % 128 * 128 ^ (i - a)) = bt s i % 128 * 128 ^ (i - a) := w64 (by omega) (by omega)
      have hw2 : wrap64 (valL (preB s a i) + bt s i % 128 * 128 ^ (i - a)) = valL (preB s a (i + 1)) := by rw [← hv]; exact w64 (by omega) (by omega)
      have hstep : ∀ r, Ev (fun k => impl_ReadVar.j1 k s a (valL (preB s a i)) (128 ^ (i - a)) i true) r → Ev (fun k => impl_ReadVar.l0 k s a (valL (preB s a i)) (128 ^ (i - a)) i) r := by
        intro r h
        refine Ev.step (fun k => ?_) h
        simp only [impl_ReadVar.l0]
        rw [if_pos (by omega), w64 (by omega) (by omega), decide_eq_true (by omega)]
      apply hstep
      rw [← hv]
      by_cases hsm : bt s i < 128
      · rw [if_pos hsm]
        refine Ev.step (f := fun _ => some (if bt s i = 0 ∧ a < i ∨ valL (preB s a (i + 1)) > 1000000000 then (0, 0, false) else (valL (preB s a (i + 1)), (i : Int) + 1, true))) (fun k => ?_) (Ev.now _)
        simp only [impl_ReadVar.j1]
        rw [if_pos trivial, if_pos (by omega), if_pos (by omega), wbt, if_pos hsm, tmodp hbt.1, hw1, hw2, w64 (x := (i : Int) + 1) (by omega) (by omega)]
        by_cases hz : bt s i = 0
        · rw [if_pos hz]
          by_cases hai : a < i
          · rw [if_pos (by omega), if_pos (.inl ⟨hz, hai⟩)]
          · rw [if_neg (by omega)]
            by_cases hmx : valL (preB s a (i + 1)) > 1000000000
            · rw [if_pos hmx, if_pos (.inr hmx)]
            · rw [if_neg hmx, if_neg (by omega)]
        · rw [if_neg hz]
          by_cases hmx : valL (preB s a (i + 1)) > 1000000000
          · rw [if_pos hmx, if_pos (.inr hmx)]
          · rw [if_neg hmx, if_neg (by omega)]
      · rw [if_neg hsm, hpw]
        refine Ev.step (fun k => ?_) ih'
        simp only [impl_ReadVar.j1]
        rw [if_pos trivial, if_pos (by omega), if_pos (by omega), wbt, if_neg hsm, tmodp hbt.1, hw1, hw2, hpw, w64 (x := 128 ^ (i + 1 - a)) (by omega) (by omega), w64 (x := (i : Int) + 1) (by omega) (by omega)]
        rfl
    · rw [B_dropAll s i (by omega), rvM]
      refine Ev.step (fun k => ?_) (fail i (valL (preB s a i)) (128 ^ (i - a)))
      simp only [impl_ReadVar.l0]
      rw [if_neg (by omega)]
theorem impl_ReadVar_yes (s : ByteArray) (hs : s.size ≤ 9223372036854775000) (a : Nat) (ha : a ≤ s.size) : Ev (fun k => impl_ReadVar.f k s a) (rvB s a) := by
  have h := impl_ReadVar_l0_ev s hs a 5 a (Nat.le_refl _) (by omega) ha
  rw [preB_nil, Nat.sub_self] at h
  refine Ev.congr (fun k => ?_) h
  simp only [impl_ReadVar.f, impl_in_eq, Option.bind_some]
  rw [if_pos (by simp; omega)]
  rfl
theorem impl_ReadVar_no (s : ByteArray) (a : Int) (ha : ¬ (0 ≤ a ∧ a ≤ s.size)) : Ev (fun k => impl_ReadVar.f k s a) (0, 0, false) := by
  refine Ev.congr (fun k => ?_) (Ev.now _)
  simp only [impl_ReadVar.f, impl_in_eq, Option.bind_some]
  rw [if_neg (by simp; omega)]

-- impl_ReadShort
theorem impl_ReadShort_yes (s : ByteArray) (hs : s.size ≤ 9223372036854775000) (a : Nat) (ha : a ≤ s.size) : Ev (fun k => impl_ReadShort.f k s a) (shortB s (rvB s a)) := by
  unfold impl_ReadShort.f
  refine Ev.bind (impl_ReadVar_yes s hs a ha) ?_
  generalize hv : rvB s a = v
  obtain ⟨m, j, o⟩ := v
  cases o with
  | false => exact ev_neg (by simp) (Ev.now _)
  | true =>
    have hb := rvB_ok s a ha hv
    simp only [shortB]
    refine ev_pos trivial ?_
    rw [if_pos trivial, w64 (x := (s.size : Int) - j) (by omega) (by omega)]
    refine ev_ite (fun h1 => ev_some (by rw [if_pos h1])) (fun h1 => ?_)
    rw [if_neg h1]
    refine ev_ite (fun h2 => ev_some (by rw [if_pos h2])) (fun h2 => ?_)
    rw [if_neg h2, w64 (by omega) (by omega)]
    exact ev_pos (by omega) (ev_pos (by omega) (ev_pos (by omega) (Ev.now _)))
theorem impl_ReadShort_no (s : ByteArray) (a : Int) (ha : ¬ (0 ≤ a ∧ a ≤ s.size)) : Ev (fun k => impl_ReadShort.f k s a) (⟨#[]⟩, 0, false) := by
  unfold impl_ReadShort.f
  exact Ev.bind (impl_ReadVar_no s a ha) (ev_neg (by simp) (Ev.now _))

-- FnExactReadShort
theorem FnExactReadShort : laws_FnExactReadShort.Pure := by
  intro s a hs ha
  refine ev_ex ?_
  unfold laws_FnExactReadShort.f
  refine ev_ite (fun _ => Ev.now _) (fun hsz => ?_)
  by_cases h : 0 ≤ a ∧ a ≤ s.size
  · obtain ⟨n, rfl⟩ := Int.eq_ofNat_of_zero_le h.1
    exact Ev.bind (spec_ReadShort_yes s (by omega) n (by omega)) (Ev.bind (impl_ReadShort_yes s (by omega) n (by omega)) (ev_pos rfl (ev_pos rfl (ev_neg (by simp) (Ev.now _)))))
  · exact Ev.bind (spec_ReadShort_no s a h) (Ev.bind (impl_ReadShort_no s a h) (ev_pos rfl (ev_pos rfl (ev_neg (by simp) (Ev.now _)))))

end Go.Proofs.Ytjkjhaiemephdaa.Pure
