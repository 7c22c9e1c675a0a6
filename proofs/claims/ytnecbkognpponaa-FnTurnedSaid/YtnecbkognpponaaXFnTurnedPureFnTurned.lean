import Derived.Test.YtnecbkognpponaaXFnTurnedQlawsFnTurned
/- Proved: the pure statement of the law FnTurned, for every input that its statement lets in. -/

set_option linter.unusedVariables false
set_option linter.unusedSimpArgs false
namespace Go.Proofs.Ytnecbkognpponaa.Pure
open Go.RowKit Go.Proofs.Ytnecbkognpponaa.Q Go.Proofs.YtnecbkognpponaaW.PrintWords Go.Proofs.YtnecbkognpponaaW.PrintLast

theorem w64 {x : Int} (h0 : -9223372036854775808 ≤ x) (h1 : x ≤ 9223372036854775807) : wrap64 x = x := by unfold wrap64; omega
theorem bt_b (s : ByteArray) (i : Int) : 0 ≤ bt s i ∧ bt s i < 256 := by have := bt_range s i; omega
theorem tmodp {x m : Int} (h : 0 ≤ x) : Int.tmod x m = x % m := Int.tmod_eq_emod_of_nonneg h
/-- The bytes of a text, as numbers. -/
def B (s : ByteArray) : List Int := s.data.toList.map fun u => (u.toNat : Int)
def Byt (xs : List Int) : Prop := ∀ x ∈ xs, 0 ≤ x ∧ x < 256
theorem B_len (s : ByteArray) : (B s).length = s.size := by simp [B]
theorem B_byt (s : ByteArray) : Byt (B s) := by
  intro x hx
  obtain ⟨u, _, rfl⟩ := List.mem_map.1 hx
  have := u.toNat_lt
  omega
theorem B_str (xs : List Int) (h : Byt xs) : B (strOfNums xs) = xs := by
  simp only [B, strOfNums, List.map_map]
  conv => rhs; rw [← List.map_id xs]
  apply List.map_congr_left
  intro x hx
  have := h x hx
  simp only [Function.comp, UInt8.toNat_ofNat', id]
  omega
theorem str_B (s : ByteArray) : strOfNums (B s) = s := by
  apply Go.WideShapes.bytes_inj
  simp only [B, strOfNums, List.map_map]
  conv => rhs; rw [← List.map_id s.data.toList]
  apply List.map_congr_left
  intro x hx
  simp [Function.comp]
theorem B_inj {s t : ByteArray} (h : B s = B t) : s = t := by rw [← str_B s, ← str_B t, h]
theorem B_append (s t : ByteArray) : B (s ++ t) = B s ++ B t := by simp [B, ByteArray.data_append]
theorem B_extract (s : ByteArray) (a b : Nat) : B (s.extract a b) = ((B s).take b).drop a := by
  simp only [B, ByteArray.data_extract, Array.toList_extract, List.extract_eq_take_drop]
  rw [← List.map_take, ← List.map_drop, List.drop_take]
theorem B_bt (s : ByteArray) (i : Nat) (h : i < s.size) : (B s)[i]? = some (bt s i) := by
  have h' : i < s.data.toList.length := by rw [Array.length_toList]; exact h
  rw [B, List.getElem?_map, List.getElem?_eq_getElem h']
  simp [bt, h, ByteArray.getElem_eq_getElem_data]
theorem tl_iff (s t : ByteArray) : s.toList = t.toList ↔ B s = B t := by
  rw [ByteArray.toList_eq, ByteArray.toList_eq]
  constructor
  · intro h; simp [B, h]
  · intro h; rw [B_inj h]
theorem byt_app {xs ys : List Int} (h : Byt xs) (k : Byt ys) : Byt (xs ++ ys) := by
  intro x hx
  rcases List.mem_append.1 hx with hx | hx
  · exact h x hx
  · exact k x hx
theorem ev_ex {α : Type} {g : Nat → Option α} {r : α} (h : Ev g r) : ∃ k, g k = some r := h.rounds

def U32 (x : Int) : Prop := 0 ≤ x ∧ x < 4294967296
theorem u32_bits (o : BinOp) (x y : Int) : U32 (Go.bits o .u32 x y) := by
  unfold Go.bits
  simp only [Go.IntKind.wrap_u32]
  unfold U32
  omega
theorem u32_and1 {x : Int} (h : U32 x) : Go.bits .and .u32 x 1 = x % 2 :=
  Go.bits_mask .u32 32 (by decide) (fun n h0 h1 => by rw [Go.IntKind.wrap_u32]; omega) 1 (by decide) x h.1 h.2
/-- One bit of the sum. -/
def crc1 (x : Int) : Int := if x % 2 = 1 then Go.bits .xor .u32 (x / 2) 3558460437 else x / 2
theorem crc1_u32 {x : Int} (h : U32 x) : U32 (crc1 x) := by
  unfold crc1
  split
  · exact u32_bits _ _ _
  · unfold U32 at *; omega
def crcN : Nat → Int → Int
  | 0, x => x
  | n + 1, x => crcN n (crc1 x)
theorem crcN_u32 (n : Nat) : ∀ {x : Int}, U32 x → U32 (crcN n x) := by
  induction n with
  | zero => intro x h; exact h
  | succ n ih => intro x h; exact ih (crc1_u32 h)
/-- One byte of the sum. -/
def crcB (x b : Int) : Int := crcN 8 (Go.bits .xor .u32 x b)
theorem crcB_u32 (x b : Int) : U32 (crcB x b) := crcN_u32 8 (u32_bits _ _ _)
/-- The sum of bytes. -/
def crcS : List Int → Int → Int
  | [], x => x
  | b :: bs, x => crcS bs (crcB x b)
theorem crcS_u32 (bs : List Int) : ∀ {x : Int}, U32 x → U32 (crcS bs x) := by
  induction bs with
  | nil => intro x h; exact h
  | cons b bs ih => intro x h; exact ih (crcB_u32 x b)
theorem B_drop (s : ByteArray) (i : Nat) (h : i < s.size) : (B s).drop i = bt s i :: (B s).drop (i + 1) := by
  have hl : i < (B s).length := by rw [B_len]; exact h
  rw [List.drop_eq_getElem_cons hl]
  have h1 := B_bt s i h
  rw [List.getElem?_eq_getElem hl] at h1
  rw [Option.some.inj h1]
theorem B_dropAll (s : ByteArray) (i : Nat) (h : s.size ≤ i) : (B s).drop i = [] := List.drop_eq_nil_of_le (by rw [B_len]; exact h)
theorem u32_mod {b : Int} (h : 0 ≤ b ∧ b < 256) : b % 4294967296 = b := by omega

theorem u32_ff : U32 4294967295 := by unfold U32; omega
def sumB (s : ByteArray) : Int := crcS (B s) 4294967295
theorem sumB_u32 (s : ByteArray) : U32 (sumB s) := crcS_u32 _ u32_ff

def fourL (x : Int) : List Int := [(x / 16777216) % 256, (x / 65536) % 256, (x / 256) % 256, x % 256]
theorem fourL_byt (x : Int) : Byt (fourL x) := by
  intro y hy
  simp only [fourL, List.mem_cons, List.not_mem_nil, or_false] at hy
  omega
/-- A text with its sum. -/
def sealB (s : ByteArray) : ByteArray := s ++ strOfNums (fourL (sumB s))
theorem four_size (x : Int) : (strOfNums (fourL x)).size = 4 := by rw [Go.strOfNums_size]; rfl

theorem natxor_cancel {a b c : Nat} (h : a ^^^ c = b ^^^ c) : a = b := by
  have h2 := congrArg (fun x => x ^^^ c) h
  simpa only [Nat.xor_assoc, Nat.xor_self, Nat.xor_zero] using h2
theorem xor_u32 {a b : Int} (ha : U32 a) (hb : U32 b) : Go.bits .xor .u32 a b = ((a.toNat ^^^ b.toNat : Nat) : Int) := by
  obtain ⟨x, rfl⟩ := Int.eq_ofNat_of_zero_le ha.1
  obtain ⟨y, rfl⟩ := Int.eq_ofNat_of_zero_le hb.1
  have hx : x < 2 ^ 32 := by have := ha.2; omega
  have hy : y < 2 ^ 32 := by have := hb.2; omega
  have hx' : x % 2 ^ IntKind.u32.bits = x := Nat.mod_eq_of_lt hx
  have hy' : y % 2 ^ IntKind.u32.bits = y := Nat.mod_eq_of_lt hy
  have hxy := Nat.xor_lt_two_pow hx hy
  simp only [Go.bits, BitVec.ofInt_natCast, BitVec.toNat_xor, BitVec.toNat_ofNat, hx', hy', Int.toNat_natCast]
  rw [IntKind.wrap_u32]
  omega
theorem xor_u8 {a b : Int} (ha : 0 ≤ a ∧ a < 256) (hb : 0 ≤ b ∧ b < 256) : Go.bits .xor .u8 a b = ((a.toNat ^^^ b.toNat : Nat) : Int) := by
  obtain ⟨x, rfl⟩ := Int.eq_ofNat_of_zero_le ha.1
  obtain ⟨y, rfl⟩ := Int.eq_ofNat_of_zero_le hb.1
  have hx : x < 2 ^ 8 := by omega
  have hy : y < 2 ^ 8 := by omega
  have hx' : x % 2 ^ IntKind.u8.bits = x := Nat.mod_eq_of_lt hx
  have hy' : y % 2 ^ IntKind.u8.bits = y := Nat.mod_eq_of_lt hy
  have hxy := Nat.xor_lt_two_pow hx hy
  simp only [Go.bits, BitVec.ofInt_natCast, BitVec.toNat_xor, BitVec.toNat_ofNat, hx', hy', Int.toNat_natCast]
  rw [IntKind.wrap_u8]
  omega
/-- Another byte. -/
theorem xor_u8_ne {a b : Int} (ha : 0 ≤ a ∧ a < 256) (hb : 1 ≤ b ∧ b < 256) : Go.bits .xor .u8 a b ≠ a ∧ 0 ≤ Go.bits .xor .u8 a b ∧ Go.bits .xor .u8 a b < 256 := by
  rw [xor_u8 ha ⟨by omega, hb.2⟩]
  have hx := Nat.xor_lt_two_pow (n := 8) (x := a.toNat) (y := b.toNat) (by omega) (by omega)
  refine ⟨fun h => ?_, by omega, by omega⟩
  have h1 : a.toNat ^^^ b.toNat = a.toNat := by omega
  have h2 : b.toNat ^^^ a.toNat = 0 ^^^ a.toNat := by rw [Nat.xor_comm, h1, Nat.zero_xor]
  have := natxor_cancel h2
  omega
theorem xor_inj_l {a b c : Int} (ha : U32 a) (hb : U32 b) (hc : U32 c) (h : Go.bits .xor .u32 a c = Go.bits .xor .u32 b c) : a = b := by
  rw [xor_u32 ha hc, xor_u32 hb hc] at h
  have := natxor_cancel (Int.ofNat.inj h)
  have h1 := ha.1
  have h2 := hb.1
  omega
theorem xor_inj_r {a b c : Int} (ha : U32 a) (hb : U32 b) (hc : U32 c) (h : Go.bits .xor .u32 c a = Go.bits .xor .u32 c b) : a = b := by
  rw [xor_u32 hc ha, xor_u32 hc hb] at h
  have h3 := Int.ofNat.inj h
  rw [Nat.xor_comm c.toNat a.toNat, Nat.xor_comm c.toNat b.toNat] at h3
  have := natxor_cancel h3
  have h1 := ha.1
  have h2 := hb.1
  omega
theorem xor_top {a : Int} (h0 : 0 ≤ a) (h1 : a < 2147483648) : 2147483648 ≤ Go.bits .xor .u32 a 3558460437 := by
  rw [xor_u32 ⟨h0, by omega⟩ ⟨by omega, by omega⟩]
  have ht : (a.toNat ^^^ (3558460437 : Int).toNat).testBit 31 = true := by
    rw [Nat.testBit_xor, Nat.testBit_lt_two_pow (x := a.toNat) (i := 31) (by omega)]
    decide
  rcases Nat.lt_or_ge (a.toNat ^^^ (3558460437 : Int).toNat) (2 ^ 31) with h | h
  · rw [Nat.testBit_lt_two_pow h] at ht
    cases ht
  · omega
theorem crc1_inj {x y : Int} (hx : U32 x) (hy : U32 y) (h : crc1 x = crc1 y) : x = y := by
  have a := hx.1
  have b := hx.2
  have c := hy.1
  have d := hy.2
  have pu : U32 3558460437 := ⟨by omega, by omega⟩
  unfold crc1 at h
  by_cases e : x % 2 = 1
  · rw [if_pos e] at h
    by_cases f : y % 2 = 1
    · rw [if_pos f] at h
      have := xor_inj_l ⟨by omega, by omega⟩ ⟨by omega, by omega⟩ pu h
      omega
    · rw [if_neg f] at h
      have := xor_top (a := x / 2) (by omega) (by omega)
      omega
  · rw [if_neg e] at h
    by_cases f : y % 2 = 1
    · rw [if_pos f] at h
      have := xor_top (a := y / 2) (by omega) (by omega)
      omega
    · rw [if_neg f] at h
      omega
theorem crcN_inj (n : Nat) : ∀ {x y : Int}, U32 x → U32 y → crcN n x = crcN n y → x = y := by
  induction n with
  | zero => intro x y _ _ h; exact h
  | succ n ih => intro x y hx hy h; exact crc1_inj hx hy (ih (crc1_u32 hx) (crc1_u32 hy) h)
theorem crcS_inj (bs : List Int) (hb : Byt bs) : ∀ {x y : Int}, U32 x → U32 y → crcS bs x = crcS bs y → x = y := by
  induction bs with
  | nil => intro x y _ _ h; exact h
  | cons b bs ih =>
    intro x y hx hy h
    have h0 := hb b (List.mem_cons_self ..)
    have h2 := ih (fun z hz => hb z (List.mem_cons_of_mem _ hz)) (crcB_u32 x b) (crcB_u32 y b) h
    exact xor_inj_l hx hy ⟨by omega, by omega⟩ (crcN_inj 8 (u32_bits _ _ _) (u32_bits _ _ _) h2)
theorem crcS_app (xs ys : List Int) : ∀ x, crcS (xs ++ ys) x = crcS ys (crcS xs x) := by
  induction xs with
  | nil => intro x; rfl
  | cons b xs ih => intro x; exact ih _
/-- One byte is another: the sum is another. -/
theorem crcS_set (bs : List Int) (hb : Byt bs) : ∀ (i : Nat) (v x : Int), U32 x → 0 ≤ v → v < 256 → i < bs.length → v ≠ bs.getD i 0 → crcS (bs.set i v) x ≠ crcS bs x := by
  induction bs with
  | nil => intro i v x _ _ _ h; simp at h
  | cons b bs ih =>
    intro i v x hx v0 v1 hi hv he
    have h0 := hb b (List.mem_cons_self ..)
    have hb' : Byt bs := fun z hz => hb z (List.mem_cons_of_mem _ hz)
    cases i with
    | zero =>
      have h2 := crcS_inj bs hb' (crcB_u32 x v) (crcB_u32 x b) he
      have hv' : v ≠ b := hv
      exact hv' (xor_inj_r (a := v) (b := b) ⟨v0, by omega⟩ ⟨h0.1, by omega⟩ hx (crcN_inj 8 (u32_bits _ _ _) (u32_bits _ _ _) h2))
    | succ i => exact ih hb' i v _ (crcB_u32 x b) v0 v1 (by simpa using hi) (by simpa using hv) he
theorem fourL_inj' {x y : Int} (hx : U32 x) (hy : U32 y) (h : fourL x = fourL y) : x = y := by
  unfold fourL at h
  simp only [List.cons.injEq, and_true] at h
  have a := hx.1
  have b := hx.2
  have c := hy.1
  have d := hy.2
  omega

theorem and255 (x : Int) : 0 ≤ Go.bits .and .i64 x 255 ∧ Go.bits .and .i64 x 255 < 256 := by
  have h : ((BitVec.ofInt 64 x) &&& (BitVec.ofInt 64 255)).toNat ≤ 255 := by
    rw [BitVec.toNat_and]
    exact Nat.le_trans Nat.and_le_right (by decide)
  have e : Go.bits .and .i64 x 255 = IntKind.i64.wrap ((((BitVec.ofInt 64 x) &&& (BitVec.ofInt 64 255)).toNat : Nat) : Int) := rfl
  rw [e, IntKind.wrap_i64]
  omega

theorem ev_ite {α : Type} {c : Prop} [Decidable c] {g f : Nat → Option α} {r : α} (h : c → Ev g r) (k : ¬ c → Ev f r) : Ev (fun n => if c then g n else f n) r := by
  by_cases hc : c
  · exact Ev.congr (fun n => by rw [if_pos hc]) (h hc)
  · exact Ev.congr (fun n => by rw [if_neg hc]) (k hc)
theorem ev_pos {α : Type} {c : Prop} [Decidable c] {g f : Nat → Option α} {r : α} (hc : c) (h : Ev g r) : Ev (fun n => if c then g n else f n) r := Ev.congr (fun n => by rw [if_pos hc]) h
theorem ev_neg {α : Type} {c : Prop} [Decidable c] {g f : Nat → Option α} {r : α} (hc : ¬ c) (h : Ev f r) : Ev (fun n => if c then g n else f n) r := Ev.congr (fun n => by rw [if_neg hc]) h
theorem ev_some {α : Type} {x r : α} (h : x = r) : Ev (fun _ => some x) r := by rw [h]; exact Ev.now _
theorem ev_succ {α : Type} {g : Nat → Option α} {r : α} (h : Ev (fun k => g (k + 1)) r) : Ev g r := Ev.step (fun _ => rfl) h
/-- What is drawn: the place in the bytes stays at 0 or more, what comes is in its bounds. -/
theorem spec_l01Byte_ex (xs : List Int) (p s : Int) (hp : 0 ≤ p) (hx : xs.length ≤ 9223372036854775000) : ∃ v p' s', spec_l01Byte.f xs p s = some (v, p', s') ∧ 0 ≤ v ∧ v < 256 ∧ 0 ≤ p' := by
  unfold spec_l01Byte.f
  by_cases h : p < (xs.length : Int)
  · rw [if_pos h, if_pos hp]
    refine ⟨_, _, _, rfl, (and255 _).1, (and255 _).2, ?_⟩
    rw [w64 (by omega) (by omega)]
    omega
  · rw [if_neg h]
    exact ⟨_, _, _, rfl, (and255 _).1, (and255 _).2, hp⟩
theorem spec_l01Below_ex (xs : List Int) (p s n : Int) (hp : 0 ≤ p) (hx : xs.length ≤ 9223372036854775000) (h1 : 1 ≤ n) (h2 : n ≤ 256) : ∃ v p' s', spec_l01Below.f xs p s n = some (v, p', s') ∧ 0 ≤ v ∧ v < n ∧ 0 ≤ p' := by
  obtain ⟨v, p', s', h, h3, h4, h5⟩ := spec_l01Byte_ex xs p s hp hx
  unfold spec_l01Below.f
  rw [if_neg (by omega), if_pos h2, h, Option.bind_some, if_neg (by omega)]
  refine ⟨_, _, _, rfl, ?_, ?_, h5⟩
  · rw [tmodp h3]; exact Int.emod_nonneg _ (by omega)
  · rw [tmodp h3]; exact Int.emod_lt_of_pos _ (by omega)
theorem spec_l01New_l0_ex (xs : List Int) (hx : xs.length ≤ 9223372036854775000) (d : Nat) : ∀ (i : Nat) (s : Int), i + d = xs.length → ∃ s', Ev (fun k => spec_l01New.l0 k xs s i) (xs, 0, s') := by
  induction d with
  | zero =>
    intro i s hi
    refine ⟨s, ev_succ ?_⟩
    simp only [spec_l01New.l0]
    exact ev_neg (by omega) (Ev.now _)
  | succ d ih =>
    intro i s hi
    obtain ⟨s', h⟩ := ih (i + 1) _ (by omega)
    by_cases h4 : (i : Int) < 4000
    · refine ⟨s', ev_succ ?_⟩
      simp only [spec_l01New.l0]
      rw [w64 (x := (i : Int) + 1) (by omega) (by omega)]
      exact ev_pos (by omega) (ev_pos h4 (ev_pos (by omega) h))
    · refine ⟨s, ev_succ ?_⟩
      simp only [spec_l01New.l0]
      exact ev_pos (by omega) (ev_neg h4 (Ev.now _))
theorem spec_l01New_ex (xs : List Int) (hx : xs.length ≤ 9223372036854775000) : ∃ s', Ev (fun k => spec_l01New.f k xs) (xs, 0, s') := spec_l01New_l0_ex xs hx xs.length 0 _ (by omega)

/-- A number below any n above 0, drawn. -/
theorem spec_l01Below_any (xs : List Int) (p s n : Int) (hp : 0 ≤ p) (hx : xs.length ≤ 9223372036854775000) (h1 : 1 ≤ n) (h2 : n ≤ 4294967296) : ∃ v p' s', spec_l01Below.f xs p s n = some (v, p', s') ∧ 0 ≤ v ∧ v < n ∧ 0 ≤ p' := by
  by_cases hn : n ≤ 256
  · exact spec_l01Below_ex xs p s n hp hx h1 hn
  · obtain ⟨v1, p1, s1, e1, a1, b1, c1⟩ := spec_l01Byte_ex xs p s hp hx
    obtain ⟨v2, p2, s2, e2, a2, b2, c2⟩ := spec_l01Byte_ex xs p1 s1 c1 hx
    obtain ⟨v3, p3, s3, e3, a3, b3, c3⟩ := spec_l01Byte_ex xs p2 s2 c2 hx
    obtain ⟨v4, p4, s4, e4, a4, b4, c4⟩ := spec_l01Byte_ex xs p3 s3 c3 hx
    unfold spec_l01Below.f
    rw [if_neg (by omega), if_neg hn, e1]
    simp only [Option.bind_some]
    rw [e2]
    simp only [Option.bind_some]
    rw [e3]
    simp only [Option.bind_some]
    rw [e4]
    simp only [Option.bind_some]
    rw [if_neg (by omega)]
    have w1 : wrap64 (v1 * 16777216) = v1 * 16777216 := w64 (by omega) (by omega)
    have w2 : wrap64 (v2 * 65536) = v2 * 65536 := w64 (by omega) (by omega)
    have w3 : wrap64 (v3 * 256) = v3 * 256 := w64 (by omega) (by omega)
    rw [w1, w2, w3, w64 (x := v1 * 16777216 + v2 * 65536) (by omega) (by omega), w64 (x := v1 * 16777216 + v2 * 65536 + v3 * 256) (by omega) (by omega), w64 (x := v1 * 16777216 + v2 * 65536 + v3 * 256 + v4) (by omega) (by omega)]
    refine ⟨_, _, _, rfl, ?_, ?_, c4⟩
    · rw [tmodp (by omega)]; exact Int.emod_nonneg _ (by omega)
    · rw [tmodp (by omega)]; exact Int.emod_lt_of_pos _ (by omega)
theorem spec_l01Text_l0_ex (xs : List Int) (hx : xs.length ≤ 9223372036854775000) (n : Int) (hn : n ≤ 5000) (d : Nat) : ∀ (i : Nat) (acc : List Int) (p s : Int), (i : Int) + d = n ∨ (d = 0 ∧ n ≤ i) → i ≤ 5000 → acc.length = i → Byt acc → 0 ≤ p →
    ∃ t p' s', Ev (fun k => spec_l01Text.l0 k n acc i xs p s) (t, p', s') ∧ t.size ≤ i + d ∧ 0 ≤ p' := by
  induction d with
  | zero =>
    intro i acc p s hi hl ha hb hp
    refine ⟨strOfNums acc, p, s, ev_succ ?_, ?_, hp⟩
    · simp only [spec_l01Text.l0]
      exact ev_neg (by omega) (Ev.now _)
    · rw [Go.strOfNums_size]; omega
  | succ d ih =>
    intro i acc p s hi hl ha hb hp
    obtain ⟨v, p1, s1, e, a, b, c⟩ := spec_l01Byte_ex xs p s hp hx
    have ev : v % 256 = v := by omega
    obtain ⟨t, p', s', h, ht, hp'⟩ := ih (i + 1) (acc ++ [v]) p1 s1 (by omega) (by omega) (by simp; omega) (byt_app hb (by intro x hx; simp only [List.mem_singleton] at hx; omega)) c
    refine ⟨t, p', s', ev_succ ?_, by omega, hp'⟩
    simp only [spec_l01Text.l0]
    rw [e, w64 (x := (i : Int) + 1) (by omega) (by omega)]
    simp only [Option.bind_some, ev]
    exact ev_pos (by omega) (ev_pos (by omega) h)
theorem spec_l01Text_ex (xs : List Int) (p s n : Int) (hp : 0 ≤ p) (hx : xs.length ≤ 9223372036854775000) : ∃ t p' s', Ev (fun k => spec_l01Text.f k xs p s n) (t, p', s') ∧ t.size ≤ 5000 ∧ 0 ≤ p' := by
  have hj : ∀ m : Int, m ≤ 5000 → ∃ t p' s', Ev (fun k => spec_l01Text.j0 k m xs p s) (t, p', s') ∧ t.size ≤ 5000 ∧ 0 ≤ p' := by
    intro m hm
    obtain ⟨t, p', s', h, ht, hp'⟩ := spec_l01Text_l0_ex xs hx m hm m.toNat 0 [] p s (by omega) (by omega) rfl (by intro x hx; cases hx) hp
    refine ⟨t, p', s', ev_succ ?_, by omega, hp'⟩
    simp only [spec_l01Text.j0]
    exact h
  unfold spec_l01Text.f
  by_cases h : n > 5000
  · obtain ⟨t, p', s', h1, h2, h3⟩ := hj 5000 (by omega)
    exact ⟨t, p', s', ev_pos h h1, h2, h3⟩
  · obtain ⟨t, p', s', h1, h2, h3⟩ := hj n (by omega)
    exact ⟨t, p', s', ev_neg h h1, h2, h3⟩
/-- The text that was sealed, if it was. -/
def unsealB (s : ByteArray) : ByteArray × Bool :=
  if s.size < 4 ∨ s.size - 4 > 20000 then (⟨#[]⟩, false)
  else if (B s).drop (s.size - 4) = fourL (sumB (s.extract 0 (s.size - 4))) then (s.extract 0 (s.size - 4), true) else (⟨#[]⟩, false)
theorem ext_size (s : ByteArray) (n : Nat) (h : n ≤ s.size) : (s.extract 0 n).size = n := by
  rw [← B_len, B_extract, List.drop_zero, List.length_take, B_len]; omega
theorem seal_iff (s : ByteArray) (h : 4 ≤ s.size) : (sealB (s.extract 0 (s.size - 4))).toList = s.toList ↔ (B s).drop (s.size - 4) = fourL (sumB (s.extract 0 (s.size - 4))) := by
  rw [tl_iff]
  unfold sealB
  rw [B_append, B_str _ (fourL_byt _)]
  conv => lhs; lhs; lhs; rw [B_extract, List.drop_zero]
  conv => lhs; rhs; rw [← List.take_append_drop (s.size - 4) (B s)]
  constructor
  · intro h2; exact (List.append_cancel_left h2).symm
  · intro h2; rw [h2]

theorem impl_SumMore_l1_ev (s : ByteArray) (m i : Int) (n : Nat) : ∀ (x j r : Int), U32 x → 0 ≤ j → j ≤ 8 → 8 - j = n →
    Ev (fun k => impl_SumMore.l0 k (crcN n x) s m (wrap64 (i + 1))) r → Ev (fun k => impl_SumMore.l1 k x s m i j) r := by
  induction n with
  | zero =>
    intro x j r hx h0 h1 hn h
    refine Ev.step (fun k => ?_) h
    simp only [impl_SumMore.l1]
    rw [if_neg (by omega)]
    rfl
  | succ n ih =>
    intro x j r hx h0 h1 hn h
    refine Ev.step (fun k => ?_) (ih (crc1 x) (j + 1) r (crc1_u32 hx) (by omega) (by omega) (by omega) h)
    simp only [impl_SumMore.l1]
    rw [if_pos (by omega), u32_and1 hx, w64 (by omega) (by omega)]
    unfold crc1
    by_cases hp : x % 2 = 1
    · rw [if_pos hp, if_pos hp]
    · rw [if_neg hp, if_neg hp]
theorem impl_SumMore_l0_ev (s : ByteArray) (hs : s.size ≤ 9223372036854775000) (d : Nat) : ∀ (x : Int) (i : Nat), U32 x → i + d = s.size →
    Ev (fun k => impl_SumMore.l0 k x s (s.size : Int) (i : Int)) (crcS ((B s).drop i) x) := by
  induction d with
  | zero =>
    intro x i hx hi
    rw [B_dropAll s i (by omega)]
    refine Ev.step (f := fun _ => some x) (fun k => ?_) (Ev.now _)
    simp only [impl_SumMore.l0]
    rw [if_neg (by omega)]
  | succ d ih =>
    intro x i hx hi
    have hlt : i < s.size := by omega
    rw [B_drop s i hlt, crcS]
    have h1 := ih (crcB x (bt s i)) (i + 1) (crcB_u32 _ _) (by omega)
    have h2 := impl_SumMore_l1_ev s (s.size : Int) i 8 (Go.bits .xor .u32 x (bt s i)) 0 _ (u32_bits _ _ _) (by omega) (by omega) (by omega)
      (by rw [w64 (by omega) (by omega)]; exact h1)
    refine Ev.step (fun k => ?_) h2
    simp only [impl_SumMore.l0]
    rw [if_pos (by omega), if_pos (by omega), if_pos (by omega), u32_mod (bt_b s i)]
theorem impl_SumMore_ev (x : Int) (s : ByteArray) (hx : U32 x) (hs : s.size ≤ 9223372036854775000) : Ev (fun k => impl_SumMore.f k x s) (crcS (B s) x) :=
  impl_SumMore_l0_ev s hs s.size x 0 hx (by omega)

theorem impl_SumOf_ev (s : ByteArray) (hs : s.size ≤ 9223372036854775000) : Ev (fun k => impl_SumOf.f k s) (sumB s) :=
  Ev.bind (f := fun _ t => some t) (impl_SumMore_ev _ s u32_ff hs) (Ev.now _)

theorem impl_Sealed_yes (s : ByteArray) (hs : s.size ≤ 20000) : Ev (fun k => impl_Sealed.f k s) (sealB s, true) := by
  unfold impl_Sealed.f
  refine ev_neg (by omega) ?_
  refine Ev.bind (impl_SumOf_ev s (by omega)) ?_
  refine Ev.bind (Ev.now _) (ev_pos ?_ (Ev.now _))
  have := four_size (sumB s)
  unfold fourL at this
  omega
theorem impl_Sealed_no (s : ByteArray) (hs : ¬ s.size ≤ 20000) : Ev (fun k => impl_Sealed.f k s) (⟨#[]⟩, false) := by
  unfold impl_Sealed.f
  exact ev_pos (by omega) (Ev.now _)

theorem impl_Unsealed_ev (s : ByteArray) (hs : s.size ≤ 9223372036854775000) : Ev (fun k => impl_Unsealed.f k s) (unsealB s) := by
  unfold impl_Unsealed.f unsealB
  refine ev_ite (fun h => ev_some (by rw [if_pos (by omega)])) (fun h => ?_)
  rw [w64 (by omega) (by omega)]
  have hn : ((s.size : Int) - 4).toNat = s.size - 4 := by omega
  rw [hn]
  refine ev_pos (by omega) (ev_pos (by omega) ?_)
  have he := ext_size s (s.size - 4) (by omega)
  by_cases h2 : s.size - 4 > 20000
  · rw [if_pos (.inr h2)]
    exact Ev.bind (impl_Sealed_no _ (by omega)) (ev_neg (by simp) (Ev.now _))
  · rw [if_neg (by omega)]
    refine Ev.bind (impl_Sealed_yes _ (by omega)) (ev_pos rfl ?_)
    have htx := seal_iff s (by omega)
    by_cases hc : (B s).drop (s.size - 4) = fourL (sumB (s.extract 0 (s.size - 4)))
    · rw [if_pos hc]; exact ev_pos (htx.2 hc) (Ev.now _)
    · rw [if_neg hc]; exact ev_neg (fun h => hc (htx.1 h)) (Ev.now _)

theorem bytesOf_B (s : ByteArray) : bytesOf s = B s := rfl
theorem unseal_seal (s : ByteArray) (hs : s.size ≤ 20000) : unsealB (sealB s) = (s, true) := by
  have hz : (sealB s).size = s.size + 4 := by unfold sealB; rw [ByteArray.size_append, four_size]
  have hB : B (sealB s) = B s ++ fourL (sumB s) := by unfold sealB; rw [B_append, B_str _ (fourL_byt _)]
  have hx : (sealB s).extract 0 s.size = s := by
    apply B_inj
    rw [B_extract, List.drop_zero, hB, ← B_len, List.take_left]
  unfold unsealB
  rw [hz, Nat.add_sub_cancel, if_neg (by omega), hx, hB, ← B_len, List.drop_left, if_pos rfl]
/-- One byte of a sealed text is another: it is not unsealed. -/
theorem unseal_turned (s : ByteArray) (hs : s.size ≤ 20000) (i : Nat) (hi : i < s.size + 4) (v : Int) (v0 : 0 ≤ v) (v1 : v < 256) (hv : v ≠ (B (sealB s)).getD i 0) : (unsealB (strOfNums ((B (sealB s)).set i v))).2 = false := by
  have hB : B (sealB s) = B s ++ fourL (sumB s) := by unfold sealB; rw [B_append, B_str _ (fourL_byt _)]
  have hbt : Byt ((B (sealB s)).set i v) := by
    intro x hx
    rcases List.mem_or_eq_of_mem_set hx with hx | rfl
    · exact B_byt _ x hx
    · exact ⟨v0, v1⟩
  have hBu := B_str _ hbt
  generalize strOfNums ((B (sealB s)).set i v) = u at hBu
  have hz : u.size = s.size + 4 := by
    rw [← B_len, hBu, List.length_set, hB, List.length_append, B_len]; rfl
  unfold unsealB
  rw [hz, Nat.add_sub_cancel, if_neg (by omega)]
  rw [if_neg]
  intro he
  have hL : (fourL (sumB s)).length = 4 := rfl
  have hS : B (u.extract 0 s.size) = (B u).take s.size := by rw [B_extract, List.drop_zero]
  rw [hB] at hv hBu
  by_cases hc : i < s.size
  · have h1 : (B s ++ fourL (sumB s)).set i v = (B s).set i v ++ fourL (sumB s) := List.set_append_left _ _ (by rw [B_len]; exact hc)
    rw [h1] at hBu
    have hlen : ((B s).set i v).length = s.size := by rw [List.length_set, B_len]
    have h2 : (B u).drop s.size = fourL (sumB s) := by rw [hBu, ← hlen, List.drop_left]
    have h3 : (B u).take s.size = (B s).set i v := by rw [hBu, ← hlen, List.take_left]
    rw [h2] at he
    have h4 := fourL_inj' (sumB_u32 s) (sumB_u32 _) he
    unfold sumB at h4
    rw [hS, h3] at h4
    refine crcS_set (B s) (B_byt s) i v _ u32_ff v0 v1 (by rw [B_len]; exact hc) ?_ h4.symm
    have hl : i < (B s).length := by rw [B_len]; exact hc
    rw [List.getD_eq_getElem?_getD, List.getElem?_append_left hl, ← List.getD_eq_getElem?_getD] at hv
    exact hv
  · have hge : (B s).length ≤ i := by rw [B_len]; omega
    have h1 : (B s ++ fourL (sumB s)).set i v = B s ++ (fourL (sumB s)).set (i - (B s).length) v := List.set_append_right _ _ hge
    rw [h1] at hBu
    have h2 : (B u).drop s.size = (fourL (sumB s)).set (i - (B s).length) v := by rw [hBu, ← B_len, List.drop_left]
    have h3 : (B u).take s.size = B s := by rw [hBu, ← B_len, List.take_left]
    have h4 : u.extract 0 s.size = s := B_inj (by rw [hS, h3])
    rw [h2, h4] at he
    have hl : i - (B s).length < (fourL (sumB s)).length := by rw [B_len, hL]; omega
    have h5 := congrArg (fun l => l.getD (i - (B s).length) 0) he
    simp only [List.getD_eq_getElem?_getD, List.getElem?_set_self hl, Option.getD_some] at h5
    rw [List.getD_eq_getElem?_getD, List.getElem?_append_right hge] at hv
    exact hv h5
theorem spec_DrawPlaces_l0_ex (xs : List Int) (hx : xs.length ≤ 9223372036854775000) (d : Nat) : ∀ (i : Nat) (acc : List Int) (p s : Int), i + d = 12 → acc.length = i → (∀ x ∈ acc, 0 ≤ x ∧ x < 10000) → 0 ≤ p →
    ∃ l, Ev (fun k => spec_DrawPlaces.l0 k acc i xs p s) l ∧ l.length = 12 ∧ ∀ x ∈ l, 0 ≤ x ∧ x < 10000 := by
  induction d with
  | zero =>
    intro i acc p s hi ha hb hp
    refine ⟨acc, ev_succ ?_, by omega, hb⟩
    simp only [spec_DrawPlaces.l0]
    exact ev_neg (by omega) (Ev.now _)
  | succ d ih =>
    intro i acc p s hi ha hb hp
    obtain ⟨v, p1, s1, e, a, b, c⟩ := spec_l01Below_any xs p s 10000 hp hx (by omega) (by omega)
    obtain ⟨l, h, h1, h2⟩ := ih (i + 1) (acc ++ [v]) p1 s1 (by omega) (by simp; omega) (by
      intro x hx
      rcases List.mem_append.1 hx with hx | hx
      · exact hb x hx
      · rw [List.mem_singleton.1 hx]; exact ⟨a, b⟩) c
    refine ⟨l, ev_succ ?_, h1, h2⟩
    simp only [spec_DrawPlaces.l0]
    rw [e, w64 (x := (i : Int) + 1) (by omega) (by omega)]
    simp only [Option.bind_some]
    exact ev_pos (by omega) (ev_pos (by omega) h)
theorem FnTurned : ∀ (l0 : List Int), (l0.length ≤ 9223372036854775807) → ∃ k, laws_FnTurned.f k l0 = some true := by
  intro xs hm
  refine ev_ex ?_
  unfold laws_FnTurned.f laws_big.f
  simp only [Option.bind_some]
  refine ev_ite (fun _ => Ev.now _) (fun h => ?_)
  have hx : xs.length ≤ 9223372036854775000 := by rw [decide_eq_true_eq] at h; omega
  obtain ⟨s0, hN⟩ := spec_l01New_ex xs hx
  obtain ⟨n, p1, s1, hn, n0, n1, hp1⟩ := spec_l01Below_ex xs 0 s0 40 (by omega) hx (by omega) (by omega)
  obtain ⟨s, p2, s2, hs, hz, _⟩ := spec_l01Text_ex xs p1 s1 n hp1 hx
  have hD : Ev (fun k => spec_DrawSumOf.f k xs) s := by
    unfold spec_DrawSumOf.f
    refine Ev.bind hN ?_
    simp only [hn, Option.bind_some]
    exact Ev.bind hs (Ev.now _)
  obtain ⟨b, p3, s3, hb, _, _, hp3⟩ := spec_l01Byte_ex xs 0 s0 (by omega) hx
  obtain ⟨l, hl, hl1, hl2⟩ := spec_DrawPlaces_l0_ex xs hx 12 0 [] p3 s3 (by omega) rfl (by intro x hx; cases hx) hp3
  have hP : Ev (fun k => spec_DrawPlaces.f k xs) l := by
    unfold spec_DrawPlaces.f
    refine Ev.bind hN ?_
    simp only [hb, Option.bind_some]
    exact hl
  have hsz : (sealB s).size = s.size + 4 := by unfold sealB; rw [ByteArray.size_append, four_size]
  have hU := impl_Unsealed_ev (sealB s) (by omega)
  rw [unseal_seal s (by omega)] at hU
  refine Ev.bind hD (Ev.bind hP (Ev.bind (impl_Sealed_yes s (by omega)) (Ev.bind hU (ev_pos rfl (ev_pos rfl (ev_pos rfl (ev_succ ?_)))))))
  simp only [laws_FnTurned.j0]
  have hlen : (bytesOf (sealB s)).length = s.size + 4 := by rw [bytesOf_length, hsz]
  have rdl : ∀ j : Nat, j < 12 → 0 ≤ rd l j ∧ rd l j < 10000 := by
    intro j hj
    have e : rd l (j : Int) = l.getD j 0 := rfl
    rw [e, List.getD_eq_getElem?_getD, List.getElem?_eq_getElem (by omega), Option.getD_some]
    exact hl2 _ (List.getElem_mem _)
  have r0 := rdl 0 (by omega)
  have r1 := rdl 1 (by omega)
  have q0 : ((0 : Nat) : Int) = 0 := rfl
  have q1 : ((1 : Nat) : Int) = 1 := rfl
  rw [q0] at r0
  rw [q1] at r1
  have hi : Int.tmod (rd l 0) ((bytesOf (sealB s)).length : Int) = rd l 0 % ((bytesOf (sealB s)).length : Int) := tmodp r0.1
  have hi0 := Int.emod_nonneg (rd l 0) (b := ((bytesOf (sealB s)).length : Int)) (by omega)
  have hi1 := Int.emod_lt_of_pos (rd l 0) (b := ((bytesOf (sealB s)).length : Int)) (by omega)
  rw [← hi] at hi0 hi1
  have hv : (wrap64 (1 + Int.tmod (rd l 1) 255)) % 256 = 1 + rd l 1 % 255 := by
    rw [tmodp r1.1, w64 (by omega) (by omega)]; omega
  refine ev_neg (by rw [hsz, w64 (by omega) (by omega)]; simp) (ev_pos (by omega) (ev_pos (by omega) ?_))
  simp only [Option.bind_some]
  refine ev_pos (by omega) (ev_neg (by omega) (ev_pos hi0 (ev_pos hi1 (ev_pos (by omega) ?_))))
  generalize Int.tmod (rd l 0) ((bytesOf (sealB s)).length : Int) = i at hi0 hi1
  rw [hv]
  have hbi : 0 ≤ rd (bytesOf (sealB s)) i ∧ rd (bytesOf (sealB s)) i < 256 := by rw [rd_bytesOf]; exact bt_b _ _
  have hx8 := xor_u8_ne hbi (b := 1 + rd l 1 % 255) (by omega)
  have hT := unseal_turned s (by omega) i.toNat (by omega) _ hx8.2.1 hx8.2.2 (by exact hx8.1)
  have hz2 : (strOfNums ((bytesOf (sealB s)).set i.toNat (Go.bits .xor .u8 (rd (bytesOf (sealB s)) i) (1 + rd l 1 % 255)))).size ≤ 100000 := by
    rw [Go.strOfNums_size, List.length_set, hlen]; omega
  have hU2 := impl_Unsealed_ev _ (Nat.le_trans hz2 (by omega))
  have hsx : (s ++ (⟨#[120]⟩ : ByteArray)).size = s.size + 1 := by rw [ByteArray.size_append]; rfl
  refine Ev.bind hU2 (ev_neg (by rw [bytesOf_B] at *; rw [hT]; decide) (Ev.bind (impl_SumOf_ev s (by omega)) (Ev.bind (impl_SumMore_ev (sumB s) (⟨#[120]⟩ : ByteArray) (sumB_u32 s) (by decide)) (ev_pos (by omega) (Ev.bind (impl_SumOf_ev _ (by rw [hsx]; omega)) ?_)))))
  have : (crcS (B (⟨#[120]⟩ : ByteArray)) (sumB s) == sumB (s ++ (⟨#[120]⟩ : ByteArray))) = true := by
    rw [beq_iff_eq]
    unfold sumB
    rw [B_append, crcS_app]
  rw [this]
  exact Ev.now _

end Go.Proofs.Ytnecbkognpponaa.Pure
