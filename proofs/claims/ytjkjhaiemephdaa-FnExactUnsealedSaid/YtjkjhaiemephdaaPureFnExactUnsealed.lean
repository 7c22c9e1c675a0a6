/- Proved: for every text that the row lets in, the law FnExactUnsealed returns true; there are no other conditions. -/
import Derived.Test.YtjkjhaiemephdaaPFnExactUnsealedx2
set_option linter.unusedVariables false
set_option linter.unusedSimpArgs false
namespace Go.Proofs.Ytjkjhaiemephdaa.Pure
open Go.RowKit Go.Proofs.Ytjkjhaiemephdaa.PFnExactUnsealed Go.Proofs.YtjkjhaiemephdaaW.PrintWords Go.Proofs.YtjkjhaiemephdaaW.PrintLast

-- base
theorem w64 {x : Int} (h0 : -9223372036854775808 ≤ x) (h1 : x ≤ 9223372036854775807) : wrap64 x = x := by unfold wrap64; omega
theorem bt_b (s : ByteArray) (i : Int) : 0 ≤ bt s i ∧ bt s i < 256 := by have := bt_range s i; omega
theorem wbt (s : ByteArray) (i : Int) : wrap64 (bt s i) = bt s i := by have := bt_range s i; exact w64 (by omega) (by omega)
theorem tmodp {x m : Int} (h : 0 ≤ x) : Int.tmod x m = x % m := Int.tmod_eq_emod_of_nonneg h
theorem tdivp {x m : Int} (h : 0 ≤ x) : Int.tdiv x m = x / m := Int.tdiv_eq_ediv_of_nonneg h
/-- The bytes of a text, as numbers. -/
def B (s : ByteArray) : List Int := s.data.toList.map fun u => (u.toNat : Int)
def Byt (xs : List Int) : Prop := ∀ x ∈ xs, 0 ≤ x ∧ x < 256
theorem B_len (s : ByteArray) : (B s).length = s.size := by simp [B]
theorem B_byt (s : ByteArray) : Byt (B s) := by
  intro x hx
  obtain ⟨u, _, rfl⟩ := List.mem_map.1 hx
  have := u.toNat_lt
  omega
theorem B_str (xs : List Int) (h : Byt xs) : B (strOfNums xs) = xs := by
  simp only [B, strOfNums, List.map_map]
  conv => rhs; rw [← List.map_id xs]
  apply List.map_congr_left
  intro x hx
  have := h x hx
  simp only [Function.comp, UInt8.toNat_ofNat', id]
  omega
theorem str_B (s : ByteArray) : strOfNums (B s) = s := by
  apply Go.WideShapes.bytes_inj
  simp only [B, strOfNums, List.map_map]
  conv => rhs; rw [← List.map_id s.data.toList]
  apply List.map_congr_left
  intro x hx
  simp [Function.comp]
theorem B_inj {s t : ByteArray} (h : B s = B t) : s = t := by rw [← str_B s, ← str_B t, h]
theorem B_append (s t : ByteArray) : B (s ++ t) = B s ++ B t := by simp [B, ByteArray.data_append]
theorem B_extract (s : ByteArray) (a b : Nat) : B (s.extract a b) = ((B s).take b).drop a := by
  simp only [B, ByteArray.data_extract, Array.toList_extract, List.extract_eq_take_drop]
  rw [← List.map_take, ← List.map_drop, List.drop_take]
theorem B_bt (s : ByteArray) (i : Nat) (h : i < s.size) : (B s)[i]? = some (bt s i) := by
  have h' : i < s.data.toList.length := by rw [Array.length_toList]; exact h
  rw [B, List.getElem?_map, List.getElem?_eq_getElem h']
  simp [bt, h, ByteArray.getElem_eq_getElem_data]
theorem B_nil : B (⟨#[]⟩ : ByteArray) = [] := rfl
theorem tl_iff (s t : ByteArray) : s.toList = t.toList ↔ B s = B t := by
  rw [ByteArray.toList_eq, ByteArray.toList_eq]
  constructor
  · intro h; simp [B, h]
  · intro h; rw [B_inj h]
theorem byt_app {xs ys : List Int} (h : Byt xs) (k : Byt ys) : Byt (xs ++ ys) := by
  intro x hx
  rcases List.mem_append.1 hx with hx | hx
  · exact h x hx
  · exact k x hx
theorem wf_u32 {x : Int} (h : (Lit.int .u32 x).wf = true) : 0 ≤ x ∧ x < 4294967296 := by
  simp only [Lit.wf, IntKind.min, IntKind.max, IntKind.signed, IntKind.bits, Bool.and_eq_true, decide_eq_true_eq] at h
  simp at h
  omega
theorem wf_i64 {x : Int} (h : (Lit.int .i64 x).wf = true) : -9223372036854775808 ≤ x ∧ x ≤ 9223372036854775807 := by
  simp only [Lit.wf, IntKind.min, IntKind.max, IntKind.signed, IntKind.bits, Bool.and_eq_true, decide_eq_true_eq] at h
  simp at h
  omega
theorem ev_ex {α : Type} {g : Nat → Option α} {r : α} (h : Ev g r) : ∃ k, g k = some r := h.rounds

-- sum
def U32 (x : Int) : Prop := 0 ≤ x ∧ x < 4294967296
theorem u32_bits (o : BinOp) (x y : Int) : U32 (Go.bits o .u32 x y) := by
  unfold Go.bits
  simp only [Go.IntKind.wrap_u32]
  unfold U32
  omega
theorem u32_and1 {x : Int} (h : U32 x) : Go.bits .and .u32 x 1 = x % 2 :=
  Go.bits_mask .u32 32 (by decide) (fun n h0 h1 => by rw [Go.IntKind.wrap_u32]; omega) 1 (by decide) x h.1 h.2
/-- One bit of the sum. -/
def crc1 (x : Int) : Int := if x % 2 = 1 then Go.bits .xor .u32 (x / 2) 3558460437 else x / 2
theorem crc1_u32 {x : Int} (h : U32 x) : U32 (crc1 x) := by
  unfold crc1
  split
  · exact u32_bits _ _ _
  · unfold U32 at *; omega
def crcN : Nat → Int → Int
  | 0, x => x
  | n + 1, x => crcN n (crc1 x)
theorem crcN_u32 (n : Nat) : ∀ {x : Int}, U32 x → U32 (crcN n x) := by
  induction n with
  | zero => intro x h; exact h
  | succ n ih => intro x h; exact ih (crc1_u32 h)
/-- One byte of the sum. -/
def crcB (x b : Int) : Int := crcN 8 (Go.bits .xor .u32 x b)
theorem crcB_u32 (x b : Int) : U32 (crcB x b) := crcN_u32 8 (u32_bits _ _ _)
/-- The sum of bytes. -/
def crcS : List Int → Int → Int
  | [], x => x
  | b :: bs, x => crcS bs (crcB x b)
theorem crcS_u32 (bs : List Int) : ∀ {x : Int}, U32 x → U32 (crcS bs x) := by
  induction bs with
  | nil => intro x h; exact h
  | cons b bs ih => intro x h; exact ih (crcB_u32 x b)
theorem B_drop (s : ByteArray) (i : Nat) (h : i < s.size) : (B s).drop i = bt s i :: (B s).drop (i + 1) := by
  have hl : i < (B s).length := by rw [B_len]; exact h
  rw [List.drop_eq_getElem_cons hl]
  have h1 := B_bt s i h
  rw [List.getElem?_eq_getElem hl] at h1
  rw [Option.some.inj h1]
theorem B_dropAll (s : ByteArray) (i : Nat) (h : s.size ≤ i) : (B s).drop i = [] := List.drop_eq_nil_of_le (by rw [B_len]; exact h)
theorem u32_mod {b : Int} (h : 0 ≤ b ∧ b < 256) : b % 4294967296 = b := by omega

-- sumof
theorem u32_ff : U32 4294967295 := by unfold U32; omega
def sumB (s : ByteArray) : Int := crcS (B s) 4294967295
theorem sumB_u32 (s : ByteArray) : U32 (sumB s) := crcS_u32 _ u32_ff

-- four
def fourL (x : Int) : List Int := [(x / 16777216) % 256, (x / 65536) % 256, (x / 256) % 256, x % 256]
theorem fourL_byt (x : Int) : Byt (fourL x) := by
  intro y hy
  simp only [fourL, List.mem_cons, List.not_mem_nil, or_false] at hy
  omega
/-- A text with its sum. -/
def sealB (s : ByteArray) : ByteArray := s ++ strOfNums (fourL (sumB s))
theorem four_size (x : Int) : (strOfNums (fourL x)).size = 4 := by rw [Go.strOfNums_size]; rfl

-- evtools
theorem ev_ite {α : Type} {c : Prop} [Decidable c] {g f : Nat → Option α} {r : α} (h : c → Ev g r) (k : ¬ c → Ev f r) : Ev (fun n => if c then g n else f n) r := by
  by_cases hc : c
  · exact Ev.congr (fun n => by rw [if_pos hc]) (h hc)
  · exact Ev.congr (fun n => by rw [if_neg hc]) (k hc)
theorem ev_pos {α : Type} {c : Prop} [Decidable c] {g f : Nat → Option α} {r : α} (hc : c) (h : Ev g r) : Ev (fun n => if c then g n else f n) r := Ev.congr (fun n => by rw [if_pos hc]) h
theorem ev_neg {α : Type} {c : Prop} [Decidable c] {g f : Nat → Option α} {r : α} (hc : ¬ c) (h : Ev f r) : Ev (fun n => if c then g n else f n) r := Ev.congr (fun n => by rw [if_neg hc]) h
theorem ev_some {α : Type} {x r : α} (h : x = r) : Ev (fun _ => some x) r := by rw [h]; exact Ev.now _
theorem ev_eq {α : Type} {x : Option α} {r : α} (h : x = some r) : Ev (fun _ => x) r := by rw [h]; exact Ev.now _
theorem ev_succ {α : Type} {g : Nat → Option α} {r : α} (h : Ev (fun k => g (k + 1)) r) : Ev g r := Ev.step (fun _ => rfl) h
theorem ev_to {α : Type} {g : Nat → Option α} {r r' : α} (h : Ev g r) (e : r = r') : Ev g r' := e ▸ h

-- unseal
/-- The text that was sealed, if it was. -/
def unsealB (s : ByteArray) : ByteArray × Bool :=
  if s.size < 4 ∨ s.size - 4 > 20000 then (⟨#[]⟩, false)
  else if (B s).drop (s.size - 4) = fourL (sumB (s.extract 0 (s.size - 4))) then (s.extract 0 (s.size - 4), true) else (⟨#[]⟩, false)
theorem ext_size (s : ByteArray) (n : Nat) (h : n ≤ s.size) : (s.extract 0 n).size = n := by
  rw [← B_len, B_extract, List.drop_zero, List.length_take, B_len]; omega
theorem seal_iff (s : ByteArray) (h : 4 ≤ s.size) : (sealB (s.extract 0 (s.size - 4))).toList = s.toList ↔ (B s).drop (s.size - 4) = fourL (sumB (s.extract 0 (s.size - 4))) := by
  rw [tl_iff]
  unfold sealB
  rw [B_append, B_str _ (fourL_byt _)]
  conv => lhs; lhs; lhs; rw [B_extract, List.drop_zero]
  conv => lhs; rhs; rw [← List.take_append_drop (s.size - 4) (B s)]
  constructor
  · intro h2; exact (List.append_cancel_left h2).symm
  · intro h2; rw [h2]

-- spec_SumMore
theorem spec_SumMore_l1_ev (s : ByteArray) (i : Int) (n : Nat) : ∀ (x j r : Int), U32 x → 0 ≤ j → j ≤ 8 → 8 - j = n →
    Ev (fun k => spec_SumMore.l0 k (crcN n x) s (wrap64 (i + 1))) r → Ev (fun k => spec_SumMore.l1 k x s i j) r := by
  induction n with
  | zero =>
    intro x j r hx h0 h1 hn h
    refine Ev.step (fun k => ?_) h
    simp only [spec_SumMore.l1]
    rw [if_neg (by omega)]
    rfl
  | succ n ih =>
    intro x j r hx h0 h1 hn h
    refine Ev.step (fun k => ?_) (ih (crc1 x) (j + 1) r (crc1_u32 hx) (by omega) (by omega) (by omega) h)
    have hx' := hx
    unfold U32 at hx'
    simp only [spec_SumMore.l1]
    rw [if_pos (by omega), tmodp hx'.1, tdivp hx'.1, w64 (by omega) (by omega), show x / 2 % 4294967296 = x / 2 by omega]
    unfold crc1
    by_cases hp : x % 2 = 1
    · rw [if_pos hp, if_pos hp]
    · rw [if_neg hp, if_neg hp]
theorem spec_SumMore_l0_ev (s : ByteArray) (hs : s.size ≤ 9223372036854775000) (d : Nat) : ∀ (x : Int) (i : Nat), U32 x → i + d = s.size →
    Ev (fun k => spec_SumMore.l0 k x s (i : Int)) (crcS ((B s).drop i) x) := by
  induction d with
  | zero =>
    intro x i hx hi
    rw [B_dropAll s i (by omega)]
    refine Ev.step (f := fun _ => some x) (fun k => ?_) (Ev.now _)
    simp only [spec_SumMore.l0]
    rw [if_neg (by omega)]
  | succ d ih =>
    intro x i hx hi
    have hlt : i < s.size := by omega
    rw [B_drop s i hlt, crcS]
    have h1 := ih (crcB x (bt s i)) (i + 1) (crcB_u32 _ _) (by omega)
    have h2 := spec_SumMore_l1_ev s i 8 (Go.bits .xor .u32 x (bt s i)) 0 _ (u32_bits _ _ _) (by omega) (by omega) (by omega)
      (by rw [w64 (by omega) (by omega)]; exact h1)
    refine Ev.step (fun k => ?_) h2
    simp only [spec_SumMore.l0]
    rw [if_pos (by omega), if_pos (by omega), u32_mod (bt_b s i)]
theorem spec_SumMore_ev (x : Int) (s : ByteArray) (hx : U32 x) (hs : s.size ≤ 9223372036854775000) : Ev (fun k => spec_SumMore.f k x s) (crcS (B s) x) :=
  spec_SumMore_l0_ev s hs s.size x 0 hx (by omega)

-- spec_SumOf
theorem spec_SumOf_ev (s : ByteArray) (hs : s.size ≤ 9223372036854775000) : Ev (fun k => spec_SumOf.f k s) (sumB s) :=
  Ev.bind (f := fun _ t => some t) (spec_SumMore_ev _ s u32_ff hs) (Ev.now _)

-- spec_Unsealed
theorem spec_Unsealed_ev (s : ByteArray) (hs : s.size ≤ 9223372036854775000) : Ev (fun k => spec_Unsealed.f k s) (unsealB s) := by
  unfold spec_Unsealed.f unsealB
  rw [w64 (by omega) (by omega)]
  refine ev_ite (fun h => ev_some (by rw [if_pos (by omega)])) (fun h => ?_)
  refine ev_ite (fun h2 => ev_some (by rw [if_pos (by omega)])) (fun h2 => ?_)
  have hn : ((s.size : Int) - 4).toNat = s.size - 4 := by omega
  rw [if_neg (by omega), hn]
  refine ev_pos (by omega) (ev_pos (by omega) ?_)
  have he := ext_size s (s.size - 4) (by omega)
  refine Ev.bind (spec_SumOf_ev _ (by omega)) ?_
  unfold spec_l02Four.f
  simp only [Option.bind_some]
  have htx : (s.extract (s.size - 4) s.size).toList = (strOfNums (fourL (sumB (s.extract 0 (s.size - 4))))).toList ↔ (B s).drop (s.size - 4) = fourL (sumB (s.extract 0 (s.size - 4))) := by
    rw [tl_iff, B_str _ (fourL_byt _), B_extract, List.take_of_length_le (by rw [B_len]; omega)]
  by_cases hc : (B s).drop (s.size - 4) = fourL (sumB (s.extract 0 (s.size - 4)))
  · rw [if_pos hc]; exact ev_pos (htx.2 hc) (Ev.now _)
  · rw [if_neg hc]; exact ev_neg (fun h => hc (htx.1 h)) (Ev.now _)

-- impl_SumMore
theorem impl_SumMore_l1_ev (s : ByteArray) (m i : Int) (n : Nat) : ∀ (x j r : Int), U32 x → 0 ≤ j → j ≤ 8 → 8 - j = n →
    Ev (fun k => impl_SumMore.l0 k (crcN n x) s m (wrap64 (i + 1))) r → Ev (fun k => impl_SumMore.l1 k x s m i j) r := by
  induction n with
  | zero =>
    intro x j r hx h0 h1 hn h
    refine Ev.step (fun k => ?_) h
    simp only [impl_SumMore.l1]
    rw [if_neg (by omega)]
    rfl
  | succ n ih =>
    intro x j r hx h0 h1 hn h
    refine Ev.step (fun k => ?_) (ih (crc1 x) (j + 1) r (crc1_u32 hx) (by omega) (by omega) (by omega) h)
    simp only [impl_SumMore.l1]
    rw [if_pos (by omega), u32_and1 hx, w64 (by omega) (by omega)]
    unfold crc1
    by_cases hp : x % 2 = 1
    · rw [if_pos hp, if_pos hp]
    · rw [if_neg hp, if_neg hp]
theorem impl_SumMore_l0_ev (s : ByteArray) (hs : s.size ≤ 9223372036854775000) (d : Nat) : ∀ (x : Int) (i : Nat), U32 x → i + d = s.size →
    Ev (fun k => impl_SumMore.l0 k x s (s.size : Int) (i : Int)) (crcS ((B s).drop i) x) := by
  induction d with
  | zero =>
    intro x i hx hi
    rw [B_dropAll s i (by omega)]
    refine Ev.step (f := fun _ => some x) (fun k => ?_) (Ev.now _)
    simp only [impl_SumMore.l0]
    rw [if_neg (by omega)]
  | succ d ih =>
    intro x i hx hi
    have hlt : i < s.size := by omega
    rw [B_drop s i hlt, crcS]
    have h1 := ih (crcB x (bt s i)) (i + 1) (crcB_u32 _ _) (by omega)
    have h2 := impl_SumMore_l1_ev s (s.size : Int) i 8 (Go.bits .xor .u32 x (bt s i)) 0 _ (u32_bits _ _ _) (by omega) (by omega) (by omega)
      (by rw [w64 (by omega) (by omega)]; exact h1)
    refine Ev.step (fun k => ?_) h2
    simp only [impl_SumMore.l0]
    rw [if_pos (by omega), if_pos (by omega), if_pos (by omega), u32_mod (bt_b s i)]
theorem impl_SumMore_ev (x : Int) (s : ByteArray) (hx : U32 x) (hs : s.size ≤ 9223372036854775000) : Ev (fun k => impl_SumMore.f k x s) (crcS (B s) x) :=
  impl_SumMore_l0_ev s hs s.size x 0 hx (by omega)

-- impl_SumOf
theorem impl_SumOf_ev (s : ByteArray) (hs : s.size ≤ 9223372036854775000) : Ev (fun k => impl_SumOf.f k s) (sumB s) :=
  Ev.bind (f := fun _ t => some t) (impl_SumMore_ev _ s u32_ff hs) (Ev.now _)

-- impl_Sealed
theorem impl_Sealed_yes (s : ByteArray) (hs : s.size ≤ 20000) : Ev (fun k => impl_Sealed.f k s) (sealB s, true) := by
  unfold impl_Sealed.f
  refine ev_neg (by omega) ?_
  refine Ev.bind (impl_SumOf_ev s (by omega)) ?_
  refine Ev.bind (Ev.now _) (ev_pos ?_ (Ev.now _))
  have := four_size (sumB s)
  unfold fourL at this
  omega
theorem impl_Sealed_no (s : ByteArray) (hs : ¬ s.size ≤ 20000) : Ev (fun k => impl_Sealed.f k s) (⟨#[]⟩, false) := by
  unfold impl_Sealed.f
  exact ev_pos (by omega) (Ev.now _)

-- impl_Unsealed
theorem impl_Unsealed_ev (s : ByteArray) (hs : s.size ≤ 9223372036854775000) : Ev (fun k => impl_Unsealed.f k s) (unsealB s) := by
  unfold impl_Unsealed.f unsealB
  refine ev_ite (fun h => ev_some (by rw [if_pos (by omega)])) (fun h => ?_)
  rw [w64 (by omega) (by omega)]
  have hn : ((s.size : Int) - 4).toNat = s.size - 4 := by omega
  rw [hn]
  refine ev_pos (by omega) (ev_pos (by omega) ?_)
  have he := ext_size s (s.size - 4) (by omega)
  by_cases h2 : s.size - 4 > 20000
  · rw [if_pos (.inr h2)]
    exact Ev.bind (impl_Sealed_no _ (by omega)) (ev_neg (by simp) (Ev.now _))
  · rw [if_neg (by omega)]
    refine Ev.bind (impl_Sealed_yes _ (by omega)) (ev_pos rfl ?_)
    have htx := seal_iff s (by omega)
    by_cases hc : (B s).drop (s.size - 4) = fourL (sumB (s.extract 0 (s.size - 4)))
    · rw [if_pos hc]; exact ev_pos (htx.2 hc) (Ev.now _)
    · rw [if_neg hc]; exact ev_neg (fun h => hc (htx.1 h)) (Ev.now _)

-- FnExactUnsealed
theorem FnExactUnsealed : laws_FnExactUnsealed.Pure := by
  intro s hs
  refine ev_ex ?_
  unfold laws_FnExactUnsealed.f
  refine ev_ite (fun _ => Ev.now _) (fun hsz => ?_)
  exact Ev.bind (spec_Unsealed_ev s (by omega)) (Ev.bind (impl_Unsealed_ev s (by omega)) (ev_pos rfl (ev_neg (by simp) (Ev.now _))))

end Go.Proofs.Ytjkjhaiemephdaa.Pure
