/- Proved: for every text that the row lets in, the law FnExactHex returns true; there are no other conditions. -/
import Derived.Test.YtbdepabelielfaaPFnExactHexx1
set_option linter.unusedVariables false
set_option linter.unusedSimpArgs false
namespace Go.Proofs.Ytbdepabelielfaa.Pure
open Go.RowKit Go.Proofs.Ytbdepabelielfaa.PFnExactHex Go.Proofs.YtbdepabelielfaaW.PrintWords Go.Proofs.YtbdepabelielfaaW.PrintLast

-- base
theorem w64 {x : Int} (h0 : -9223372036854775808 ≤ x) (h1 : x ≤ 9223372036854775807) : wrap64 x = x := by unfold wrap64; omega
theorem bt_b (s : ByteArray) (i : Int) : 0 ≤ bt s i ∧ bt s i < 256 := by have := bt_range s i; omega
theorem wbt (s : ByteArray) (i : Int) : wrap64 (bt s i) = bt s i := by have := bt_range s i; exact w64 (by omega) (by omega)
theorem tmodp {x m : Int} (h : 0 ≤ x) : Int.tmod x m = x % m := Int.tmod_eq_emod_of_nonneg h
theorem tdivp {x m : Int} (h : 0 ≤ x) : Int.tdiv x m = x / m := Int.tdiv_eq_ediv_of_nonneg h
/-- The bytes of a text, as numbers. -/
def B (s : ByteArray) : List Int := s.data.toList.map fun u => (u.toNat : Int)
def Byt (xs : List Int) : Prop := ∀ x ∈ xs, 0 ≤ x ∧ x < 256
theorem B_len (s : ByteArray) : (B s).length = s.size := by simp [B]
theorem B_byt (s : ByteArray) : Byt (B s) := by
  intro x hx
  obtain ⟨u, _, rfl⟩ := List.mem_map.1 hx
  have := u.toNat_lt
  omega
theorem B_str (xs : List Int) (h : Byt xs) : B (strOfNums xs) = xs := by
  simp only [B, strOfNums, List.map_map]
  conv => rhs; rw [← List.map_id xs]
  apply List.map_congr_left
  intro x hx
  have := h x hx
  simp only [Function.comp, UInt8.toNat_ofNat', id]
  omega
theorem str_B (s : ByteArray) : strOfNums (B s) = s := by
  apply Go.WideShapes.bytes_inj
  simp only [B, strOfNums, List.map_map]
  conv => rhs; rw [← List.map_id s.data.toList]
  apply List.map_congr_left
  intro x hx
  simp [Function.comp]
theorem B_inj {s t : ByteArray} (h : B s = B t) : s = t := by rw [← str_B s, ← str_B t, h]
theorem B_append (s t : ByteArray) : B (s ++ t) = B s ++ B t := by simp [B, ByteArray.data_append]
theorem B_extract (s : ByteArray) (a b : Nat) : B (s.extract a b) = ((B s).take b).drop a := by
  simp only [B, ByteArray.data_extract, Array.toList_extract, List.extract_eq_take_drop]
  rw [← List.map_take, ← List.map_drop, List.drop_take]
theorem B_bt (s : ByteArray) (i : Nat) (h : i < s.size) : (B s)[i]? = some (bt s i) := by
  have h' : i < s.data.toList.length := by rw [Array.length_toList]; exact h
  rw [B, List.getElem?_map, List.getElem?_eq_getElem h']
  simp [bt, h, ByteArray.getElem_eq_getElem_data]
theorem B_nil : B (⟨#[]⟩ : ByteArray) = [] := rfl
theorem tl_iff (s t : ByteArray) : s.toList = t.toList ↔ B s = B t := by
  rw [ByteArray.toList_eq, ByteArray.toList_eq]
  constructor
  · intro h; simp [B, h]
  · intro h; rw [B_inj h]
theorem byt_app {xs ys : List Int} (h : Byt xs) (k : Byt ys) : Byt (xs ++ ys) := by
  intro x hx
  rcases List.mem_append.1 hx with hx | hx
  · exact h x hx
  · exact k x hx
theorem wf_u32 {x : Int} (h : (Lit.int .u32 x).wf = true) : 0 ≤ x ∧ x < 4294967296 := by
  simp only [Lit.wf, IntKind.min, IntKind.max, IntKind.signed, IntKind.bits, Bool.and_eq_true, decide_eq_true_eq] at h
  simp at h
  omega
theorem wf_i64 {x : Int} (h : (Lit.int .i64 x).wf = true) : -9223372036854775808 ≤ x ∧ x ≤ 9223372036854775807 := by
  simp only [Lit.wf, IntKind.min, IntKind.max, IntKind.signed, IntKind.bits, Bool.and_eq_true, decide_eq_true_eq] at h
  simp at h
  omega
theorem ev_ex {α : Type} {g : Nat → Option α} {r : α} (h : Ev g r) : ∃ k, g k = some r := h.rounds

-- sum
def U32 (x : Int) : Prop := 0 ≤ x ∧ x < 4294967296
theorem u32_bits (o : BinOp) (x y : Int) : U32 (Go.bits o .u32 x y) := by
  unfold Go.bits
  simp only [Go.IntKind.wrap_u32]
  unfold U32
  omega
theorem u32_and1 {x : Int} (h : U32 x) : Go.bits .and .u32 x 1 = x % 2 :=
  Go.bits_mask .u32 32 (by decide) (fun n h0 h1 => by rw [Go.IntKind.wrap_u32]; omega) 1 (by decide) x h.1 h.2
/-- One bit of the sum. -/
def crc1 (x : Int) : Int := if x % 2 = 1 then Go.bits .xor .u32 (x / 2) 3558460437 else x / 2
theorem crc1_u32 {x : Int} (h : U32 x) : U32 (crc1 x) := by
  unfold crc1
  split
  · exact u32_bits _ _ _
  · unfold U32 at *; omega
def crcN : Nat → Int → Int
  | 0, x => x
  | n + 1, x => crcN n (crc1 x)
theorem crcN_u32 (n : Nat) : ∀ {x : Int}, U32 x → U32 (crcN n x) := by
  induction n with
  | zero => intro x h; exact h
  | succ n ih => intro x h; exact ih (crc1_u32 h)
/-- One byte of the sum. -/
def crcB (x b : Int) : Int := crcN 8 (Go.bits .xor .u32 x b)
theorem crcB_u32 (x b : Int) : U32 (crcB x b) := crcN_u32 8 (u32_bits _ _ _)
/-- The sum of bytes. -/
def crcS : List Int → Int → Int
  | [], x => x
  | b :: bs, x => crcS bs (crcB x b)
theorem crcS_u32 (bs : List Int) : ∀ {x : Int}, U32 x → U32 (crcS bs x) := by
  induction bs with
  | nil => intro x h; exact h
  | cons b bs ih => intro x h; exact ih (crcB_u32 x b)
theorem B_drop (s : ByteArray) (i : Nat) (h : i < s.size) : (B s).drop i = bt s i :: (B s).drop (i + 1) := by
  have hl : i < (B s).length := by rw [B_len]; exact h
  rw [List.drop_eq_getElem_cons hl]
  have h1 := B_bt s i h
  rw [List.getElem?_eq_getElem hl] at h1
  rw [Option.some.inj h1]
theorem B_dropAll (s : ByteArray) (i : Nat) (h : s.size ≤ i) : (B s).drop i = [] := List.drop_eq_nil_of_le (by rw [B_len]; exact h)
theorem u32_mod {b : Int} (h : 0 ≤ b ∧ b < 256) : b % 4294967296 = b := by omega

-- evtools
theorem ev_ite {α : Type} {c : Prop} [Decidable c] {g f : Nat → Option α} {r : α} (h : c → Ev g r) (k : ¬ c → Ev f r) : Ev (fun n => if c then g n else f n) r := by
  by_cases hc : c
  · exact Ev.congr (fun n => by rw [if_pos hc]) (h hc)
  · exact Ev.congr (fun n => by rw [if_neg hc]) (k hc)
theorem ev_pos {α : Type} {c : Prop} [Decidable c] {g f : Nat → Option α} {r : α} (hc : c) (h : Ev g r) : Ev (fun n => if c then g n else f n) r := Ev.congr (fun n => by rw [if_pos hc]) h
theorem ev_neg {α : Type} {c : Prop} [Decidable c] {g f : Nat → Option α} {r : α} (hc : ¬ c) (h : Ev f r) : Ev (fun n => if c then g n else f n) r := Ev.congr (fun n => by rw [if_neg hc]) h
theorem ev_some {α : Type} {x r : α} (h : x = r) : Ev (fun _ => some x) r := by rw [h]; exact Ev.now _
theorem ev_eq {α : Type} {x : Option α} {r : α} (h : x = some r) : Ev (fun _ => x) r := by rw [h]; exact Ev.now _

-- hex
def figN (x : Int) : Int := if x < 10 then 48 + x else 87 + x
def hexL : List Int → List Int
  | [] => []
  | b :: bs => figN (b / 16) :: figN (b % 16) :: hexL bs
theorem hexL_len (bs : List Int) : (hexL bs).length = 2 * bs.length := by
  induction bs with
  | nil => rfl
  | cons b bs ih => simp only [hexL, List.length_cons, ih]; omega

-- spec_Hex
theorem spec_l01Figure_eq (x : Int) (h0 : 0 ≤ x) (h1 : x < 16) : spec_l01Figure.f x = some (figN x) := by
  unfold spec_l01Figure.f figN
  by_cases h : x < 10
  · rw [if_pos h, if_pos h, w64 (by omega) (by omega)]; congr 1; omega
  · rw [if_neg h, if_neg h, w64 (x := 97 + x) (by omega) (by omega), w64 (by omega) (by omega)]; congr 1; omega
theorem spec_Hex_l0_ev (s : ByteArray) (hs : s.size ≤ 20000) (d : Nat) : ∀ (i : Nat) (acc : List Int), i + d = s.size → acc.length ≤ 2 * i →
    Ev (fun k => spec_Hex.l0 k s acc (i : Int)) (strOfNums (acc ++ hexL ((B s).drop i)), true) := by
  induction d with
  | zero =>
    intro i acc hi ha
    rw [B_dropAll s i (by omega), hexL, List.append_nil]
    refine Ev.step (f := fun _ => some (strOfNums acc, true)) (fun k => ?_) (Ev.now _)
    simp only [spec_Hex.l0]
    rw [if_neg (by omega)]
  | succ d ih =>
    intro i acc hi ha
    have hlt : i < s.size := by omega
    have hb := bt_b s i
    rw [B_drop s i hlt, hexL]
    have h1 := ih (i + 1) (acc ++ [figN (bt s i / 16), figN (bt s i % 16)]) (by omega) (by simp only [List.length_append, List.length_cons, List.length_nil]; omega)
    rw [List.append_assoc] at h1
    refine Ev.step (fun k => ?_) h1
    simp only [spec_Hex.l0]
    rw [if_pos (by omega), if_pos (by omega), wbt, tdivp hb.1, tmodp hb.1, w64 (x := bt s i / 16) (by omega) (by omega), spec_l01Figure_eq _ (by omega) (by omega), Option.bind_some, spec_l01Figure_eq _ (by omega) (by omega), Option.bind_some, Option.bind_some, if_pos (by simp only [List.length_cons, List.length_nil]; omega), w64 (by omega) (by omega)]
    rfl
theorem spec_Hex_yes (s : ByteArray) (hs : s.size ≤ 20000) : Ev (fun k => spec_Hex.f k s) (strOfNums (hexL (B s)), true) := by
  unfold spec_Hex.f
  exact ev_neg (by omega) (spec_Hex_l0_ev s hs s.size 0 [] (by omega) (by simp))
theorem spec_Hex_no (s : ByteArray) (hs : ¬ s.size ≤ 20000) : Ev (fun k => spec_Hex.f k s) (⟨#[]⟩, false) := by
  unfold spec_Hex.f
  exact ev_pos (by omega) (Ev.now _)

-- figs
def figs : ByteArray := ⟨#[48, 49, 50, 51, 52, 53, 54, 55, 56, 57, 97, 98, 99, 100, 101, 102]⟩
theorem figs_bt (x : Int) (h0 : 0 ≤ x) (h1 : x < 16) : bt figs x = figN x := by
  have h : ∀ n : Fin 16, bt figs (n.val : Int) = figN (n.val : Int) := by decide
  have := h ⟨x.toNat, by omega⟩
  simp only at this
  rwa [Int.toNat_of_nonneg h0] at this

-- impl_Hex
theorem impl_Hex_l0_ev (s : ByteArray) (hs : s.size ≤ 20000) (d : Nat) : ∀ (i : Nat) (acc : List Int), i + d = s.size → acc.length ≤ 2 * i →
    Ev (fun k => impl_Hex.l0 k s acc (s.size : Int) (i : Int)) (strOfNums (acc ++ hexL ((B s).drop i)), true) := by
  induction d with
  | zero =>
    intro i acc hi ha
    rw [B_dropAll s i (by omega), hexL, List.append_nil]
    refine Ev.step (f := fun _ => some (strOfNums acc, true)) (fun k => ?_) (Ev.now _)
    simp only [impl_Hex.l0]
    rw [if_neg (by omega)]
  | succ d ih =>
    intro i acc hi ha
    have hlt : i < s.size := by omega
    have hb := bt_b s i
    rw [B_drop s i hlt, hexL]
    have h1 := ih (i + 1) (acc ++ [figN (bt s i / 16), figN (bt s i % 16)]) (by omega) (by simp only [List.length_append, List.length_cons, List.length_nil]; omega)
    rw [List.append_assoc] at h1
    refine Ev.step (fun k => ?_) h1
    have hf1 := figs_bt (bt s i / 16) (by omega) (by omega)
    have hf2 := figs_bt (bt s i % 16) (by omega) (by omega)
    unfold figs at hf1 hf2
    simp only [impl_Hex.l0]
    rw [Go.u8_and15 _ hb.1 hb.2, hf1, hf2, if_pos (by omega), if_pos (by omega), if_pos (by omega), if_pos (by omega), if_pos (by omega), if_pos (by omega), if_pos (by omega), Option.bind_some, if_pos (by simp only [List.length_cons, List.length_nil]; omega), w64 (by omega) (by omega)]
    rfl
theorem impl_Hex_yes (s : ByteArray) (hs : s.size ≤ 20000) : Ev (fun k => impl_Hex.f k s) (strOfNums (hexL (B s)), true) := by
  unfold impl_Hex.f
  exact ev_neg (by omega) (impl_Hex_l0_ev s hs s.size 0 [] (by omega) (by simp))
theorem impl_Hex_no (s : ByteArray) (hs : ¬ s.size ≤ 20000) : Ev (fun k => impl_Hex.f k s) (⟨#[]⟩, false) := by
  unfold impl_Hex.f
  exact ev_pos (by omega) (Ev.now _)

-- FnExactHex
theorem FnExactHex : laws_FnExactHex.Pure := by
  intro s hs
  refine ev_ex ?_
  unfold laws_FnExactHex.f
  refine ev_ite (fun _ => Ev.now _) (fun _ => ?_)
  by_cases h : s.size ≤ 20000
  · exact Ev.bind (spec_Hex_yes s h) (Ev.bind (impl_Hex_yes s h) (ev_pos rfl (ev_neg (by simp) (Ev.now _))))
  · exact Ev.bind (spec_Hex_no s h) (Ev.bind (impl_Hex_no s h) (ev_pos rfl (ev_neg (by simp) (Ev.now _))))

end Go.Proofs.Ytbdepabelielfaa.Pure
