import Derived.Test.YtnecbkognpponaaXFnRecordsQlawsFnRecords
/- Proved: the pure statement of the law FnRecords, for every input that its statement lets in. -/

set_option linter.unusedVariables false
set_option linter.unusedSimpArgs false
namespace Go.Proofs.Ytnecbkognpponaa.Pure
open Go.RowKit Go.Proofs.Ytnecbkognpponaa.Q Go.Proofs.YtnecbkognpponaaW.PrintWords Go.Proofs.YtnecbkognpponaaW.PrintLast

theorem w64 {x : Int} (h0 : -9223372036854775808 ≤ x) (h1 : x ≤ 9223372036854775807) : wrap64 x = x := by unfold wrap64; omega
theorem bt_b (s : ByteArray) (i : Int) : 0 ≤ bt s i ∧ bt s i < 256 := by have := bt_range s i; omega
theorem wbt (s : ByteArray) (i : Int) : wrap64 (bt s i) = bt s i := by have := bt_range s i; exact w64 (by omega) (by omega)
theorem tmodp {x m : Int} (h : 0 ≤ x) : Int.tmod x m = x % m := Int.tmod_eq_emod_of_nonneg h
theorem tdivp {x m : Int} (h : 0 ≤ x) : Int.tdiv x m = x / m := Int.tdiv_eq_ediv_of_nonneg h
/-- The bytes of a text, as numbers. -/
def B (s : ByteArray) : List Int := s.data.toList.map fun u => (u.toNat : Int)
def Byt (xs : List Int) : Prop := ∀ x ∈ xs, 0 ≤ x ∧ x < 256
theorem B_len (s : ByteArray) : (B s).length = s.size := by simp [B]
theorem B_byt (s : ByteArray) : Byt (B s) := by
  intro x hx
  obtain ⟨u, _, rfl⟩ := List.mem_map.1 hx
  have := u.toNat_lt
  omega
theorem B_str (xs : List Int) (h : Byt xs) : B (strOfNums xs) = xs := by
  simp only [B, strOfNums, List.map_map]
  conv => rhs; rw [← List.map_id xs]
  apply List.map_congr_left
  intro x hx
  have := h x hx
  simp only [Function.comp, UInt8.toNat_ofNat', id]
  omega
theorem str_B (s : ByteArray) : strOfNums (B s) = s := by
  apply Go.WideShapes.bytes_inj
  simp only [B, strOfNums, List.map_map]
  conv => rhs; rw [← List.map_id s.data.toList]
  apply List.map_congr_left
  intro x hx
  simp [Function.comp]
theorem B_inj {s t : ByteArray} (h : B s = B t) : s = t := by rw [← str_B s, ← str_B t, h]
theorem B_extract (s : ByteArray) (a b : Nat) : B (s.extract a b) = ((B s).take b).drop a := by
  simp only [B, ByteArray.data_extract, Array.toList_extract, List.extract_eq_take_drop]
  rw [← List.map_take, ← List.map_drop, List.drop_take]
theorem B_bt (s : ByteArray) (i : Nat) (h : i < s.size) : (B s)[i]? = some (bt s i) := by
  have h' : i < s.data.toList.length := by rw [Array.length_toList]; exact h
  rw [B, List.getElem?_map, List.getElem?_eq_getElem h']
  simp [bt, h, ByteArray.getElem_eq_getElem_data]
theorem tl_iff (s t : ByteArray) : s.toList = t.toList ↔ B s = B t := by
  rw [ByteArray.toList_eq, ByteArray.toList_eq]
  constructor
  · intro h; simp [B, h]
  · intro h; rw [B_inj h]
theorem byt_app {xs ys : List Int} (h : Byt xs) (k : Byt ys) : Byt (xs ++ ys) := by
  intro x hx
  rcases List.mem_append.1 hx with hx | hx
  · exact h x hx
  · exact k x hx
theorem ev_ex {α : Type} {g : Nat → Option α} {r : α} (h : Ev g r) : ∃ k, g k = some r := h.rounds

/-- A number in bytes, of seven bits each. -/
def varL : Nat → Int → List Int
  | 0, n => [n % 256]
  | d + 1, n => if n > 127 then (n % 128 + 128) :: varL d (n / 128) else [n % 256]
theorem varL_byt (d : Nat) : ∀ n, Byt (varL d n) := by
  induction d with
  | zero => intro n x hx; rw [varL, List.mem_singleton] at hx; omega
  | succ d ih =>
    intro n x hx
    rw [varL] at hx
    split at hx
    · rcases List.mem_cons.1 hx with rfl | hx
      · omega
      · exact ih _ x hx
    · rw [List.mem_singleton] at hx; omega
theorem varL_len (d : Nat) : ∀ n, 0 < (varL d n).length ∧ (varL d n).length ≤ d + 1 := by
  induction d with
  | zero => intro n; simp [varL]
  | succ d ih =>
    intro n
    rw [varL]
    split
    · have := ih (n / 128); simp only [List.length_cons]; omega
    · simp
def varN (n : Int) : List Int := varL 9 n
theorem varN_byt (n : Int) : Byt (varN n) := varL_byt 9 n
theorem varN_len (n : Int) : 0 < (varN n).length ∧ (varN n).length ≤ 10 := varL_len 9 n

theorem B_drop (s : ByteArray) (i : Nat) (h : i < s.size) : (B s).drop i = bt s i :: (B s).drop (i + 1) := by
  have hl : i < (B s).length := by rw [B_len]; exact h
  rw [List.drop_eq_getElem_cons hl]
  have h1 := B_bt s i h
  rw [List.getElem?_eq_getElem hl] at h1
  rw [Option.some.inj h1]
theorem B_dropAll (s : ByteArray) (i : Nat) (h : s.size ≤ i) : (B s).drop i = [] := List.drop_eq_nil_of_le (by rw [B_len]; exact h)
theorem ev_ite {α : Type} {c : Prop} [Decidable c] {g f : Nat → Option α} {r : α} (h : c → Ev g r) (k : ¬ c → Ev f r) : Ev (fun n => if c then g n else f n) r := by
  by_cases hc : c
  · exact Ev.congr (fun n => by rw [if_pos hc]) (h hc)
  · exact Ev.congr (fun n => by rw [if_neg hc]) (k hc)
theorem ev_pos {α : Type} {c : Prop} [Decidable c] {g f : Nat → Option α} {r : α} (hc : c) (h : Ev g r) : Ev (fun n => if c then g n else f n) r := Ev.congr (fun n => by rw [if_pos hc]) h
theorem ev_neg {α : Type} {c : Prop} [Decidable c] {g f : Nat → Option α} {r : α} (hc : ¬ c) (h : Ev f r) : Ev (fun n => if c then g n else f n) r := Ev.congr (fun n => by rw [if_neg hc]) h
theorem ev_some {α : Type} {x r : α} (h : x = r) : Ev (fun _ => some x) r := by rw [h]; exact Ev.now _
theorem ev_succ {α : Type} {g : Nat → Option α} {r : α} (h : Ev (fun k => g (k + 1)) r) : Ev g r := Ev.step (fun _ => rfl) h
theorem ev_to {α : Type} {g : Nat → Option α} {r r' : α} (h : Ev g r) (e : r = r') : Ev g r' := e ▸ h

def valL : List Int → Int
  | [] => 0
  | b :: bs => b % 128 + 128 * valL bs
theorem valL_bd (bs : List Int) : 0 ≤ valL bs ∧ valL bs < 128 ^ bs.length := by
  induction bs with
  | nil => simp [valL]
  | cons b bs ih =>
    simp only [valL, List.length_cons, Int.pow_succ]
    omega
theorem valL_snoc (bs : List Int) (b : Int) : valL (bs ++ [b]) = valL bs + b % 128 * 128 ^ bs.length := by
  induction bs with
  | nil => simp [valL]
  | cons c bs ih =>
    simp only [List.cons_append, valL, ih, List.length_cons, Int.pow_succ]
    generalize (128 : Int) ^ bs.length = p
    generalize b % 128 = q
    have e : q * (p * 128) = 128 * (q * p) := by rw [← Int.mul_assoc, Int.mul_comm]
    omega
theorem pw_bd (j : Nat) (h : j ≤ 5) : 1 ≤ (128 : Int) ^ j ∧ (128 : Int) ^ j ≤ 34359738368 := by
  have h' : ∀ n : Fin 6, 1 ≤ (128 : Int) ^ n.val ∧ (128 : Int) ^ n.val ≤ 34359738368 := by decide
  exact h' ⟨j, by omega⟩
/-- A number is told by its bytes alone, the last of them not 0 behind others. -/
theorem varL_val (pre : List Int) : ∀ (d : Nat) (b : Int), (∀ x ∈ pre, 128 ≤ x ∧ x < 256) → 0 ≤ b → b < 128 → pre.length ≤ d →
    (varL d (valL (pre ++ [b])) = pre ++ [b] ↔ ¬ (b = 0 ∧ pre ≠ [])) := by
  induction pre with
  | nil =>
    intro d b _ h0 h1 _
    have hb : b % 128 = b := by omega
    simp only [List.nil_append, valL, hb]
    constructor
    · intro _ h; exact h.2 rfl
    · intro _
      cases d with
      | zero => simp only [varL]; congr 1; omega
      | succ d => simp only [varL]; rw [if_neg (by omega)]; congr 1; omega
  | cons c pre ih =>
    intro d b hp h0 h1 hl
    obtain ⟨d, rfl⟩ : ∃ m, d = m + 1 := ⟨d - 1, by simp only [List.length_cons] at hl; omega⟩
    have hc := hp c List.mem_cons_self
    have hi := ih d b (fun x hx => hp x (List.mem_cons_of_mem _ hx)) h0 h1 (by simp only [List.length_cons] at hl; omega)
    have hv := valL_bd (pre ++ [b])
    simp only [List.cons_append, valL]
    generalize hq : valL (pre ++ [b]) = q at hi hv ⊢
    simp only [varL]
    by_cases hq0 : q = 0
    · have hb0 : b = 0 := by
        rw [valL_snoc] at hq
        have h2 := valL_bd pre
        have h3 : 0 < (128 : Int) ^ pre.length := Int.pow_pos (by decide)
        have h4 : 0 ≤ b % 128 * 128 ^ pre.length := Int.mul_nonneg (by omega) (Int.le_of_lt h3)
        have h5 : b % 128 * 128 ^ pre.length = 0 := by omega
        rcases Int.mul_eq_zero.1 h5 with h6 | h6
        · omega
        · omega
      rw [if_neg (by omega)]
      constructor
      · intro h
        have := congrArg List.length h
        simp at this
      · intro h
        exact absurd ⟨hb0, by simp⟩ h
    · rw [if_pos (by omega), show (c % 128 + 128 * q) % 128 + 128 = c by omega, show (c % 128 + 128 * q) / 128 = q by omega, List.cons.injEq]
      constructor
      · rintro ⟨_, h⟩ ⟨hb0, _⟩
        have h2 := hi.1 h
        by_cases hpn : pre = []
        · subst hpn
          simp only [List.nil_append, valL, hb0] at hq
          omega
        · exact h2 ⟨hb0, hpn⟩
      · intro h
        exact ⟨rfl, hi.2 (fun h2 => h ⟨h2.1, by simp⟩)⟩
/-- Reading a number: what is read is n, the place i. -/
def rvM (a : Nat) : Nat → List Int → Int → Int → Nat → Int × Int × Bool
  | 0, _, _, _, _ => (0, 0, false)
  | _ + 1, [], _, _, _ => (0, 0, false)
  | f + 1, b :: bs, n, u, i => if b < 128 then (if (b = 0 ∧ a < i) ∨ n + b % 128 * u > 1000000000 then (0, 0, false) else (n + b % 128 * u, (i : Int) + 1, true)) else rvM a f bs (n + b % 128 * u) (u * 128) (i + 1)
def rvB (s : ByteArray) (a : Nat) : Int × Int × Bool := rvM a 5 ((B s).drop a) 0 1 a
/-- What was read till place i. -/
def preB (s : ByteArray) (a i : Nat) : List Int := ((B s).take i).drop a
theorem preB_nil (s : ByteArray) (a : Nat) : preB s a a = [] := List.drop_eq_nil_of_le (by rw [List.length_take]; omega)
theorem preB_len (s : ByteArray) (a i : Nat) (hi : i ≤ s.size) : (preB s a i).length = i - a := by
  simp only [preB, List.length_drop, List.length_take, B_len]; omega
theorem preB_snoc (s : ByteArray) (a i : Nat) (ha : a ≤ i) (hi : i < s.size) : preB s a (i + 1) = preB s a i ++ [bt s i] := by
  have hl : i < (B s).length := by rw [B_len]; exact hi
  have h1 := B_bt s i hi
  rw [List.getElem?_eq_getElem hl] at h1
  unfold preB
  rw [List.take_succ_eq_append_getElem hl, List.drop_append_of_le_length (by rw [List.length_take]; omega), Option.some.inj h1]

theorem rvM_ok (a : Nat) (f : Nat) : ∀ (L : List Int) (n u : Int) (i : Nat) (m j : Int), 0 ≤ n → 0 ≤ u → rvM a f L n u i = (m, j, true) → 0 ≤ m ∧ m ≤ 1000000000 ∧ (i : Int) < j ∧ j ≤ i + L.length := by
  induction f with
  | zero => intro L n u i m j _ _ h; simp [rvM] at h
  | succ f ih =>
    intro L n u i m j hn hu h
    cases L with
    | nil => simp [rvM] at h
    | cons b bs =>
      have hp : 0 ≤ b % 128 * u := Int.mul_nonneg (by omega) hu
      rw [rvM] at h
      by_cases hb : b < 128
      · rw [if_pos hb] at h
        split at h
        · simp at h
        · rename_i hc
          simp only [Prod.mk.injEq, and_true] at h
          simp only [List.length_cons]
          omega
      · rw [if_neg hb] at h
        have := ih bs (n + b % 128 * u) (u * 128) (i + 1) m j (by omega) (by omega) h
        simp only [List.length_cons]
        omega
theorem rvB_ok (s : ByteArray) (a : Nat) (ha : a ≤ s.size) {m j : Int} (h : rvB s a = (m, j, true)) : 0 ≤ m ∧ m ≤ 1000000000 ∧ (a : Int) < j ∧ j ≤ s.size := by
  have := rvM_ok a 5 _ 0 1 a m j (by omega) (by omega) h
  rw [List.length_drop, B_len] at this
  omega

/-- What a number was read from is its bytes. -/
theorem rvM_enc (a : Nat) : ∀ (f : Nat) (L : List Int) (n u : Int) (i : Nat) (m j : Int) (pre : List Int), Byt L → (∀ x ∈ pre, 128 ≤ x ∧ x < 256) → pre.length + f = 5 → i = a + pre.length → n = valL pre → u = 128 ^ pre.length → rvM a f L n u i = (m, j, true) →
    ∃ p rest, L = p ++ rest ∧ j = (i : Int) + p.length ∧ varN m = pre ++ p
  | 0, L, n, u, i, m, j, pre, _, _, _, _, _, _, h => by simp [rvM] at h
  | f + 1, [], n, u, i, m, j, pre, _, _, _, _, _, _, h => by simp [rvM] at h
  | f + 1, b :: bs, n, u, i, m, j, pre, hL, hp, hl, hi, hn, hu, h => by
    have hb := hL b List.mem_cons_self
    rw [rvM] at h
    by_cases hb1 : b < 128
    · rw [if_pos hb1] at h
      split at h
      · simp at h
      · rename_i hc
        simp only [Prod.mk.injEq, and_true] at h
        have hval : valL (pre ++ [b]) = n + b % 128 * u := by rw [valL_snoc, ← hn, ← hu]
        refine ⟨[b], bs, rfl, by rw [← h.2]; simp, ?_⟩
        rw [← h.1, ← hval]
        refine (varL_val pre 9 b hp (by omega) hb1 (by omega)).2 (fun h2 => hc (Or.inl ⟨h2.1, ?_⟩))
        have : 0 < pre.length := List.length_pos_iff.mpr h2.2
        omega
    · rw [if_neg hb1] at h
      obtain ⟨p, rest, e1, e2, e3⟩ := rvM_enc a f bs _ _ (i + 1) m j (pre ++ [b]) (fun x hx => hL x (List.mem_cons_of_mem _ hx)) (by
        intro x hx
        rcases List.mem_append.1 hx with hx | hx
        · exact hp x hx
        · simp only [List.mem_singleton] at hx; omega) (by simp; omega) (by simp; omega) (by rw [valL_snoc, ← hn, ← hu]) (by rw [hu, List.length_append, List.length_singleton, Int.pow_succ]) h
      refine ⟨b :: p, rest, by rw [e1]; rfl, by rw [e2]; simp; omega, by rw [e3]; simp⟩
theorem rvB_enc (s : ByteArray) (a : Nat) (ha : a ≤ s.size) {m j : Int} (h : rvB s a = (m, j, true)) : (B s).take j.toNat = (B s).take a ++ varN m ∧ j = (a : Int) + (varN m).length := by
  obtain ⟨p, rest, e1, e2, e3⟩ := rvM_enc a 5 ((B s).drop a) 0 1 a m j [] (fun x hx => B_byt s x (List.mem_of_mem_drop hx)) (by intro x hx; cases hx) rfl rfl rfl rfl h
  rw [List.nil_append] at e3
  have hj : j.toNat = a + p.length := by omega
  refine ⟨?_, by rw [e3]; exact e2⟩
  rw [hj, List.take_add, e1, e3]
  simp

theorem spec_l01In_eq (a b c : Int) : spec_l01In.f a b c = some (decide (b ≤ a ∧ a ≤ c)) := by
  unfold spec_l01In.f
  by_cases h : a ≥ b
  · rw [if_pos h]; congr 1; simp; omega
  · rw [if_neg h]; congr 1; simp; omega

theorem spec_l01Var_l0_ev (d : Nat) : ∀ (n : Int) (acc : List Int), 0 ≤ n → n ≤ 9223372036854775807 → n < 128 ^ (d + 1) → acc.length + d < 1000 →
    Ev (fun k => spec_l01Var.l0 k n acc) (strOfNums (acc ++ varL d n)) := by
  induction d with
  | zero =>
    intro n acc h0 hm h1 hl
    refine Ev.step (f := fun _ => some (strOfNums (acc ++ varL 0 n))) (fun k => ?_) (Ev.now _)
    simp only [spec_l01Var.l0, varL]
    rw [if_neg (by omega), if_pos (by omega)]
  | succ d ih =>
    intro n acc h0 hm h1 hl
    by_cases hn : n > 127
    · have hi := ih (n / 128) (acc ++ [n % 128 + 128]) (by omega) (by omega) (by rw [Int.pow_succ] at h1; omega) (by simp only [List.length_append, List.length_cons, List.length_nil]; omega)
      rw [List.append_assoc, List.singleton_append] at hi
      rw [varL, if_pos hn]
      refine Ev.step (fun k => ?_) hi
      simp only [spec_l01Var.l0]
      rw [if_pos hn, if_pos (by omega), tdivp h0, tmodp h0, w64 (by omega) (by omega), w64 (by omega) (by omega), show (n % 128 + 128) % 256 = n % 128 + 128 by omega]
    · rw [varL, if_neg hn]
      refine Ev.step (f := fun _ => some (strOfNums (acc ++ [n % 256]))) (fun k => ?_) (Ev.now _)
      simp only [spec_l01Var.l0]
      rw [if_neg hn, if_pos (by omega)]
theorem spec_l01Var_ev (n : Int) (h0 : 0 ≤ n) (h1 : n ≤ 9223372036854775807) : Ev (fun k => spec_l01Var.f k n) (strOfNums (varN n)) :=
  spec_l01Var_l0_ev 9 n [] h0 h1 (by omega) (by simp)

theorem spec_ReadVar_l0_ev (s : ByteArray) (hs : s.size ≤ 9223372036854775000) (a : Nat) (f : Nat) : ∀ i : Nat, a ≤ i → i - a + f = 5 → i ≤ s.size → (∀ x ∈ preB s a i, 128 ≤ x ∧ x < 256) →
    Ev (fun k => spec_ReadVar.l0 k s a (valL (preB s a i)) (128 ^ (i - a)) i) (rvM a f ((B s).drop i) (valL (preB s a i)) (128 ^ (i - a)) i) := by
  have fail : ∀ (i : Nat) (n u : Int), Ev (fun k => spec_ReadVar.j1 k s a n u i false) (0, 0, false) := by
    intro i n u
    refine Ev.step (f := fun _ => some (0, 0, false)) (fun k => ?_) (Ev.now _)
    simp only [spec_ReadVar.j1]
    rfl
  induction f with
  | zero =>
    intro i ha hf hi _
    rw [rvM]
    refine Ev.step (fun k => ?_) (fail i (valL (preB s a i)) (128 ^ (i - a)))
    simp only [spec_ReadVar.l0]
    by_cases hlt : (i : Int) < s.size
    · rw [if_pos hlt, w64 (by omega) (by omega), decide_eq_false (by omega)]
    · rw [if_neg hlt]
  | succ f ih =>
    intro i ha hf hi hpre
    by_cases hlt : i < s.size
    · have hsn := preB_snoc s a i ha hlt
      have hv := valL_snoc (preB s a i) (bt s i)
      have hlen := preB_len s a i hi
      rw [hlen, ← hsn] at hv
      have hb0 := valL_bd (preB s a i)
      have hb1 := valL_bd (preB s a (i + 1))
      have hl1 := preB_len s a (i + 1) hlt
      have hp0 := pw_bd (i - a) (by omega)
      have hp1 := pw_bd (i + 1 - a) (by omega)
      rw [hlen] at hb0
      rw [hl1] at hb1
      have hbt := bt_b s i
      have hpw : (128 : Int) ^ (i - a) * 128 = 128 ^ (i + 1 - a) := by rw [show i + 1 - a = (i - a) + 1 by omega, Int.pow_succ]
      rw [B_drop s i hlt, rvM]
      have hprod0 : 0 ≤ bt s i % 128 * 128 ^ (i - a) := Int.mul_nonneg (by omega) (by omega)
      have hw1 : wrap64 (bt s i % 128 * 128 ^ (i - a)) = bt s i % 128 * 128 ^ (i - a) := w64 (by omega) (by omega)
      have hw2 : wrap64 (valL (preB s a i) + bt s i % 128 * 128 ^ (i - a)) = valL (preB s a (i + 1)) := by rw [← hv]; exact w64 (by omega) (by omega)
      have hstep : ∀ r, Ev (fun k => spec_ReadVar.j1 k s a (valL (preB s a i)) (128 ^ (i - a)) i true) r → Ev (fun k => spec_ReadVar.l0 k s a (valL (preB s a i)) (128 ^ (i - a)) i) r := by
        intro r h
        refine Ev.step (fun k => ?_) h
        simp only [spec_ReadVar.l0]
        rw [if_pos (by omega), w64 (by omega) (by omega), decide_eq_true (by omega)]
      apply hstep
      rw [← hv]
      by_cases hsm : bt s i < 128
      · rw [if_pos hsm]
        have hiff := varL_val (preB s a i) 9 (bt s i) hpre hbt.1 hsm (by omega)
        rw [← hsn] at hiff
        have hne : preB s a i ≠ [] ↔ a < i := by rw [ne_eq, ← List.length_eq_zero_iff, hlen]; omega
        by_cases hmx : valL (preB s a (i + 1)) > 1000000000
        · rw [if_pos (.inr hmx)]
          refine Ev.step (f := fun _ => some (0, 0, false)) (fun k => ?_) (Ev.now _)
          simp only [spec_ReadVar.j1]
          rw [if_pos trivial, if_pos (by omega), if_pos (by omega), if_pos hsm, wbt, tmodp hbt.1, hw1, hw2, if_pos hmx]
        · have htx : (strOfNums (varN (valL (preB s a (i + 1))))).toList = (s.extract a (i + 1)).toList ↔ ¬ (bt s i = 0 ∧ a < i) := by
            rw [tl_iff, B_str _ (varN_byt _), B_extract]
            show varL 9 (valL (preB s a (i + 1))) = preB s a (i + 1) ↔ _
            rw [hiff, hne]
          have hb := Ev.bind (spec_l01Var_ev (valL (preB s a (i + 1))) hb1.1 (by omega))
            (f := fun _ t => if t.toList = (s.extract a (i + 1)).toList then some (valL (preB s a (i + 1)), (i : Int) + 1, true) else some (0, 0, false))
            (r := if bt s i = 0 ∧ a < i ∨ valL (preB s a (i + 1)) > 1000000000 then (0, 0, false) else (valL (preB s a (i + 1)), (i : Int) + 1, true))
            (by
              by_cases hz : bt s i = 0 ∧ a < i
              · have e : (if bt s i = 0 ∧ a < i ∨ valL (preB s a (i + 1)) > 1000000000 then ((0 : Int), (0 : Int), false) else (valL (preB s a (i + 1)), (i : Int) + 1, true)) = (0, 0, false) := if_pos (.inl hz)
                rw [e]
                exact ev_neg (fun h => (htx.1 h) hz) (Ev.now _)
              · have e : (if bt s i = 0 ∧ a < i ∨ valL (preB s a (i + 1)) > 1000000000 then ((0 : Int), (0 : Int), false) else (valL (preB s a (i + 1)), (i : Int) + 1, true)) = (valL (preB s a (i + 1)), (i : Int) + 1, true) := if_neg (fun h => h.elim hz hmx)
                rw [e]
                exact ev_pos (htx.2 hz) (Ev.now _))
          refine Ev.step (fun k => ?_) hb
          simp only [spec_ReadVar.j1]
          rw [if_pos trivial, if_pos (by omega), if_pos (by omega), if_pos hsm, wbt, tmodp hbt.1, hw1, hw2, if_neg hmx, w64 (x := (i : Int) + 1) (by omega) (by omega)]
          congr 1
          funext t
          rw [if_pos (by omega), if_pos (by omega), if_pos (by omega)]
          rfl
      · have ih' := ih (i + 1) (by omega) (by omega) (by omega) (by
          intro x hx
          rw [hsn] at hx
          rcases List.mem_append.1 hx with hx | hx
          · exact hpre x hx
          · rw [List.mem_singleton.1 hx]; omega)
        rw [if_neg hsm, hpw]
        refine Ev.step (fun k => ?_) ih'
        simp only [spec_ReadVar.j1]
        rw [if_pos trivial, if_pos (by omega), if_pos (by omega), if_neg hsm, wbt, tmodp hbt.1, hw1, hw2, hpw, w64 (x := 128 ^ (i + 1 - a)) (by omega) (by omega), w64 (x := (i : Int) + 1) (by omega) (by omega)]
        rfl
    · rw [B_dropAll s i (by omega), rvM]
      refine Ev.step (fun k => ?_) (fail i (valL (preB s a i)) (128 ^ (i - a)))
      simp only [spec_ReadVar.l0]
      rw [if_neg (by omega)]
theorem spec_ReadVar_yes (s : ByteArray) (hs : s.size ≤ 9223372036854775000) (a : Nat) (ha : a ≤ s.size) : Ev (fun k => spec_ReadVar.f k s a) (rvB s a) := by
  have h := spec_ReadVar_l0_ev s hs a 5 a (Nat.le_refl _) (by omega) ha (by rw [preB_nil]; simp)
  rw [preB_nil, Nat.sub_self] at h
  refine Ev.congr (fun k => ?_) h
  simp only [spec_ReadVar.f, spec_l01In_eq, Option.bind_some]
  rw [if_pos (by simp; omega)]
  rfl
theorem impl_in_eq (a b c : Int) : impl_in.f a b c = some (decide (b ≤ a ∧ a ≤ c)) := by
  unfold impl_in.f
  by_cases h : a ≥ b
  · rw [if_pos h]; congr 1; simp; omega
  · rw [if_neg h]; congr 1; simp; omega

theorem impl_ReadVar_l0_ev (s : ByteArray) (hs : s.size ≤ 9223372036854775000) (a : Nat) (f : Nat) : ∀ i : Nat, a ≤ i → i - a + f = 5 → i ≤ s.size →
    Ev (fun k => impl_ReadVar.l0 k s a (valL (preB s a i)) (128 ^ (i - a)) i) (rvM a f ((B s).drop i) (valL (preB s a i)) (128 ^ (i - a)) i) := by
  have fail : ∀ (i : Nat) (n u : Int), Ev (fun k => impl_ReadVar.j1 k s a n u i false) (0, 0, false) := by
    intro i n u
    refine Ev.step (f := fun _ => some (0, 0, false)) (fun k => ?_) (Ev.now _)
    simp only [impl_ReadVar.j1]
    rfl
  induction f with
  | zero =>
    intro i ha hf hi
    rw [rvM]
    refine Ev.step (fun k => ?_) (fail i (valL (preB s a i)) (128 ^ (i - a)))
    simp only [impl_ReadVar.l0]
    by_cases hlt : (i : Int) < s.size
    · rw [if_pos hlt, w64 (by omega) (by omega), decide_eq_false (by omega)]
    · rw [if_neg hlt]
  | succ f ih =>
    intro i ha hf hi
    by_cases hlt : i < s.size
    · have hsn := preB_snoc s a i ha hlt
      have hv := valL_snoc (preB s a i) (bt s i)
      have hlen := preB_len s a i hi
      rw [hlen, ← hsn] at hv
      have hb0 := valL_bd (preB s a i)
      have hb1 := valL_bd (preB s a (i + 1))
      have hl1 := preB_len s a (i + 1) hlt
      have hp0 := pw_bd (i - a) (by omega)
      have hp1 := pw_bd (i + 1 - a) (by omega)
      rw [hlen] at hb0
      rw [hl1] at hb1
      have hbt := bt_b s i
      have hpw : (128 : Int) ^ (i - a) * 128 = 128 ^ (i + 1 - a) := by rw [show i + 1 - a = (i - a) + 1 by omega, Int.pow_succ]
      have ih' := ih (i + 1) (by omega) (by omega) (by omega)
      rw [B_drop s i hlt, rvM]
      have hprod0 : 0 ≤ bt s i % 128 * 128 ^ (i - a) := Int.mul_nonneg (by omega) (by omega)
      have hw1 : wrap64 (bt s i % 128 * 128 ^ (i - a)) = bt s i % 128 * 128 ^ (i - a) := w64 (by omega) (by omega)
      have hw2 : wrap64 (valL (preB s a i) + bt s i % 128 * 128 ^ (i - a)) = valL (preB s a (i + 1)) := by rw [← hv]; exact w64 (by omega) (by omega)
      have hstep : ∀ r, Ev (fun k => impl_ReadVar.j1 k s a (valL (preB s a i)) (128 ^ (i - a)) i true) r → Ev (fun k => impl_ReadVar.l0 k s a (valL (preB s a i)) (128 ^ (i - a)) i) r := by
        intro r h
        refine Ev.step (fun k => ?_) h
        simp only [impl_ReadVar.l0]
        rw [if_pos (by omega), w64 (by omega) (by omega), decide_eq_true (by omega)]
      apply hstep
      rw [← hv]
      by_cases hsm : bt s i < 128
      · rw [if_pos hsm]
        refine Ev.step (f := fun _ => some (if bt s i = 0 ∧ a < i ∨ valL (preB s a (i + 1)) > 1000000000 then (0, 0, false) else (valL (preB s a (i + 1)), (i : Int) + 1, true))) (fun k => ?_) (Ev.now _)
        simp only [impl_ReadVar.j1]
        rw [if_pos trivial, if_pos (by omega), if_pos (by omega), wbt, if_pos hsm, tmodp hbt.1, hw1, hw2, w64 (x := (i : Int) + 1) (by omega) (by omega)]
        by_cases hz : bt s i = 0
        · rw [if_pos hz]
          by_cases hai : a < i
          · rw [if_pos (by omega), if_pos (.inl ⟨hz, hai⟩)]
          · rw [if_neg (by omega)]
            by_cases hmx : valL (preB s a (i + 1)) > 1000000000
            · rw [if_pos hmx, if_pos (.inr hmx)]
            · rw [if_neg hmx, if_neg (by omega)]
        · rw [if_neg hz]
          by_cases hmx : valL (preB s a (i + 1)) > 1000000000
          · rw [if_pos hmx, if_pos (.inr hmx)]
          · rw [if_neg hmx, if_neg (by omega)]
      · rw [if_neg hsm, hpw]
        refine Ev.step (fun k => ?_) ih'
        simp only [impl_ReadVar.j1]
        rw [if_pos trivial, if_pos (by omega), if_pos (by omega), wbt, if_neg hsm, tmodp hbt.1, hw1, hw2, hpw, w64 (x := 128 ^ (i + 1 - a)) (by omega) (by omega), w64 (x := (i : Int) + 1) (by omega) (by omega)]
        rfl
    · rw [B_dropAll s i (by omega), rvM]
      refine Ev.step (fun k => ?_) (fail i (valL (preB s a i)) (128 ^ (i - a)))
      simp only [impl_ReadVar.l0]
      rw [if_neg (by omega)]
theorem impl_ReadVar_yes (s : ByteArray) (hs : s.size ≤ 9223372036854775000) (a : Nat) (ha : a ≤ s.size) : Ev (fun k => impl_ReadVar.f k s a) (rvB s a) := by
  have h := impl_ReadVar_l0_ev s hs a 5 a (Nat.le_refl _) (by omega) ha
  rw [preB_nil, Nat.sub_self] at h
  refine Ev.congr (fun k => ?_) h
  simp only [impl_ReadVar.f, impl_in_eq, Option.bind_some]
  rw [if_pos (by simp; omega)]
  rfl
theorem drop_at {α : Type} (l : List α) (z : α) (i : Nat) (h : i < l.length) : l.drop i = l.getD i z :: l.drop (i + 1) := by
  rw [List.drop_eq_getElem_cons h, List.getD_eq_getElem?_getD, List.getElem?_eq_getElem h]
  rfl
/-- What is near ascends, and is right; the one before, if there is one. -/
def nearGo (ow : Int) : Option Int → List S63 → Bool
  | _, [] => true
  | p, x :: xs => decide (1 ≤ x.f0 ∧ x.f0 ≤ 6) && !decide (x.f0 = ow) && decide (1 ≤ x.f1 ∧ x.f1 ≤ 1000) && p.all (fun y => decide (y < x.f0)) && nearGo ow (some x.f0) xs
def nearB (ow : Int) (l : List S63) : Bool := nearGo ow none l
def pvN (l : List S63) (i : Nat) : Option Int := if i = 0 then none else some (l.getD (i - 1) z63).f0
theorem pvN_succ (l : List S63) (i : Nat) : pvN l (i + 1) = some (l.getD i z63).f0 := by simp [pvN]
theorem rdNp (l : List S63) (i : Nat) (h : 0 < i) (hl : i < 9223372036854775807) : rd_T63 l (wrap64 ((i : Int) - 1)) = l.getD (i - 1) z63 := by
  rw [w64 (by omega) (by omega), show (i : Int) - 1 = ((i - 1 : Nat) : Int) by omega]
  rfl

/-- Is what a record holds right for its kind? -/
def recK (ar ki ow ke : Int) (l : List S63) (co : Int) (fa : Bool) : Bool :=
  if ki = 1 then decide (0 ≤ ar ∧ ar ≤ 2) && decide (ke = 0) && nearB ow l && decide (co = 0) && !fa
  else if ki = 2 then decide (0 ≤ ar ∧ ar ≤ 2) && decide (1 ≤ ke ∧ ke ≤ 6) && decide (l.length = 0) && decide (0 ≤ co ∧ co ≤ 60000) && !fa
  else if ki = 3 then decide (ar = 9) && decide (1 ≤ ke ∧ ke ≤ 9) && decide (l.length = 0) && (decide (1 ≤ co ∧ co ≤ 1000) || (co == 60000))
  else false
def recB (ar ki ow ke se : Int) (l : List S63) (co : Int) (fa : Bool) : Bool := decide (1 ≤ ow ∧ ow ≤ 6) && decide (1 ≤ se ∧ se ≤ 100000) && recK ar ki ow ke l co fa

theorem str_app (xs ys : List Int) : strOfNums xs ++ strOfNums ys = strOfNums (xs ++ ys) := by
  apply Go.WideShapes.bytes_inj
  simp [strOfNums, ByteArray.data_append]
theorem nearGo_all (ow : Int) (l : List S63) : ∀ p, nearGo ow p l = true → ∀ x ∈ l, 1 ≤ x.f0 ∧ x.f0 ≤ 6 ∧ 1 ≤ x.f1 ∧ x.f1 ≤ 1000 := by
  induction l with
  | nil => intro p _ x hx; simp at hx
  | cons y l ih =>
    intro p h x hx
    rw [nearGo] at h
    simp only [Bool.and_eq_true, decide_eq_true_eq] at h
    rcases List.mem_cons.1 hx with rfl | hx
    · omega
    · exact ih _ h.2 x hx
theorem recB_facts {ar ki ow ke se : Int} {l : List S63} {co : Int} {fa : Bool} (h : recB ar ki ow ke se l co fa = true) :
    1 ≤ ow ∧ ow ≤ 6 ∧ 1 ≤ se ∧ se ≤ 100000 ∧ 0 ≤ ar ∧ ar ≤ 9 ∧ 1 ≤ ki ∧ ki ≤ 3 ∧ 0 ≤ ke ∧ ke ≤ 9 ∧ 0 ≤ co ∧ co ≤ 60000 ∧ (nearB ow l = true ∨ l = []) := by
  unfold recB recK at h
  simp only [Bool.and_eq_true, decide_eq_true_eq] at h
  obtain ⟨⟨h1, h2⟩, h3⟩ := h
  split at h3
  · simp only [Bool.and_eq_true, decide_eq_true_eq] at h3
    exact ⟨by omega, by omega, by omega, by omega, by omega, by omega, by omega, by omega, by omega, by omega, by omega, by omega, .inl h3.1.1.2⟩
  · split at h3
    · simp only [Bool.and_eq_true, decide_eq_true_eq] at h3
      exact ⟨by omega, by omega, by omega, by omega, by omega, by omega, by omega, by omega, by omega, by omega, by omega, by omega, .inr (List.eq_nil_of_length_eq_zero h3.1.1.2)⟩
    · split at h3
      · simp only [Bool.and_eq_true, Bool.or_eq_true, decide_eq_true_eq, beq_iff_eq] at h3
        exact ⟨by omega, by omega, by omega, by omega, by omega, by omega, by omega, by omega, by omega, by omega, by omega, by omega, .inr (List.eq_nil_of_length_eq_zero h3.1.2)⟩
      · cases h3
theorem recB_near {ar ki ow ke se : Int} {l : List S63} {co : Int} {fa : Bool} (h : recB ar ki ow ke se l co fa = true) : ∀ x ∈ l, 1 ≤ x.f0 ∧ x.f0 ≤ 6 ∧ 1 ≤ x.f1 ∧ x.f1 ≤ 1000 := by
  obtain ⟨_, _, _, _, _, _, _, _, _, _, _, _, h⟩ := recB_facts h
  rcases h with h | rfl
  · exact nearGo_all _ _ _ h
  · intro x hx; simp at hx
def nearT : List S63 → List Int
  | [] => []
  | x :: xs => (x.f0 % 256) :: (varN x.f1 ++ nearT xs)
def farT (b : Bool) : List Int := [if b = true then 1 else 0]
/-- A record in bytes. -/
def recT (ar ki ow ke se : Int) (l : List S63) (co : Int) (fa : Bool) : List Int :=
  [ar % 256, ki % 256, ow % 256, ke % 256] ++ varN se ++ varN (l.length : Int) ++ nearT l ++ varN co ++ farT fa

theorem spec_l04Near_l0_ev (q0 q1 ow q3 q4 q6 : Int) (q7 : Bool) (l : List S63) (hl : l.length ≤ 9223372036854775807) (d : Nat) : ∀ i : Nat, i + d = l.length →
    Ev (fun k => spec_l04Near.l0 k i q0 q1 ow q3 q4 l q6 q7) (nearGo ow (pvN l i) (l.drop i)) := by
  induction d with
  | zero =>
    intro i hi
    rw [List.drop_eq_nil_of_le (by omega)]
    apply ev_succ
    simp only [spec_l04Near.l0]
    exact ev_neg (by omega) (ev_some rfl)
  | succ d ih =>
    intro i hi
    have hr := ih (i + 1) (by omega)
    obtain ⟨x, hx⟩ : ∃ x, rd_T63 l (i : Int) = x := ⟨_, rfl⟩
    have hx2 : l.getD i z63 = x := hx
    rw [pvN_succ, hx2] at hr
    rw [drop_at l z63 i (by omega), hx2]
    apply ev_succ
    simp only [spec_l04Near.l0, spec_l01In_eq, Option.bind_some, decide_eq_true_eq, hx]
    rw [nearGo]
    refine ev_pos (by omega) (ev_pos (by omega) ?_)
    refine ev_ite (fun h1 => ?_) (fun h1 => ev_some (by rw [decide_eq_false h1]; rfl))
    refine ev_ite (fun h2 => ev_some (by rw [decide_eq_true h1, decide_eq_true h2]; rfl)) (fun h2 => ?_)
    refine ev_ite (fun h3 => ?_) (fun h3 => ev_some (by rw [decide_eq_true h1, decide_eq_false h2, decide_eq_false h3]; rfl))
    refine ev_ite (fun h4 => ?_) (fun h4 => ?_)
    · have h0 : 0 < i := by omega
      refine ev_pos (by rw [w64 (by omega) (by omega)]; omega) (ev_pos (by rw [w64 (by omega) (by omega)]; omega) ?_)
      have hp : pvN l i = some (l.getD (i - 1) z63).f0 := by unfold pvN; rw [if_neg (by omega)]
      rw [hp, rdNp l i h0 (by omega)]
      refine ev_ite (fun h5 => ev_some ?_) (fun h5 => ?_)
      · have h6 : ¬ ((l.getD (i - 1) z63).f0 < x.f0) := by omega
        simp only [Option.all_some, decide_eq_false h6, Bool.and_false, Bool.false_and]
      · have h6 : (l.getD (i - 1) z63).f0 < x.f0 := by omega
        rw [w64 (by omega) (by omega)]
        refine ev_to hr ?_
        simp only [Option.all_some, decide_eq_true h6, decide_eq_true h1, decide_eq_false h2, decide_eq_true h3, Bool.true_and, Bool.not_false]
    · have h0 : i = 0 := by omega
      have hp : pvN l i = none := by rw [h0]; rfl
      rw [hp, w64 (by omega) (by omega)]
      refine ev_to hr ?_
      simp only [Option.all_none, decide_eq_true h1, decide_eq_false h2, decide_eq_true h3, Bool.true_and, Bool.not_false]
theorem spec_l04Near_ev (q0 q1 ow q3 q4 q6 : Int) (q7 : Bool) (l : List S63) (hl : l.length ≤ 9223372036854775807) : Ev (fun k => spec_l04Near.f k q0 q1 ow q3 q4 l q6 q7) (nearB ow l) :=
  spec_l04Near_l0_ev q0 q1 ow q3 q4 q6 q7 l hl l.length 0 (by omega)

-- spec_RecordOk
/-! spec_RecordOk -/
theorem spec_RecordOk_ev (ar ki ow ke se : Int) (l : List S63) (co : Int) (fa : Bool) (hl : l.length ≤ 9223372036854775807) : Ev (fun k => spec_RecordOk.f k ar ki ow ke se l co fa) (recB ar ki ow ke se l co fa) := by
  have hj : ∀ b : Bool, Ev (fun k => spec_RecordOk.j0 k b ar ki ow ke se l co fa) (!b && recK ar ki ow ke l co fa) := by
    intro b
    apply ev_succ
    simp only [spec_RecordOk.j0, spec_l01In_eq, Option.bind_some, decide_eq_true_eq]
    refine ev_ite (fun hb => ev_some (by simp [hb])) (fun hb => ?_)
    have hb' : b = false := by simpa using hb
    rw [hb']
    unfold recK
    refine ev_ite (fun h1 => ?_) (fun h1 => ?_)
    · rw [if_pos h1]
      refine ev_ite (fun h2 => ?_) (fun h2 => ev_some (by simp [h2]))
      refine ev_ite (fun h3 => ?_) (fun h3 => ev_some (by simp [h3]))
      refine Ev.bind (spec_l04Near_ev ar ki ow ke se co fa l hl) ?_
      refine ev_ite (fun h4 => ?_) (fun h4 => ev_some (by simp [h4]))
      refine ev_ite (fun h5 => ev_some ?_) (fun h5 => ev_some (by simp [h5]))
      simp [h2, h3, h4, h5]
    · rw [if_neg h1]
      refine ev_ite (fun h1 => ?_) (fun h1 => ?_)
      · rw [if_pos h1]
        refine ev_ite (fun h2 => ?_) (fun h2 => ev_some (by simp [h2]))
        refine ev_ite (fun h3 => ?_) (fun h3 => ev_some (by simp [h3]))
        refine ev_ite (fun h4 => ?_) (fun h4 => ev_some ?_)
        · have h4' : l.length = 0 := by omega
          refine ev_ite (fun h5 => ev_some ?_) (fun h5 => ev_some (by simp [h5]))
          simp [h2, h3, h4', h5]
        · have h4' : ¬ l.length = 0 := by omega
          simp [h4']
      · rw [if_neg h1]
        refine ev_ite (fun h1 => ?_) (fun h1 => ?_)
        · rw [if_pos h1]
          refine ev_ite (fun h2 => ?_) (fun h2 => ev_some (by simp [h2]))
          refine ev_ite (fun h3 => ?_) (fun h3 => ev_some (by simp [h3]))
          refine ev_ite (fun h4 => ?_) (fun h4 => ev_some ?_)
          · have h4' : l.length = 0 := by omega
            refine ev_ite (fun h5 => ev_some ?_) (fun h5 => ev_some ?_)
            · simp [h2, h3, h4', h5]
            · simp [h2, h3, h4', h5]
          · have h4' : ¬ l.length = 0 := by omega
            simp [h4']
        · rw [if_neg h1]
          exact ev_some (by simp)
  unfold spec_RecordOk.f
  simp only [spec_l01In_eq, Option.bind_some, decide_eq_true_eq]
  unfold recB
  refine ev_ite (fun h1 => ?_) (fun h1 => ?_)
  · exact ev_to (hj _) (by simp [h1])
  · exact ev_to (hj _) (by simp [h1])

theorem spec_RecordText_l0_ev (q0 q1 q2 q3 q4 co : Int) (fa : Bool) (l : List S63) (hl : l.length ≤ 1048576) (hn : ∀ x ∈ l, 1 ≤ x.f0 ∧ x.f0 ≤ 6 ∧ 1 ≤ x.f1 ∧ x.f1 ≤ 1000) (hc : 0 ≤ co ∧ co ≤ 60000) (d : Nat) :
    ∀ (i : Nat) (acc : List Int), i + d = l.length → acc.length ≤ 100 + 11 * i →
    Ev (fun k => spec_RecordText.l0 k (strOfNums acc) i q0 q1 q2 q3 q4 l co fa) (strOfNums (acc ++ nearT (l.drop i) ++ varN co ++ farT fa), true) := by
  induction d with
  | zero =>
    intro i acc hi ha
    have hv := varN_len co
    rw [List.drop_eq_nil_of_le (by omega), nearT, List.append_nil]
    apply ev_succ
    simp only [spec_RecordText.l0]
    refine ev_neg (by omega) (Ev.bind (spec_l01Var_ev co hc.1 (by omega)) ?_)
    rw [str_app]
    refine ev_pos (by rw [Go.strOfNums_size, Go.strOfNums_size]; omega) ?_
    have hs : (strOfNums (acc ++ varN co)).size + 1 ≤ 9223372036854775807 := by rw [Go.strOfNums_size, List.length_append]; omega
    cases fa with
    | true => exact ev_pos rfl (ev_pos hs (ev_some (by rw [show (⟨#[1]⟩ : ByteArray) = strOfNums [1] from rfl, str_app]; rfl)))
    | false => exact ev_neg (by simp) (ev_pos hs (ev_some (by rw [show (⟨#[0]⟩ : ByteArray) = strOfNums [0] from rfl, str_app]; rfl)))
  | succ d ih =>
    intro i acc hi ha
    obtain ⟨x, hx⟩ : ∃ x, rd_T63 l (i : Int) = x := ⟨_, rfl⟩
    have hx2 : l.getD i z63 = x := hx
    have hm : x ∈ l := by rw [← hx2, List.getD_eq_getElem?_getD, List.getElem?_eq_getElem (by omega)]; exact List.getElem_mem _
    have hx3 := hn x hm
    have hv := varN_len x.f1
    have hr := ih (i + 1) (acc ++ [x.f0 % 256] ++ varN x.f1) (by omega) (by simp only [List.length_append, List.length_cons, List.length_nil]; omega)
    rw [drop_at l z63 i (by omega), hx2, nearT]
    apply ev_succ
    simp only [spec_RecordText.l0, hx, spec_l04Byte.f, Option.bind_some, str_app]
    rw [w64 (by omega) (by omega)]
    refine ev_pos (by omega) (ev_pos (by omega) (ev_pos (by rw [Go.strOfNums_size, Go.strOfNums_size]; simp only [List.length_cons, List.length_nil]; omega) ?_))
    refine Ev.bind (spec_l01Var_ev x.f1 (by omega) (by omega)) ?_
    refine ev_pos (by rw [Go.strOfNums_size, Go.strOfNums_size, List.length_append]; simp only [List.length_cons, List.length_nil]; omega) ?_
    rw [str_app]
    refine ev_to hr ?_
    congr 2
    simp only [List.append_assoc, List.cons_append, List.nil_append]
theorem spec_RecordText_yes (ar ki ow ke se : Int) (l : List S63) (co : Int) (fa : Bool) (hl : l.length ≤ 1048576) (h : recB ar ki ow ke se l co fa = true) :
    Ev (fun k => spec_RecordText.f k ar ki ow ke se l co fa) (strOfNums (recT ar ki ow ke se l co fa), true) := by
  have hf := recB_facts h
  have hv := varN_len se
  have hw := varN_len (l.length : Int)
  unfold spec_RecordText.f
  refine Ev.bind (spec_RecordOk_ev ar ki ow ke se l co fa (by omega)) ?_
  rw [h]
  simp only [spec_l04Byte.f, Option.bind_some, str_app]
  refine ev_pos trivial ?_
  refine ev_pos (by simp only [Go.strOfNums_size, List.length_cons, List.length_nil, List.length_append]; omega) ?_
  refine ev_pos (by simp only [Go.strOfNums_size, List.length_cons, List.length_nil, List.length_append]; omega) ?_
  refine ev_pos (by simp only [Go.strOfNums_size, List.length_cons, List.length_nil, List.length_append]; omega) ?_
  refine Ev.bind (spec_l01Var_ev se (by omega) (by omega)) ?_
  refine ev_pos (by simp only [Go.strOfNums_size, List.length_cons, List.length_nil, List.length_append]; omega) ?_
  refine Ev.bind (spec_l01Var_ev (l.length : Int) (by omega) (by omega)) ?_
  simp only [str_app]
  refine ev_pos (by simp only [Go.strOfNums_size, List.length_cons, List.length_nil, List.length_append]; omega) ?_
  have hr := spec_RecordText_l0_ev ar ki ow ke se co fa l hl (recB_near h) (by omega) l.length 0 ([ar % 256] ++ [ki % 256] ++ [ow % 256] ++ [ke % 256] ++ varN se ++ varN (l.length : Int)) (by omega) (by simp only [List.length_cons, List.length_nil, List.length_append]; omega)
  exact hr
theorem spec_RecordText_no (ar ki ow ke se : Int) (l : List S63) (co : Int) (fa : Bool) (hl : l.length ≤ 9223372036854775807) (h : ¬ recB ar ki ow ke se l co fa = true) :
    Ev (fun k => spec_RecordText.f k ar ki ow ke se l co fa) (⟨#[]⟩, false) := by
  unfold spec_RecordText.f
  exact Ev.bind (spec_RecordOk_ev ar ki ow ke se l co fa hl) (ev_neg h (Ev.now _))

theorem impl_nearOk_l0_ev (q0 q1 ow q3 q4 q6 : Int) (q7 : Bool) (l : List S63) (hl : l.length ≤ 9223372036854775807) (d : Nat) : ∀ i : Nat, i + d = l.length →
    Ev (fun k => impl_nearOk.l0 k l (l.length : Int) i q0 q1 ow q3 q4 l q6 q7) (nearGo ow (pvN l i) (l.drop i)) := by
  induction d with
  | zero =>
    intro i hi
    rw [List.drop_eq_nil_of_le (by omega)]
    apply ev_succ
    simp only [impl_nearOk.l0]
    exact ev_neg (by omega) (ev_some rfl)
  | succ d ih =>
    intro i hi
    have hr := ih (i + 1) (by omega)
    obtain ⟨x, hx⟩ : ∃ x, rd_T63 l (i : Int) = x := ⟨_, rfl⟩
    have hx2 : l.getD i z63 = x := hx
    rw [pvN_succ, hx2] at hr
    rw [drop_at l z63 i (by omega), hx2]
    apply ev_succ
    simp only [impl_nearOk.l0, impl_in_eq, Option.bind_some, decide_eq_true_eq, hx]
    rw [nearGo]
    refine ev_pos (by omega) (ev_pos (by omega) (ev_pos (by omega) ?_))
    refine ev_ite (fun h1 => ?_) (fun h1 => ev_some (by rw [decide_eq_false h1]; rfl))
    refine ev_ite (fun h2 => ev_some (by rw [decide_eq_true h1, decide_eq_true h2]; rfl)) (fun h2 => ?_)
    refine ev_ite (fun h3 => ?_) (fun h3 => ev_some (by rw [decide_eq_true h1, decide_eq_false h2, decide_eq_false h3]; rfl))
    refine ev_ite (fun h4 => ?_) (fun h4 => ?_)
    · have h0 : 0 < i := by omega
      refine ev_pos (by rw [w64 (by omega) (by omega)]; omega) (ev_pos (by rw [w64 (by omega) (by omega)]; omega) ?_)
      have hp : pvN l i = some (l.getD (i - 1) z63).f0 := by unfold pvN; rw [if_neg (by omega)]
      rw [hp, rdNp l i h0 (by omega)]
      refine ev_ite (fun h5 => ev_some ?_) (fun h5 => ?_)
      · have h6 : ¬ ((l.getD (i - 1) z63).f0 < x.f0) := by omega
        simp only [Option.all_some, decide_eq_false h6, Bool.and_false, Bool.false_and]
      · have h6 : (l.getD (i - 1) z63).f0 < x.f0 := by omega
        rw [w64 (by omega) (by omega)]
        refine ev_to hr ?_
        simp only [Option.all_some, decide_eq_true h6, decide_eq_true h1, decide_eq_false h2, decide_eq_true h3, Bool.true_and, Bool.not_false]
    · have h0 : i = 0 := by omega
      have hp : pvN l i = none := by rw [h0]; rfl
      rw [hp, w64 (by omega) (by omega)]
      refine ev_to hr ?_
      simp only [Option.all_none, decide_eq_true h1, decide_eq_false h2, decide_eq_true h3, Bool.true_and, Bool.not_false]
theorem impl_nearOk_ev (q0 q1 ow q3 q4 q6 : Int) (q7 : Bool) (l : List S63) (hl : l.length ≤ 9223372036854775807) : Ev (fun k => impl_nearOk.f k q0 q1 ow q3 q4 l q6 q7) (nearB ow l) :=
  impl_nearOk_l0_ev q0 q1 ow q3 q4 q6 q7 l hl l.length 0 (by omega)

-- impl_RecordOk
/-! impl_RecordOk -/
theorem impl_RecordOk_ev (ar ki ow ke se : Int) (l : List S63) (co : Int) (fa : Bool) (hl : l.length ≤ 9223372036854775807) : Ev (fun k => impl_RecordOk.f k ar ki ow ke se l co fa) (recB ar ki ow ke se l co fa) := by
  have hj : ∀ b : Bool, Ev (fun k => impl_RecordOk.j0 k b ar ki ow ke se l co fa) (!b && recK ar ki ow ke l co fa) := by
    intro b
    apply ev_succ
    simp only [impl_RecordOk.j0, impl_in_eq, Option.bind_some, decide_eq_true_eq]
    refine ev_ite (fun hb => ev_some (by simp [hb])) (fun hb => ?_)
    have hb' : b = false := by simpa using hb
    rw [hb']
    unfold recK
    refine ev_ite (fun h1 => ?_) (fun h1 => ?_)
    · rw [if_pos h1]
      refine ev_ite (fun h2 => ?_) (fun h2 => ev_some (by simp [h2]))
      refine ev_ite (fun h3 => ?_) (fun h3 => ev_some (by simp [h3]))
      refine Ev.bind (impl_nearOk_ev ar ki ow ke se co fa l hl) ?_
      refine ev_ite (fun h4 => ?_) (fun h4 => ev_some (by simp [h4]))
      refine ev_ite (fun h5 => ev_some ?_) (fun h5 => ev_some (by simp [h5]))
      simp [h2, h3, h4, h5]
    · rw [if_neg h1]
      refine ev_ite (fun h1 => ?_) (fun h1 => ?_)
      · rw [if_pos h1]
        refine ev_ite (fun h2 => ?_) (fun h2 => ev_some (by simp [h2]))
        refine ev_ite (fun h3 => ?_) (fun h3 => ev_some (by simp [h3]))
        refine ev_ite (fun h4 => ?_) (fun h4 => ev_some ?_)
        · have h4' : l.length = 0 := by omega
          refine ev_ite (fun h5 => ev_some ?_) (fun h5 => ev_some (by simp [h5]))
          simp [h2, h3, h4', h5]
        · have h4' : ¬ l.length = 0 := by omega
          simp [h4']
      · rw [if_neg h1]
        refine ev_ite (fun h1 => ?_) (fun h1 => ?_)
        · rw [if_pos h1]
          refine ev_ite (fun h2 => ?_) (fun h2 => ev_some (by simp [h2]))
          refine ev_ite (fun h3 => ?_) (fun h3 => ev_some (by simp [h3]))
          refine ev_ite (fun h4 => ?_) (fun h4 => ev_some ?_)
          · have h4' : l.length = 0 := by omega
            refine ev_ite (fun h5 => ev_some ?_) (fun h5 => ev_some ?_)
            · simp [h2, h3, h4', h5]
            · simp [h2, h3, h4', h5]
          · have h4' : ¬ l.length = 0 := by omega
            simp [h4']
        · rw [if_neg h1]
          exact ev_some (by simp)
  unfold impl_RecordOk.f
  simp only [impl_in_eq, Option.bind_some, decide_eq_true_eq]
  unfold recB
  refine ev_ite (fun h1 => ?_) (fun h1 => ?_)
  · exact ev_to (hj _) (by simp [h1])
  · exact ev_to (hj _) (by simp [h1])

def oneB (s : ByteArray) (p : Int) (b : Bool) : Int × Int × Bool := if b = true then (0, p, true) else if p ≥ (s.size : Int) then (0, p, true) else (bt s p, p + 1, false)
def numB (s : ByteArray) (p : Int) (b : Bool) : Int × Int × Bool := if b = true then (0, p, true) else if (rvB s p.toNat).2.2 = true then ((rvB s p.toNat).1, (rvB s p.toNat).2.1, false) else (0, p, true)
theorem evUnique {α : Type} {g : Nat → Option α} {r r' : α} (h : Ev g r) (h' : Ev g r') : r = r' := by
  obtain ⟨K, h⟩ := h
  obtain ⟨K', h'⟩ := h'
  have e := h (K + K') (by omega)
  rw [h' (K + K') (by omega)] at e
  exact (Option.some.inj e).symm
theorem impl_one_eq (s : ByteArray) (hs : s.size ≤ 9223372036854775000) (p : Int) (b : Bool) (h0 : 0 ≤ p) (h1 : p ≤ s.size) : impl_reader_one.f s p b = some ((oneB s p b).1, s, (oneB s p b).2.1, (oneB s p b).2.2) := by
  unfold impl_reader_one.f oneB
  by_cases hb : b = true
  · rw [if_pos hb, if_pos hb]
  · rw [if_neg hb, if_neg hb]
    by_cases hp : p ≥ (s.size : Int)
    · rw [if_pos hp, if_pos hp]
    · rw [if_neg hp, if_neg hp, w64 (x := p + 1) (by omega) (by omega), show p + 1 - 1 = p by omega, w64 (x := p) (by omega) (by omega), if_pos h0, if_pos (by omega), wbt]
      have : b = false := by simpa using hb
      rw [this]
theorem spec_one_eq (s : ByteArray) (hs : s.size ≤ 9223372036854775000) (p : Int) (b : Bool) (h0 : 0 ≤ p) (h1 : p ≤ s.size) : spec_l04One.f s p b = some ((oneB s p b).1, s, (oneB s p b).2.1, (oneB s p b).2.2) := by
  unfold spec_l04One.f spec_l04Take.f oneB
  by_cases hb : b = true
  · rw [if_pos hb, if_pos hb]
    simp
  · have hb' : b = false := by simpa using hb
    subst hb'
    simp only [Bool.false_eq_true, if_false]
    rw [w64 (x := (s.size : Int) - p) (by omega) (by omega)]
    by_cases hp : p ≥ (s.size : Int)
    · rw [if_pos (by omega), if_pos hp]
      simp
    · rw [if_neg (by omega), if_neg hp, w64 (x := p + 1) (by omega) (by omega), show p + 1 - 1 = p by omega, w64 (x := p) (by omega) (by omega), if_pos h0, if_pos (by omega), if_pos (by omega)]
      simp only [Option.bind_some]
      have hsz : (s.extract p.toNat (p + 1).toNat).size = 1 := by rw [ByteArray.size_extract]; omega
      have hbt : bt (s.extract p.toNat (p + 1).toNat) 0 = bt s p := by
        have h3 := B_bt (s.extract p.toNat (p + 1).toNat) 0 (by omega)
        have h4 := B_bt s p.toNat (by omega)
        rw [B_extract] at h3
        have e : (((B s).take (p + 1).toNat).drop p.toNat)[0]? = (B s)[p.toNat]? := by
          rw [List.getElem?_drop, Nat.add_zero, List.getElem?_take, if_pos (by omega)]
        rw [e, h4] at h3
        have e2 : ((p.toNat : Nat) : Int) = p := by omega
        rw [e2] at h3
        exact (Option.some.inj h3).symm
      rw [if_neg (by decide), if_pos (by omega), hbt, wbt]
theorem impl_num_ev (s : ByteArray) (hs : s.size ≤ 9223372036854775000) (p : Int) (b : Bool) (h0 : 0 ≤ p) (h1 : p ≤ s.size) : Ev (fun k => impl_reader_num.f k s p b) ((numB s p b).1, s, (numB s p b).2.1, (numB s p b).2.2) := by
  have h := impl_ReadVar_yes s hs p.toNat (by omega)
  have e : ((p.toNat : Nat) : Int) = p := by omega
  rw [e] at h
  unfold impl_reader_num.f
  refine Ev.bind h ?_
  cases b with
  | true => exact ev_pos (by simp) (Ev.now _)
  | false =>
    refine ev_neg (by decide) ?_
    unfold numB
    cases ho : (rvB s p.toNat).2.2 <;> simp only [ho, Bool.false_eq_true, if_true, if_false] <;> exact Ev.now _
theorem spec_num_ev (s : ByteArray) (hs : s.size ≤ 9223372036854775000) (p : Int) (b : Bool) (h0 : 0 ≤ p) (h1 : p ≤ s.size) : Ev (fun k => spec_l04Var.f k s p b) ((numB s p b).1, s, (numB s p b).2.1, (numB s p b).2.2) := by
  have h := spec_ReadVar_yes s hs p.toNat (by omega)
  have e : ((p.toNat : Nat) : Int) = p := by omega
  rw [e] at h
  unfold spec_l04Var.f
  refine Ev.bind h ?_
  cases b with
  | true => exact ev_pos (by simp) (Ev.now _)
  | false =>
    refine ev_neg (by decide) ?_
    unfold numB
    cases ho : (rvB s p.toNat).2.2 <;> simp only [ho, Bool.false_eq_true, if_true, if_false] <;> exact Ev.now _
theorem oneB_bad (s : ByteArray) (p : Int) : oneB s p true = (0, p, true) := rfl
theorem numB_bad (s : ByteArray) (p : Int) : numB s p true = (0, p, true) := rfl
/-- A byte, read: it is bad, or the byte is told. -/
theorem oneB_cases (s : ByteArray) (p : Int) (h0 : 0 ≤ p) (h1 : p ≤ s.size) : oneB s p false = (0, p, true) ∨ ∃ r, oneB s p false = (r, p + 1, false) ∧ 0 ≤ r ∧ r < 256 ∧ p < s.size ∧ (B s).take (p + 1).toNat = (B s).take p.toNat ++ [r] := by
  unfold oneB
  by_cases hp : p ≥ (s.size : Int)
  · left; rw [if_neg (by decide), if_pos hp]
  · right
    have hb := bt_b s p
    refine ⟨bt s p, by rw [if_neg (by decide), if_neg hp], hb.1, hb.2, by omega, ?_⟩
    have h4 := B_bt s p.toNat (by omega)
    have e2 : ((p.toNat : Nat) : Int) = p := by omega
    rw [e2] at h4
    have hl : p.toNat < (B s).length := by rw [B_len]; omega
    rw [List.getElem?_eq_getElem hl] at h4
    rw [show (p + 1).toNat = p.toNat + 1 by omega, List.take_succ_eq_append_getElem hl, Option.some.inj h4]
theorem numB_cases (s : ByteArray) (p : Int) (h0 : 0 ≤ p) (h1 : p ≤ s.size) : numB s p false = (0, p, true) ∨ ∃ r j, numB s p false = (r, j, false) ∧ 0 ≤ r ∧ r ≤ 1000000000 ∧ p < j ∧ j ≤ s.size ∧ (B s).take j.toNat = (B s).take p.toNat ++ varN r := by
  unfold numB
  rw [if_neg (by decide)]
  generalize hv : rvB s p.toNat = v
  obtain ⟨m, j, o⟩ := v
  cases o with
  | false => left; rfl
  | true =>
    right
    have h2 := rvB_ok s p.toNat (by omega) hv
    have h3 := rvB_enc s p.toNat (by omega) hv
    exact ⟨m, j, rfl, h2.1, h2.2.1, by omega, by omega, h3.1⟩
def zRec : Int × Int × Int × Int × Int × (List S63) × Int × Bool × Bool := (0, 0, 0, 0, 0, [], 0, false, false)
def goodR (s : ByteArray) (R : Int × Int × Int × Int × Int × (List S63) × Int × Bool × Bool) : Prop :=
  R.2.2.2.2.2.1.length ≤ 7 ∧ (R.2.2.2.2.2.2.2.2 = true → recB R.1 R.2.1 R.2.2.1 R.2.2.2.1 R.2.2.2.2.1 R.2.2.2.2.2.1 R.2.2.2.2.2.2.1 R.2.2.2.2.2.2.2.1 = true ∧ (strOfNums (recT R.1 R.2.1 R.2.2.1 R.2.2.2.1 R.2.2.2.2.1 R.2.2.2.2.2.1 R.2.2.2.2.2.2.1 R.2.2.2.2.2.2.2.1)).toList = s.toList)
theorem goodR_z (s : ByteArray) : goodR s zRec := ⟨by simp [zRec], fun h => by simp [zRec] at h⟩
theorem spec_text_some (a b c d e : Int) (l : List S63) (co : Int) (fa : Bool) (hl : l.length ≤ 1048576) : ∃ r, Ev (fun k => spec_RecordText.f k a b c d e l co fa) r := by
  by_cases h : recB a b c d e l co fa = true
  · exact ⟨_, spec_RecordText_yes a b c d e l co fa hl h⟩
  · exact ⟨_, spec_RecordText_no a b c d e l co fa (by omega) h⟩
/-- Once something was not as it must be, nothing is read. -/
theorem impl_rec_bad (s : ByteArray) (hs : s.size ≤ 9223372036854775000) (n p : Int) (h0 : 0 ≤ p) (h1 : p ≤ s.size) (a b c d e : Int) (l : List S63) : Ev (fun k => impl_ReadRecord.l0 k s n s p true a b c d e l 0 false) zRec := by
  have hj : Ev (fun k => impl_ReadRecord.j1 k s n false s p true a b c d e l 0 false) zRec := by
    apply ev_succ
    simp only [impl_ReadRecord.j1]
    refine ev_neg (by decide) (Ev.bind (impl_num_ev s hs p true h0 h1) ?_)
    simp only [numB_bad, impl_one_eq s hs p true h0 h1, Option.bind_some, oneB_bad]
    exact ev_pos (by simp) (Ev.now _)
  apply ev_succ
  simp only [impl_ReadRecord.l0, Bool.not_true]
  exact ev_ite (fun _ => hj) (fun _ => hj)
theorem spec_rec_bad (s : ByteArray) (hs : s.size ≤ 9223372036854775000) (n i p : Int) (h0 : 0 ≤ p) (h1 : p ≤ s.size) (a b c d e : Int) (l : List S63) (hl : l.length ≤ 1048576) : Ev (fun k => spec_ReadRecord.l0 k s n i s p true a b c d e l 0 false) zRec := by
  have hj : Ev (fun k => spec_ReadRecord.j1 k s n i false s p true a b c d e l 0 false) zRec := by
    apply ev_succ
    simp only [spec_ReadRecord.j1]
    refine ev_neg (by decide) (Ev.bind (spec_num_ev s hs p true h0 h1) ?_)
    simp only [numB_bad, spec_one_eq s hs p true h0 h1, Option.bind_some, oneB_bad]
    obtain ⟨r, hr⟩ := spec_text_some a b c d e l 0 ((0 : Int) == 1) hl
    exact Ev.bind hr (ev_pos (by simp) (Ev.now _))
  apply ev_succ
  simp only [spec_ReadRecord.l0, Bool.not_true]
  exact ev_ite (fun _ => ev_ite (fun _ => hj) (fun _ => hj)) (fun _ => hj)
theorem nearGo_len (ow : Int) : ∀ (l : List S63) (q : Int), nearGo ow (some q) l = true → 0 ≤ q → q ≤ 6 → (l.length : Int) ≤ 6 - q
  | [], q, _, h0, h1 => by simp; omega
  | x :: l, q, h, h0, h1 => by
    rw [nearGo] at h
    simp only [Bool.and_eq_true, decide_eq_true_eq, Option.all_some] at h
    have h2 := nearGo_len ow l x.f0 h.2 (by omega) (by omega)
    have h3 : q < x.f0 := h.1.2
    simp only [List.length_cons]; omega
theorem nearB_len {ow : Int} {l : List S63} (h : nearB ow l = true) : l.length ≤ 6 := by
  cases l with
  | nil => simp
  | cons x l =>
    unfold nearB at h
    rw [nearGo] at h
    simp only [Bool.and_eq_true, decide_eq_true_eq] at h
    have h2 := nearGo_len ow l x.f0 h.2 (by omega) (by omega)
    simp only [List.length_cons]; omega
theorem recB_len {ar ki ow ke se : Int} {l : List S63} {co : Int} {fa : Bool} (h : recB ar ki ow ke se l co fa = true) : l.length ≤ 6 := by
  obtain ⟨_, _, _, _, _, _, _, _, _, _, _, _, h⟩ := recB_facts h
  rcases h with h | rfl
  · exact nearB_len h
  · simp
/-- The end of a reading that is bad at the last two steps, or of what is no record. -/
theorem impl_rec_end (s : ByteArray) (hs : s.size ≤ 9223372036854775000) (n p : Int) (h0 : 0 ≤ p) (h1 : p ≤ s.size) (a b c d e : Int) (l : List S63) (hl : l.length ≤ 9223372036854775000) (hn : ∀ co fa, recB a b c d e l co fa = false) : Ev (fun k => impl_ReadRecord.j1 k s n false s p false a b c d e l 0 false) zRec := by
  apply ev_succ
  simp only [impl_ReadRecord.j1]
  refine ev_neg (by decide) (Ev.bind (impl_num_ev s hs p false h0 h1) ?_)
  rcases numB_cases s p h0 h1 with h | ⟨co, j, h, c0, c1, hj0, hj1, _⟩
  · simp only [h, impl_one_eq s hs p true h0 h1, Option.bind_some, oneB_bad]
    exact ev_pos (by simp) (Ev.now _)
  · simp only [h]
    rcases oneB_cases s j (by omega) (by omega) with h2 | ⟨r, h2, r0, r1, hj2, _⟩
    · simp only [impl_one_eq s hs j false (by omega) (by omega), Option.bind_some, h2]
      exact ev_pos (by simp) (Ev.now _)
    · simp only [impl_one_eq s hs j false (by omega) (by omega), Option.bind_some, h2]
      refine ev_neg (by decide) (ev_ite (fun _ => Ev.now _) (fun _ => ev_ite (fun _ => ?_) (fun _ => Ev.now _)))
      refine Ev.bind (impl_RecordOk_ev a b c d e l co (r == 1) (by omega)) ?_
      rw [hn]
      exact ev_neg (by decide) (Ev.now _)
theorem spec_rec_end (s : ByteArray) (hs : s.size ≤ 9223372036854775000) (n i p : Int) (h0 : 0 ≤ p) (h1 : p ≤ s.size) (a b c d e : Int) (l : List S63) (hl : l.length ≤ 1048576) (hn : ∀ co fa, recB a b c d e l co fa = false) : Ev (fun k => spec_ReadRecord.j1 k s n i false s p false a b c d e l 0 false) zRec := by
  apply ev_succ
  simp only [spec_ReadRecord.j1]
  refine ev_neg (by decide) (Ev.bind (spec_num_ev s hs p false h0 h1) ?_)
  have hno : ∀ co fa, Ev (fun k => spec_RecordText.f k a b c d e l co fa) (⟨#[]⟩, false) := fun co fa => spec_RecordText_no a b c d e l co fa (by omega) (by rw [hn]; decide)
  rcases numB_cases s p h0 h1 with h | ⟨co, j, h, c0, c1, hj0, hj1, _⟩
  · simp only [h, spec_one_eq s hs p true h0 h1, Option.bind_some, oneB_bad]
    exact Ev.bind (hno _ _) (ev_pos (by simp) (Ev.now _))
  · simp only [h]
    rcases oneB_cases s j (by omega) (by omega) with h2 | ⟨r, h2, r0, r1, hj2, _⟩
    · simp only [spec_one_eq s hs j false (by omega) (by omega), Option.bind_some, h2]
      exact Ev.bind (hno _ _) (ev_pos (by simp) (Ev.now _))
    · simp only [spec_one_eq s hs j false (by omega) (by omega), Option.bind_some, h2]
      exact Ev.bind (hno _ _) (ev_neg (by decide) (ev_neg (by decide) (Ev.now _)))
theorem long_no {a b c d e : Int} {l : List S63} (hl : 7 ≤ l.length) : ∀ co fa, recB a b c d e l co fa = false := by
  intro co fa
  cases h : recB a b c d e l co fa with
  | false => rfl
  | true => have := recB_len h; omega
theorem impl_rec_long (s : ByteArray) (hs : s.size ≤ 1048576) (a b c d e : Int) (m : Nat) : ∀ (n p : Int) (l : List S63), 0 ≤ p → p ≤ s.size → (s.size : Int) - p ≤ m → 0 ≤ n → n ≤ 1000000000 → 7 ≤ l.length → l.length + m ≤ 2000000 →
    Ev (fun k => impl_ReadRecord.l0 k s n s p false a b c d e l 0 false) zRec := by
  induction m with
  | zero =>
    intro n p l h0 h1 hm hn hn1 hl hlm
    apply ev_succ
    simp only [impl_ReadRecord.l0, Bool.not_false]
    refine ev_ite (fun _ => ?_) (fun _ => impl_rec_end s (by omega) n p h0 h1 a b c d e l (by omega) (long_no hl))
    apply ev_succ
    simp only [impl_ReadRecord.j1]
    have hb : oneB s p false = (0, p, true) := by unfold oneB; rw [if_neg (by decide), if_pos (by omega)]
    rw [impl_one_eq s (by omega) p false h0 h1, hb]
    simp only [Option.bind_some]
    refine ev_pos trivial (Ev.bind (impl_num_ev s (by omega) p true h0 h1) ?_)
    simp only [numB_bad]
    exact ev_pos (by omega) (impl_rec_bad s (by omega) _ p h0 h1 a b c d e _)
  | succ m ih =>
    intro n p l h0 h1 hm hn hn1 hl hlm
    apply ev_succ
    simp only [impl_ReadRecord.l0, Bool.not_false]
    refine ev_ite (fun hn0 => ?_) (fun _ => impl_rec_end s (by omega) n p h0 h1 a b c d e l (by omega) (long_no hl))
    apply ev_succ
    simp only [impl_ReadRecord.j1]
    rcases oneB_cases s p h0 h1 with h | ⟨r, h, r0, r1, hp, _⟩
    · rw [impl_one_eq s (by omega) p false h0 h1, h]
      simp only [Option.bind_some]
      refine ev_pos trivial (Ev.bind (impl_num_ev s (by omega) p true h0 h1) ?_)
      simp only [numB_bad]
      exact ev_pos (by omega) (impl_rec_bad s (by omega) _ p h0 h1 a b c d e _)
    · rw [impl_one_eq s (by omega) p false h0 h1, h]
      simp only [Option.bind_some]
      refine ev_pos trivial (Ev.bind (impl_num_ev s (by omega) (p + 1) false (by omega) (by omega)) ?_)
      rcases numB_cases s (p + 1) (by omega) (by omega) with h2 | ⟨co, j, h2, c0, c1, hj0, hj1, _⟩
      · simp only [h2]
        exact ev_pos (by omega) (impl_rec_bad s (by omega) _ (p + 1) (by omega) (by omega) a b c d e _)
      · simp only [h2]
        rw [w64 (x := n - 1) (by omega) (by omega)]
        exact ev_pos (by omega) (ih (n - 1) j _ (by omega) (by omega) (by omega) (by omega) (by omega) (by simp; omega) (by simp; omega))
theorem spec_rec_long (s : ByteArray) (hs : s.size ≤ 1048576) (a b c d e n : Int) (m : Nat) : ∀ (i : Nat) (p : Int) (l : List S63), i + m = 50 → 0 ≤ p → p ≤ s.size → 7 ≤ l.length → l.length ≤ i →
    Ev (fun k => spec_ReadRecord.l0 k s n i s p false a b c d e l 0 false) zRec := by
  induction m with
  | zero =>
    intro i p l hi h0 h1 hl hli
    apply ev_succ
    simp only [spec_ReadRecord.l0, Bool.not_false]
    exact ev_ite (fun _ => ev_neg (by omega) (spec_rec_end s (by omega) n i p h0 h1 a b c d e l (by omega) (long_no hl))) (fun _ => spec_rec_end s (by omega) n i p h0 h1 a b c d e l (by omega) (long_no hl))
  | succ m ih =>
    intro i p l hi h0 h1 hl hli
    apply ev_succ
    simp only [spec_ReadRecord.l0, Bool.not_false]
    refine ev_ite (fun _ => ev_pos (by omega) ?_) (fun _ => spec_rec_end s (by omega) n i p h0 h1 a b c d e l (by omega) (long_no hl))
    apply ev_succ
    simp only [spec_ReadRecord.j1]
    have ew : wrap64 ((i : Int) + 1) = ((i + 1 : Nat) : Int) := by rw [w64 (by omega) (by omega)]; omega
    rcases oneB_cases s p h0 h1 with h | ⟨r, h, r0, r1, hp, _⟩
    · rw [spec_one_eq s (by omega) p false h0 h1, h]
      simp only [Option.bind_some]
      refine ev_pos trivial (Ev.bind (spec_num_ev s (by omega) p true h0 h1) ?_)
      simp only [numB_bad]
      exact ev_pos (by omega) (spec_rec_bad s (by omega) _ _ p h0 h1 a b c d e _ (by simp; omega))
    · rw [spec_one_eq s (by omega) p false h0 h1, h]
      simp only [Option.bind_some]
      refine ev_pos trivial (Ev.bind (spec_num_ev s (by omega) (p + 1) false (by omega) (by omega)) ?_)
      rcases numB_cases s (p + 1) (by omega) (by omega) with h2 | ⟨co, j, h2, c0, c1, hj0, hj1, _⟩
      · simp only [h2]
        exact ev_pos (by omega) (spec_rec_bad s (by omega) _ _ (p + 1) (by omega) (by omega) a b c d e _ (by simp; omega))
      · simp only [h2]
        rw [ew]
        exact ev_pos (by omega) (ih (i + 1) j _ (by omega) (by omega) (by omega) (by simp; omega) (by simp; omega))
theorem nearT_snoc (l : List S63) (x : S63) (h0 : 0 ≤ x.f0) (h1 : x.f0 < 256) : nearT (l ++ [x]) = nearT l ++ ([x.f0] ++ varN x.f1) := by
  have hx : x.f0 % 256 = x.f0 := by omega
  induction l with
  | nil => simp [nearT, hx]
  | cons y l ih => simp only [List.cons_append, nearT, ih]; simp
/-- The end of a reading in which nothing was bad so far. -/
theorem rec_end (s : ByteArray) (hs : s.size ≤ 1048576) (n i p : Int) (h0 : 0 ≤ p) (h1 : p ≤ s.size) (a b c d e : Int) (l : List S63) (hl : l.length ≤ 7)
    (ha : 0 ≤ a ∧ a < 256) (hb : 0 ≤ b ∧ b < 256) (hc : 0 ≤ c ∧ c < 256) (hd : 0 ≤ d ∧ d < 256) (hI : (B s).take p.toNat = [a, b, c, d] ++ varN e ++ varN (l.length : Int) ++ nearT l) :
    ∃ R : Int × Int × Int × Int × Int × (List S63) × Int × Bool × Bool, Ev (fun k => impl_ReadRecord.j1 k s n false s p false a b c d e l 0 false) R ∧ Ev (fun k => spec_ReadRecord.j1 k s n i false s p false a b c d e l 0 false) R ∧ goodR s R := by
  rcases numB_cases s p h0 h1 with h | ⟨co, j, h, c0, c1, hj0, hj1, hco⟩
  · refine ⟨zRec, ?_, ?_, goodR_z s⟩
    · apply ev_succ
      simp only [impl_ReadRecord.j1]
      refine ev_neg (by decide) (Ev.bind (impl_num_ev s (by omega) p false h0 h1) ?_)
      simp only [h, impl_one_eq s (by omega) p true h0 h1, Option.bind_some, oneB_bad]
      exact ev_pos (by simp) (Ev.now _)
    · apply ev_succ
      simp only [spec_ReadRecord.j1]
      refine ev_neg (by decide) (Ev.bind (spec_num_ev s (by omega) p false h0 h1) ?_)
      simp only [h, spec_one_eq s (by omega) p true h0 h1, Option.bind_some, oneB_bad]
      obtain ⟨r, hr⟩ := spec_text_some a b c d e l 0 ((0 : Int) == 1) (by omega)
      exact Ev.bind hr (ev_pos (by simp) (Ev.now _))
  · rcases oneB_cases s j (by omega) (by omega) with h2 | ⟨fb, h2, f0, f1, hj2, hfb⟩
    · refine ⟨zRec, ?_, ?_, goodR_z s⟩
      · apply ev_succ
        simp only [impl_ReadRecord.j1]
        refine ev_neg (by decide) (Ev.bind (impl_num_ev s (by omega) p false h0 h1) ?_)
        simp only [h, impl_one_eq s (by omega) j false (by omega) (by omega), Option.bind_some, h2]
        exact ev_pos (by simp) (Ev.now _)
      · apply ev_succ
        simp only [spec_ReadRecord.j1]
        refine ev_neg (by decide) (Ev.bind (spec_num_ev s (by omega) p false h0 h1) ?_)
        simp only [h, spec_one_eq s (by omega) j false (by omega) (by omega), Option.bind_some, h2]
        obtain ⟨r, hr⟩ := spec_text_some a b c d e l co ((0 : Int) == 1) (by omega)
        exact Ev.bind hr (ev_pos (by simp) (Ev.now _))
    · have hall : B s = ([a, b, c, d] ++ varN e ++ varN (l.length : Int) ++ nearT l ++ varN co ++ [fb]) ++ (B s).drop (j + 1).toNat := by
        have := (List.take_append_drop (j + 1).toNat (B s)).symm
        rw [hfb, hco, hI] at this
        exact this
      have hlen : ((B s).drop (j + 1).toNat).length = s.size - (j + 1).toNat := by rw [List.length_drop, B_len]
      by_cases hrec : recB a b c d e l co (fb == 1) = true
      · have hfacts := recB_facts hrec
        have ht : recT a b c d e l co (fb == 1) = [a, b, c, d] ++ varN e ++ varN (l.length : Int) ++ nearT l ++ varN co ++ farT (fb == 1) := by
          unfold recT
          rw [show a % 256 = a by omega, show b % 256 = b by omega, show c % 256 = c by omega, show d % 256 = d by omega]
        have hbyt : Byt (recT a b c d e l co (fb == 1)) := by
          have h3 := B_byt s
          rw [hall] at h3
          rw [ht]
          intro x hx
          rcases List.mem_append.1 hx with hx | hx
          · exact h3 x (List.mem_append_left _ (List.mem_append_left _ hx))
          · unfold farT at hx
            simp only [List.mem_singleton] at hx
            rw [hx]; split <;> omega
        by_cases hg : fb ≤ 1 ∧ j + 1 = (s.size : Int)
        · have hdr : (B s).drop (j + 1).toNat = [] := List.eq_nil_of_length_eq_zero (by omega)
          have hfar : farT (fb == 1) = [fb] := by
            unfold farT
            by_cases h3 : fb = 1
            · rw [h3]; rfl
            · have h4 : fb = 0 := by omega
              rw [h4]; rfl
          have hst : (strOfNums (recT a b c d e l co (fb == 1))).toList = s.toList := by
            rw [tl_iff, B_str _ hbyt, ht, hfar, hall, hdr, List.append_nil]
          refine ⟨(a, b, c, d, e, l, co, (fb == 1), true), ?_, ?_, hl, fun _ => ⟨hrec, hst⟩⟩
          · apply ev_succ
            simp only [impl_ReadRecord.j1]
            refine ev_neg (by decide) (Ev.bind (impl_num_ev s (by omega) p false h0 h1) ?_)
            simp only [h, impl_one_eq s (by omega) j false (by omega) (by omega), Option.bind_some, h2]
            refine ev_neg (by decide) (ev_neg (by omega) (ev_pos hg.2 (Ev.bind (impl_RecordOk_ev a b c d e l co (fb == 1) (by omega)) (ev_pos hrec (Ev.now _)))))
          · apply ev_succ
            simp only [spec_ReadRecord.j1]
            refine ev_neg (by decide) (Ev.bind (spec_num_ev s (by omega) p false h0 h1) ?_)
            simp only [h, spec_one_eq s (by omega) j false (by omega) (by omega), Option.bind_some, h2]
            exact Ev.bind (spec_RecordText_yes a b c d e l co (fb == 1) (by omega) hrec) (ev_neg (by decide) (ev_pos rfl (ev_pos hst (Ev.now _))))
        · have hst : ¬ (strOfNums (recT a b c d e l co (fb == 1))).toList = s.toList := by
            rw [tl_iff, B_str _ hbyt, ht, hall]
            intro he
            rw [List.append_assoc _ [fb]] at he
            have h5 := List.append_cancel_left he
            unfold farT at h5
            simp only [List.cons_append, List.nil_append] at h5
            injection h5 with h6 h7
            have h8 := congrArg List.length h7
            rw [hlen] at h8
            simp only [List.length_nil] at h8
            refine hg ⟨?_, by omega⟩
            rw [← h6]; split <;> omega
          refine ⟨zRec, ?_, ?_, goodR_z s⟩
          · apply ev_succ
            simp only [impl_ReadRecord.j1]
            refine ev_neg (by decide) (Ev.bind (impl_num_ev s (by omega) p false h0 h1) ?_)
            simp only [h, impl_one_eq s (by omega) j false (by omega) (by omega), Option.bind_some, h2]
            refine ev_neg (by decide) (ev_ite (fun _ => Ev.now _) (fun h9 => ev_neg (by omega) (Ev.now _)))
          · apply ev_succ
            simp only [spec_ReadRecord.j1]
            refine ev_neg (by decide) (Ev.bind (spec_num_ev s (by omega) p false h0 h1) ?_)
            simp only [h, spec_one_eq s (by omega) j false (by omega) (by omega), Option.bind_some, h2]
            exact Ev.bind (spec_RecordText_yes a b c d e l co (fb == 1) (by omega) hrec) (ev_neg (by decide) (ev_pos rfl (ev_neg hst (Ev.now _))))
      · refine ⟨zRec, ?_, ?_, goodR_z s⟩
        · apply ev_succ
          simp only [impl_ReadRecord.j1]
          refine ev_neg (by decide) (Ev.bind (impl_num_ev s (by omega) p false h0 h1) ?_)
          simp only [h, impl_one_eq s (by omega) j false (by omega) (by omega), Option.bind_some, h2]
          refine ev_neg (by decide) (ev_ite (fun _ => Ev.now _) (fun _ => ev_ite (fun _ => ?_) (fun _ => Ev.now _)))
          exact Ev.bind (impl_RecordOk_ev a b c d e l co (fb == 1) (by omega)) (ev_neg hrec (Ev.now _))
        · apply ev_succ
          simp only [spec_ReadRecord.j1]
          refine ev_neg (by decide) (Ev.bind (spec_num_ev s (by omega) p false h0 h1) ?_)
          simp only [h, spec_one_eq s (by omega) j false (by omega) (by omega), Option.bind_some, h2]
          exact Ev.bind (spec_RecordText_no a b c d e l co (fb == 1) (by omega) hrec) (ev_neg (by decide) (ev_neg (by decide) (Ev.now _)))
/-- Both readings, in step. -/
theorem rec_loop (s : ByteArray) (hs : s.size ≤ 1048576) (a b c d e n : Int) (ha : 0 ≤ a ∧ a < 256) (hb : 0 ≤ b ∧ b < 256) (hc : 0 ≤ c ∧ c < 256) (hd : 0 ≤ d ∧ d < 256) (hn0 : 0 ≤ n) (hn1 : n ≤ 1000000000) (m : Nat) :
    ∀ (l : List S63) (p : Int), l.length + m = 7 → (l.length : Int) ≤ n → 0 ≤ p → p ≤ s.size → (B s).take p.toNat = [a, b, c, d] ++ varN e ++ varN n ++ nearT l →
    ∃ R : Int × Int × Int × Int × Int × (List S63) × Int × Bool × Bool, Ev (fun k => impl_ReadRecord.l0 k s (n - l.length) s p false a b c d e l 0 false) R ∧ Ev (fun k => spec_ReadRecord.l0 k s n (l.length : Int) s p false a b c d e l 0 false) R ∧ goodR s R := by
  induction m with
  | zero =>
    intro l p hl hln h0 h1 hI
    exact ⟨zRec, impl_rec_long s hs a b c d e s.size (n - l.length) p l h0 h1 (by omega) (by omega) (by omega) (by omega) (by omega), spec_rec_long s hs a b c d e n 43 l.length p l (by omega) h0 h1 (by omega) (by omega), goodR_z s⟩
  | succ m ih =>
    intro l p hl hln h0 h1 hI
    by_cases he : (l.length : Int) = n
    · obtain ⟨R, r1, r2, r3⟩ := rec_end s hs (n - l.length) l.length p h0 h1 a b c d e l (by omega) ha hb hc hd (by rw [he]; exact hI)
      obtain ⟨R', r1', r2', r3'⟩ := rec_end s hs n l.length p h0 h1 a b c d e l (by omega) ha hb hc hd (by rw [he]; exact hI)
      have hj : ∀ x y : Int, (fun k => impl_ReadRecord.j1 k s x false s p false a b c d e l 0 false) = (fun k => impl_ReadRecord.j1 k s y false s p false a b c d e l 0 false) := by
        intro x y; funext k; cases k with
        | zero => rfl
        | succ k => simp only [impl_ReadRecord.j1]; rw [if_neg (by decide), if_neg (by decide)]
      have eR : R = R' := evUnique r1 (by rw [hj (n - l.length) n]; exact r1')
      subst eR
      refine ⟨R, ev_succ ?_, ev_succ ?_, r3⟩
      · simp only [impl_ReadRecord.l0]
        exact ev_neg (by omega) r1
      · simp only [spec_ReadRecord.l0]
        exact ev_neg (by omega) r2'
    · have ew : wrap64 ((l.length : Int) + 1) = (l.length : Int) + 1 := w64 (by omega) (by omega)
      have ew2 : wrap64 (n - l.length - 1) = n - l.length - 1 := w64 (by omega) (by omega)
      rcases oneB_cases s p h0 h1 with h | ⟨r, h, r0, r1, hp, hr⟩
      · refine ⟨zRec, ev_succ ?_, ev_succ ?_, goodR_z s⟩
        · simp only [impl_ReadRecord.l0, Bool.not_false]
          refine ev_pos (by omega) (ev_succ ?_)
          simp only [impl_ReadRecord.j1]
          rw [impl_one_eq s (by omega) p false h0 h1, h]
          simp only [Option.bind_some]
          refine ev_pos trivial (Ev.bind (impl_num_ev s (by omega) p true h0 h1) ?_)
          simp only [numB_bad]
          exact ev_pos (by omega) (impl_rec_bad s (by omega) _ p h0 h1 a b c d e _)
        · simp only [spec_ReadRecord.l0, Bool.not_false]
          refine ev_pos (by omega) (ev_pos (by omega) (ev_succ ?_))
          simp only [spec_ReadRecord.j1]
          rw [spec_one_eq s (by omega) p false h0 h1, h]
          simp only [Option.bind_some]
          refine ev_pos trivial (Ev.bind (spec_num_ev s (by omega) p true h0 h1) ?_)
          simp only [numB_bad]
          exact ev_pos (by omega) (spec_rec_bad s (by omega) _ _ p h0 h1 a b c d e _ (by simp; omega))
      · rcases numB_cases s (p + 1) (by omega) (by omega) with h2 | ⟨co, j, h2, c0, c1, hj0, hj1, hco⟩
        · refine ⟨zRec, ev_succ ?_, ev_succ ?_, goodR_z s⟩
          · simp only [impl_ReadRecord.l0, Bool.not_false]
            refine ev_pos (by omega) (ev_succ ?_)
            simp only [impl_ReadRecord.j1]
            rw [impl_one_eq s (by omega) p false h0 h1, h]
            simp only [Option.bind_some]
            refine ev_pos trivial (Ev.bind (impl_num_ev s (by omega) (p + 1) false (by omega) (by omega)) ?_)
            simp only [h2]
            exact ev_pos (by omega) (impl_rec_bad s (by omega) _ (p + 1) (by omega) (by omega) a b c d e _)
          · simp only [spec_ReadRecord.l0, Bool.not_false]
            refine ev_pos (by omega) (ev_pos (by omega) (ev_succ ?_))
            simp only [spec_ReadRecord.j1]
            rw [spec_one_eq s (by omega) p false h0 h1, h]
            simp only [Option.bind_some]
            refine ev_pos trivial (Ev.bind (spec_num_ev s (by omega) (p + 1) false (by omega) (by omega)) ?_)
            simp only [h2]
            exact ev_pos (by omega) (spec_rec_bad s (by omega) _ _ (p + 1) (by omega) (by omega) a b c d e _ (by simp; omega))
        · obtain ⟨R, q1, q2, q3⟩ := ih (l ++ [(⟨r, co⟩ : S63)]) j (by simp; omega) (by simp; omega) (by omega) (by omega) (by
            rw [hco, hr, hI, nearT_snoc l ⟨r, co⟩ r0 r1]; simp)
          have e1 : ((l ++ [(⟨r, co⟩ : S63)]).length : Int) = (l.length : Int) + 1 := by simp
          have e2 : n - ((l.length : Int) + 1) = n - l.length - 1 := by omega
          rw [e1, e2] at q1
          rw [e1] at q2
          refine ⟨R, ev_succ ?_, ev_succ ?_, q3⟩
          · simp only [impl_ReadRecord.l0, Bool.not_false]
            refine ev_pos (by omega) (ev_succ ?_)
            simp only [impl_ReadRecord.j1]
            rw [impl_one_eq s (by omega) p false h0 h1, h]
            simp only [Option.bind_some]
            refine ev_pos trivial (Ev.bind (impl_num_ev s (by omega) (p + 1) false (by omega) (by omega)) ?_)
            simp only [h2]
            rw [ew2]
            exact ev_pos (by omega) q1
          · simp only [spec_ReadRecord.l0, Bool.not_false]
            refine ev_pos (by omega) (ev_pos (by omega) (ev_succ ?_))
            simp only [spec_ReadRecord.j1]
            rw [spec_one_eq s (by omega) p false h0 h1, h]
            simp only [Option.bind_some]
            refine ev_pos trivial (Ev.bind (spec_num_ev s (by omega) (p + 1) false (by omega) (by omega)) ?_)
            simp only [h2]
            rw [ew]
            exact ev_pos (by omega) q2
/-- Both readings of a record answer alike. -/
theorem readrec_ev (s : ByteArray) (hs : s.size ≤ 1048576) : ∃ R : Int × Int × Int × Int × Int × (List S63) × Int × Bool × Bool, Ev (fun k => impl_ReadRecord.f k s) R ∧ Ev (fun k => spec_ReadRecord.f k s) R ∧ goodR s R := by
  unfold impl_ReadRecord.f spec_ReadRecord.f
  rcases oneB_cases s 0 (by omega) (by omega) with h0 | ⟨a, h0, a0, a1, hl0, ht0⟩
  · refine ⟨zRec, ?_, ?_, goodR_z s⟩
    · simp only [impl_one_eq s (by omega) 0 false (by omega) (by omega), h0, impl_one_eq s (by omega) 0 true (by omega) (by omega), oneB_bad, Option.bind_some]
      refine Ev.bind (impl_num_ev s (by omega) 0 true (by omega) (by omega)) ?_
      simp only [numB_bad]
      refine Ev.bind (impl_num_ev s (by omega) 0 true (by omega) (by omega)) ?_
      simp only [numB_bad]
      exact impl_rec_bad s (by omega) _ 0 (by omega) (by omega) _ _ _ _ _ _
    · simp only [spec_one_eq s (by omega) 0 false (by omega) (by omega), h0, spec_one_eq s (by omega) 0 true (by omega) (by omega), oneB_bad, Option.bind_some]
      refine Ev.bind (spec_num_ev s (by omega) 0 true (by omega) (by omega)) ?_
      simp only [numB_bad]
      refine Ev.bind (spec_num_ev s (by omega) 0 true (by omega) (by omega)) ?_
      simp only [numB_bad]
      exact spec_rec_bad s (by omega) _ _ 0 (by omega) (by omega) _ _ _ _ _ _ (by simp)
  · obtain ⟨p1, hp1⟩ : ∃ q : Int, q = 0 + 1 := ⟨_, rfl⟩
    rw [← hp1] at h0 ht0
    rcases oneB_cases s p1 (by omega) (by omega) with h1 | ⟨b, h1, b0, b1, hl1, ht1⟩
    · refine ⟨zRec, ?_, ?_, goodR_z s⟩
      · simp only [impl_one_eq s (by omega) 0 false (by omega) (by omega), impl_one_eq s (by omega) p1 false (by omega) (by omega), h0, h1, impl_one_eq s (by omega) p1 true (by omega) (by omega), oneB_bad, Option.bind_some]
        refine Ev.bind (impl_num_ev s (by omega) p1 true (by omega) (by omega)) ?_
        simp only [numB_bad]
        refine Ev.bind (impl_num_ev s (by omega) p1 true (by omega) (by omega)) ?_
        simp only [numB_bad]
        exact impl_rec_bad s (by omega) _ p1 (by omega) (by omega) _ _ _ _ _ _
      · simp only [spec_one_eq s (by omega) 0 false (by omega) (by omega), spec_one_eq s (by omega) p1 false (by omega) (by omega), h0, h1, spec_one_eq s (by omega) p1 true (by omega) (by omega), oneB_bad, Option.bind_some]
        refine Ev.bind (spec_num_ev s (by omega) p1 true (by omega) (by omega)) ?_
        simp only [numB_bad]
        refine Ev.bind (spec_num_ev s (by omega) p1 true (by omega) (by omega)) ?_
        simp only [numB_bad]
        exact spec_rec_bad s (by omega) _ _ p1 (by omega) (by omega) _ _ _ _ _ _ (by simp)
    · obtain ⟨p2, hp2⟩ : ∃ q : Int, q = p1 + 1 := ⟨_, rfl⟩
      rw [← hp2] at h1 ht1
      rcases oneB_cases s p2 (by omega) (by omega) with h2 | ⟨c, h2, c0, c1, hl2, ht2⟩
      · refine ⟨zRec, ?_, ?_, goodR_z s⟩
        · simp only [impl_one_eq s (by omega) 0 false (by omega) (by omega), impl_one_eq s (by omega) p1 false (by omega) (by omega), impl_one_eq s (by omega) p2 false (by omega) (by omega), h0, h1, h2, impl_one_eq s (by omega) p2 true (by omega) (by omega), oneB_bad, Option.bind_some]
          refine Ev.bind (impl_num_ev s (by omega) p2 true (by omega) (by omega)) ?_
          simp only [numB_bad]
          refine Ev.bind (impl_num_ev s (by omega) p2 true (by omega) (by omega)) ?_
          simp only [numB_bad]
          exact impl_rec_bad s (by omega) _ p2 (by omega) (by omega) _ _ _ _ _ _
        · simp only [spec_one_eq s (by omega) 0 false (by omega) (by omega), spec_one_eq s (by omega) p1 false (by omega) (by omega), spec_one_eq s (by omega) p2 false (by omega) (by omega), h0, h1, h2, spec_one_eq s (by omega) p2 true (by omega) (by omega), oneB_bad, Option.bind_some]
          refine Ev.bind (spec_num_ev s (by omega) p2 true (by omega) (by omega)) ?_
          simp only [numB_bad]
          refine Ev.bind (spec_num_ev s (by omega) p2 true (by omega) (by omega)) ?_
          simp only [numB_bad]
          exact spec_rec_bad s (by omega) _ _ p2 (by omega) (by omega) _ _ _ _ _ _ (by simp)
      · obtain ⟨p3, hp3⟩ : ∃ q : Int, q = p2 + 1 := ⟨_, rfl⟩
        rw [← hp3] at h2 ht2
        rcases oneB_cases s p3 (by omega) (by omega) with h3 | ⟨d, h3, d0, d1, hl3, ht3⟩
        · refine ⟨zRec, ?_, ?_, goodR_z s⟩
          · simp only [impl_one_eq s (by omega) 0 false (by omega) (by omega), impl_one_eq s (by omega) p1 false (by omega) (by omega), impl_one_eq s (by omega) p2 false (by omega) (by omega), impl_one_eq s (by omega) p3 false (by omega) (by omega), h0, h1, h2, h3, impl_one_eq s (by omega) p3 true (by omega) (by omega), oneB_bad, Option.bind_some]
            refine Ev.bind (impl_num_ev s (by omega) p3 true (by omega) (by omega)) ?_
            simp only [numB_bad]
            refine Ev.bind (impl_num_ev s (by omega) p3 true (by omega) (by omega)) ?_
            simp only [numB_bad]
            exact impl_rec_bad s (by omega) _ p3 (by omega) (by omega) _ _ _ _ _ _
          · simp only [spec_one_eq s (by omega) 0 false (by omega) (by omega), spec_one_eq s (by omega) p1 false (by omega) (by omega), spec_one_eq s (by omega) p2 false (by omega) (by omega), spec_one_eq s (by omega) p3 false (by omega) (by omega), h0, h1, h2, h3, spec_one_eq s (by omega) p3 true (by omega) (by omega), oneB_bad, Option.bind_some]
            refine Ev.bind (spec_num_ev s (by omega) p3 true (by omega) (by omega)) ?_
            simp only [numB_bad]
            refine Ev.bind (spec_num_ev s (by omega) p3 true (by omega) (by omega)) ?_
            simp only [numB_bad]
            exact spec_rec_bad s (by omega) _ _ p3 (by omega) (by omega) _ _ _ _ _ _ (by simp)
        · obtain ⟨p4, hp4⟩ : ∃ q : Int, q = p3 + 1 := ⟨_, rfl⟩
          rw [← hp4] at h3 ht3
          rcases numB_cases s p4 (by omega) (by omega) with h4 | ⟨e, p5, h4, e0, e1, hl4, hm4, ht4⟩
          · refine ⟨zRec, ?_, ?_, goodR_z s⟩
            · simp only [impl_one_eq s (by omega) 0 false (by omega) (by omega), impl_one_eq s (by omega) p1 false (by omega) (by omega), impl_one_eq s (by omega) p2 false (by omega) (by omega), impl_one_eq s (by omega) p3 false (by omega) (by omega), h0, h1, h2, h3, Option.bind_some]
              refine Ev.bind (impl_num_ev s (by omega) p4 false (by omega) (by omega)) ?_
              simp only [h4]
              refine Ev.bind (impl_num_ev s (by omega) p4 true (by omega) (by omega)) ?_
              simp only [numB_bad]
              exact impl_rec_bad s (by omega) _ p4 (by omega) (by omega) _ _ _ _ _ _
            · simp only [spec_one_eq s (by omega) 0 false (by omega) (by omega), spec_one_eq s (by omega) p1 false (by omega) (by omega), spec_one_eq s (by omega) p2 false (by omega) (by omega), spec_one_eq s (by omega) p3 false (by omega) (by omega), h0, h1, h2, h3, Option.bind_some]
              refine Ev.bind (spec_num_ev s (by omega) p4 false (by omega) (by omega)) ?_
              simp only [h4]
              refine Ev.bind (spec_num_ev s (by omega) p4 true (by omega) (by omega)) ?_
              simp only [numB_bad]
              exact spec_rec_bad s (by omega) _ _ p4 (by omega) (by omega) _ _ _ _ _ _ (by simp)
          · skip
            rcases numB_cases s p5 (by omega) (by omega) with h5 | ⟨n, p6, h5, n0, n1, hl5, hm5, ht5⟩
            · refine ⟨zRec, ?_, ?_, goodR_z s⟩
              · simp only [impl_one_eq s (by omega) 0 false (by omega) (by omega), impl_one_eq s (by omega) p1 false (by omega) (by omega), impl_one_eq s (by omega) p2 false (by omega) (by omega), impl_one_eq s (by omega) p3 false (by omega) (by omega), h0, h1, h2, h3, Option.bind_some]
                refine Ev.bind (impl_num_ev s (by omega) p4 false (by omega) (by omega)) ?_
                simp only [h4]
                refine Ev.bind (impl_num_ev s (by omega) p5 false (by omega) (by omega)) ?_
                simp only [h5]
                exact impl_rec_bad s (by omega) _ p5 (by omega) (by omega) _ _ _ _ _ _
              · simp only [spec_one_eq s (by omega) 0 false (by omega) (by omega), spec_one_eq s (by omega) p1 false (by omega) (by omega), spec_one_eq s (by omega) p2 false (by omega) (by omega), spec_one_eq s (by omega) p3 false (by omega) (by omega), h0, h1, h2, h3, Option.bind_some]
                refine Ev.bind (spec_num_ev s (by omega) p4 false (by omega) (by omega)) ?_
                simp only [h4]
                refine Ev.bind (spec_num_ev s (by omega) p5 false (by omega) (by omega)) ?_
                simp only [h5]
                exact spec_rec_bad s (by omega) _ _ p5 (by omega) (by omega) _ _ _ _ _ _ (by simp)
            · have hz : (B s).take (0 : Int).toNat = [] := by rfl
              have hI : (B s).take p6.toNat = [a, b, c, d] ++ varN e ++ varN n ++ nearT ([] : List S63) := by
                rw [ht5, ht4, ht3, ht2, ht1, ht0, hz]; simp [nearT]
              obtain ⟨R, r1, r2, r3⟩ := rec_loop s hs a b c d e n ⟨a0, a1⟩ ⟨b0, b1⟩ ⟨c0, c1⟩ ⟨d0, d1⟩ n0 n1 7 [] p6 (by simp) (by simp; omega) (by omega) (by omega) hI
              refine ⟨R, ?_, ?_, r3⟩
              · simp only [impl_one_eq s (by omega) 0 false (by omega) (by omega), impl_one_eq s (by omega) p1 false (by omega) (by omega), impl_one_eq s (by omega) p2 false (by omega) (by omega), impl_one_eq s (by omega) p3 false (by omega) (by omega), h0, h1, h2, h3, Option.bind_some]
                refine Ev.bind (impl_num_ev s (by omega) p4 false (by omega) (by omega)) ?_
                simp only [h4]
                refine Ev.bind (impl_num_ev s (by omega) p5 false (by omega) (by omega)) ?_
                simp only [h5]
                have eq0 : n - ((List.length ([] : List S63) : Nat) : Int) = n := by simp
                rw [eq0] at r1
                exact r1
              · simp only [spec_one_eq s (by omega) 0 false (by omega) (by omega), spec_one_eq s (by omega) p1 false (by omega) (by omega), spec_one_eq s (by omega) p2 false (by omega) (by omega), spec_one_eq s (by omega) p3 false (by omega) (by omega), h0, h1, h2, h3, Option.bind_some]
                refine Ev.bind (spec_num_ev s (by omega) p4 false (by omega) (by omega)) ?_
                simp only [h4]
                refine Ev.bind (spec_num_ev s (by omega) p5 false (by omega) (by omega)) ?_
                simp only [h5]
                exact r2

/-- A number's bytes, read: the number, and the place behind them. -/
theorem rvM_var (a : Nat) (rest : List Int) : ∀ (f d : Nat) (n acc u : Int) (i : Nat), 1 ≤ f → f ≤ d + 1 → 0 ≤ n → n < 128 ^ f → (i = a ∨ 0 < n) → 0 ≤ acc → 1 ≤ u → acc + n * u ≤ 1000000000 →
    rvM a f (varL d n ++ rest) acc u i = (acc + n * u, (i : Int) + (varL d n).length, true)
  | 0, _, _, _, _, _, h, _, _, _, _, _, _, _ => absurd h (by omega)
  | f + 1, d, n, acc, u, i, _, hfd, h0, hlt, hi, ha, hu, hs => by
    by_cases hn : n > 127
    · cases d with
      | zero =>
        exfalso
        have : f = 0 := by omega
        subst this
        simp at hlt; omega
      | succ d =>
        have hp : (128 : Int) ^ (f + 1) = 128 ^ f * 128 := Int.pow_succ _ _
        have hf1 : 1 ≤ f := by
          rcases Nat.eq_zero_or_pos f with e | e
          · subst e; simp at hlt; omega
          · exact e
        simp only [varL]
        rw [if_pos hn, List.cons_append, rvM, if_neg (by omega)]
        have e1 : (n % 128 + 128) % 128 = n % 128 := by omega
        have e2 : acc + n % 128 * u + n / 128 * (u * 128) = acc + n * u := by
          have h3 : n = n % 128 + n / 128 * 128 := by omega
          have h4 : n / 128 * (u * 128) = n / 128 * 128 * u := by rw [Int.mul_assoc, Int.mul_comm 128 u]
          have h5 : n * u = (n % 128 + n / 128 * 128) * u := by rw [← h3]
          rw [h4, h5, Int.add_mul]; omega
        have hq : 0 ≤ n % 128 * u := Int.mul_nonneg (by omega) (by omega)
        rw [e1, rvM_var a rest f d (n / 128) (acc + n % 128 * u) (u * 128) (i + 1) hf1 (by omega) (by omega) (by omega) (Or.inr (by omega)) (by omega) (by omega) (by rw [e2]; exact hs), e2]
        simp only [List.length_cons]
        congr 2; omega
    · have hv : varL d n = [n] := by
        cases d with
        | zero => simp only [varL]; congr 1; omega
        | succ d => simp only [varL]; rw [if_neg hn]; congr 1; omega
      have e1 : n % 128 = n := by omega
      rw [hv, List.cons_append, List.nil_append, rvM, if_pos (by omega), e1, if_neg (by omega)]
      rfl
theorem rvB_var (s : ByteArray) (a : Nat) (n : Int) (rest : List Int) (h0 : 0 ≤ n) (h1 : n ≤ 1000000000) (h : (B s).drop a = varN n ++ rest) : rvB s a = (n, (a : Int) + (varN n).length, true) := by
  unfold rvB
  have e : (128 : Int) ^ 5 = 34359738368 := by decide
  rw [h, varN, rvM_var a rest 5 9 n 0 1 a (by omega) (by omega) h0 (by omega) (Or.inl rfl) (by omega) (by omega) (by omega)]
  congr 1; omega

theorem impl_VarText_l0_ev (d : Nat) : ∀ (n : Int) (acc : List Int), 0 ≤ n → n ≤ 9223372036854775807 → n < 128 ^ (d + 1) → acc.length + d < 1000 →
    Ev (fun k => impl_VarText.l0 k n acc) (strOfNums (acc ++ varL d n), true) := by
  induction d with
  | zero =>
    intro n acc h0 hm h1 hl
    refine Ev.step (f := fun _ => some (strOfNums (acc ++ varL 0 n), true)) (fun k => ?_) (Ev.now _)
    simp only [impl_VarText.l0, varL]
    rw [if_neg (by omega), if_pos (by omega)]
  | succ d ih =>
    intro n acc h0 hm h1 hl
    by_cases hn : n > 127
    · have hi := ih (n / 128) (acc ++ [n % 128 + 128]) (by omega) (by omega) (by rw [Int.pow_succ] at h1; omega) (by simp only [List.length_append, List.length_cons, List.length_nil]; omega)
      rw [List.append_assoc, List.singleton_append] at hi
      rw [varL, if_pos hn]
      refine Ev.step (fun k => ?_) hi
      simp only [impl_VarText.l0]
      rw [if_pos hn, if_pos (by omega), tdivp h0, tmodp h0, w64 (by omega) (by omega), w64 (by omega) (by omega), show (n % 128 + 128) % 256 = n % 128 + 128 by omega]
    · rw [varL, if_neg hn]
      refine Ev.step (f := fun _ => some (strOfNums (acc ++ [n % 256]), true)) (fun k => ?_) (Ev.now _)
      simp only [impl_VarText.l0]
      rw [if_neg hn, if_pos (by omega)]
theorem impl_VarText_yes (n : Int) (h0 : 0 ≤ n) (h1 : n ≤ 1000000000) : Ev (fun k => impl_VarText.f k n) (strOfNums (varN n), true) := by
  refine Ev.congr (fun k => ?_) (impl_VarText_l0_ev 9 n [] h0 (by omega) (by omega) (by simp))
  simp only [impl_VarText.f, impl_in_eq, Option.bind_some]
  rw [if_pos (by simp; omega)]
theorem impl_RecordText_l0_ev (q0 q1 q2 q3 q4 co : Int) (fa : Bool) (l : List S63) (hl : l.length ≤ 1048576) (hn : ∀ x ∈ l, 1 ≤ x.f0 ∧ x.f0 ≤ 6 ∧ 1 ≤ x.f1 ∧ x.f1 ≤ 1000) (hc : 0 ≤ co ∧ co ≤ 60000) (d : Nat) :
    ∀ (i : Nat) (acc : List Int), i + d = l.length → acc.length ≤ 100 + 11 * i →
    Ev (fun k => impl_RecordText.l0 k (strOfNums acc) l (l.length : Int) i q0 q1 q2 q3 q4 l co fa) (strOfNums (acc ++ nearT (l.drop i) ++ varN co ++ farT fa), true) := by
  induction d with
  | zero =>
    intro i acc hi ha
    have hv := varN_len co
    rw [List.drop_eq_nil_of_le (by omega), nearT, List.append_nil]
    apply ev_succ
    simp only [impl_RecordText.l0]
    refine ev_neg (by omega) (Ev.bind (impl_VarText_yes co hc.1 (by omega)) ?_)
    have hs1 : (strOfNums acc).size + (strOfNums (varN co)).size ≤ 9223372036854775807 := by rw [Go.strOfNums_size, Go.strOfNums_size]; omega
    have hs : (strOfNums acc ++ strOfNums (varN co)).size + 1 ≤ 9223372036854775807 := by rw [str_app, Go.strOfNums_size, List.length_append]; omega
    cases fa with
    | true => exact ev_pos rfl (ev_pos hs1 (ev_pos hs (ev_some (by rw [str_app, show (⟨#[1]⟩ : ByteArray) = strOfNums [1] from rfl, str_app]; rfl))))
    | false => exact ev_neg (by simp) (ev_pos hs1 (ev_pos hs (ev_some (by rw [str_app, show (⟨#[0]⟩ : ByteArray) = strOfNums [0] from rfl, str_app]; rfl))))
  | succ d ih =>
    intro i acc hi ha
    obtain ⟨x, hx⟩ : ∃ x, rd_T63 l (i : Int) = x := ⟨_, rfl⟩
    have hx2 : l.getD i z63 = x := hx
    have hm : x ∈ l := by rw [← hx2, List.getD_eq_getElem?_getD, List.getElem?_eq_getElem (by omega)]; exact List.getElem_mem _
    have hx3 := hn x hm
    have hv := varN_len x.f1
    have hr := ih (i + 1) (acc ++ ([x.f0 % 256] ++ varN x.f1)) (by omega) (by simp only [List.length_append, List.length_cons, List.length_nil]; omega)
    rw [drop_at l z63 i (by omega), hx2, nearT]
    apply ev_succ
    simp only [impl_RecordText.l0, hx]
    rw [w64 (by omega) (by omega)]
    refine ev_pos (by omega) (ev_pos (by omega) (ev_pos (by omega) ?_))
    refine Ev.bind (impl_VarText_yes x.f1 (by omega) (by omega)) ?_
    simp only [Option.bind_some, str_app]
    refine ev_pos (by simp only [Go.strOfNums_size, List.length_cons, List.length_nil, List.length_append]; omega) (ev_pos (by simp only [Go.strOfNums_size, List.length_cons, List.length_nil, List.length_append]; omega) ?_)
    refine ev_to hr ?_
    congr 2
    simp only [List.append_assoc, List.cons_append, List.nil_append]
theorem impl_RecordText_yes (ar ki ow ke se : Int) (l : List S63) (co : Int) (fa : Bool) (hl : l.length ≤ 1048576) (h : recB ar ki ow ke se l co fa = true) :
    Ev (fun k => impl_RecordText.f k ar ki ow ke se l co fa) (strOfNums (recT ar ki ow ke se l co fa), true) := by
  have hf := recB_facts h
  have hv := varN_len se
  have hw := varN_len (l.length : Int)
  unfold impl_RecordText.f
  refine Ev.bind (impl_RecordOk_ev ar ki ow ke se l co fa (by omega)) ?_
  rw [h]
  refine ev_pos rfl ?_
  refine Ev.bind (impl_VarText_yes se (by omega) (by omega)) (Ev.bind (impl_VarText_yes (l.length : Int) (by omega) (by omega)) ?_)
  simp only [Option.bind_some, str_app]
  refine ev_pos (by simp only [Go.strOfNums_size, List.length_cons, List.length_nil, List.length_append]; omega) ?_
  refine ev_pos (by simp only [Go.strOfNums_size, List.length_cons, List.length_nil, List.length_append]; omega) ?_
  exact impl_RecordText_l0_ev ar ki ow ke se co fa l hl (recB_near h) (by omega) l.length 0 ([ar % 256, ki % 256, ow % 256, ke % 256] ++ varN se ++ varN (l.length : Int)) (by omega) (by simp only [List.length_cons, List.length_nil, List.length_append]; omega)
theorem impl_RecordText_no (ar ki ow ke se : Int) (l : List S63) (co : Int) (fa : Bool) (hl : l.length ≤ 9223372036854775807) (h : ¬ recB ar ki ow ke se l co fa = true) :
    Ev (fun k => impl_RecordText.f k ar ki ow ke se l co fa) (⟨#[]⟩, false) := by
  unfold impl_RecordText.f
  exact Ev.bind (impl_RecordOk_ev ar ki ow ke se l co fa hl) (ev_neg h (Ev.now _))

theorem and255 (x : Int) : 0 ≤ Go.bits .and .i64 x 255 ∧ Go.bits .and .i64 x 255 < 256 := by
  have h : ((BitVec.ofInt 64 x) &&& (BitVec.ofInt 64 255)).toNat ≤ 255 := by
    rw [BitVec.toNat_and]
    exact Nat.le_trans Nat.and_le_right (by decide)
  have e : Go.bits .and .i64 x 255 = IntKind.i64.wrap ((((BitVec.ofInt 64 x) &&& (BitVec.ofInt 64 255)).toNat : Nat) : Int) := rfl
  rw [e, IntKind.wrap_i64]
  omega

/-- What is drawn: the place in the bytes stays at 0 or more, what comes is in its bounds. -/
theorem spec_l01Byte_ex (xs : List Int) (p s : Int) (hp : 0 ≤ p) (hx : xs.length ≤ 9223372036854775000) : ∃ v p' s', spec_l01Byte.f xs p s = some (v, p', s') ∧ 0 ≤ v ∧ v < 256 ∧ 0 ≤ p' := by
  unfold spec_l01Byte.f
  by_cases h : p < (xs.length : Int)
  · rw [if_pos h, if_pos hp]
    refine ⟨_, _, _, rfl, (and255 _).1, (and255 _).2, ?_⟩
    rw [w64 (by omega) (by omega)]
    omega
  · rw [if_neg h]
    exact ⟨_, _, _, rfl, (and255 _).1, (and255 _).2, hp⟩
theorem spec_l01Below_ex (xs : List Int) (p s n : Int) (hp : 0 ≤ p) (hx : xs.length ≤ 9223372036854775000) (h1 : 1 ≤ n) (h2 : n ≤ 256) : ∃ v p' s', spec_l01Below.f xs p s n = some (v, p', s') ∧ 0 ≤ v ∧ v < n ∧ 0 ≤ p' := by
  obtain ⟨v, p', s', h, h3, h4, h5⟩ := spec_l01Byte_ex xs p s hp hx
  unfold spec_l01Below.f
  rw [if_neg (by omega), if_pos h2, h, Option.bind_some, if_neg (by omega)]
  refine ⟨_, _, _, rfl, ?_, ?_, h5⟩
  · rw [tmodp h3]; exact Int.emod_nonneg _ (by omega)
  · rw [tmodp h3]; exact Int.emod_lt_of_pos _ (by omega)
theorem spec_l01Once_ex (xs : List Int) (p s n : Int) (hp : 0 ≤ p) (hx : xs.length ≤ 9223372036854775000) (h1 : 1 ≤ n) (h2 : n ≤ 256) : ∃ b p' s', spec_l01Once.f xs p s n = some (b, p', s') ∧ 0 ≤ p' := by
  obtain ⟨v, p', s', h, _, _, h5⟩ := spec_l01Below_ex xs p s n hp hx h1 h2
  unfold spec_l01Once.f
  rw [h, Option.bind_some]
  exact ⟨_, _, _, rfl, h5⟩
theorem spec_l01PickInt_ex (xs : List Int) (p s : Int) (l : List Int) (hp : 0 ≤ p) (hx : xs.length ≤ 9223372036854775000) (h1 : 1 ≤ l.length) (h2 : l.length ≤ 256) : ∃ v p' s', spec_l01PickInt.f xs p s l = some (v, p', s') ∧ 0 ≤ p' := by
  obtain ⟨v, p', s', h, h3, h4, h5⟩ := spec_l01Below_ex xs p s l.length hp hx (by omega) (by omega)
  unfold spec_l01PickInt.f
  rw [h, Option.bind_some, if_pos h3, if_pos h4]
  exact ⟨_, _, _, rfl, h5⟩
theorem spec_l01New_l0_ex (xs : List Int) (hx : xs.length ≤ 9223372036854775000) (d : Nat) : ∀ (i : Nat) (s : Int), i + d = xs.length → ∃ s', Ev (fun k => spec_l01New.l0 k xs s i) (xs, 0, s') := by
  induction d with
  | zero =>
    intro i s hi
    refine ⟨s, ev_succ ?_⟩
    simp only [spec_l01New.l0]
    exact ev_neg (by omega) (Ev.now _)
  | succ d ih =>
    intro i s hi
    obtain ⟨s', h⟩ := ih (i + 1) _ (by omega)
    by_cases h4 : (i : Int) < 4000
    · refine ⟨s', ev_succ ?_⟩
      simp only [spec_l01New.l0]
      rw [w64 (x := (i : Int) + 1) (by omega) (by omega)]
      exact ev_pos (by omega) (ev_pos h4 (ev_pos (by omega) h))
    · refine ⟨s, ev_succ ?_⟩
      simp only [spec_l01New.l0]
      exact ev_pos (by omega) (ev_neg h4 (Ev.now _))
theorem spec_l01New_ex (xs : List Int) (hx : xs.length ≤ 9223372036854775000) : ∃ s', Ev (fun k => spec_l01New.f k xs) (xs, 0, s') := spec_l01New_l0_ex xs hx xs.length 0 _ (by omega)

-- toNear
/-! Near: lists -/
theorem spec_l04Record_l0_ex (xs : List Int) (hx : xs.length ≤ 9223372036854775000) (a b c e f g : Int) (fl : Bool) (d : Nat) : ∀ (i : Nat) (p s : Int) (nr : List S63), i + d = 7 → nr.length ≤ i → 0 ≤ p →
    ∃ nr' p' s', Ev (fun k => spec_l04Record.l0 k i xs p s a b c e f nr g fl) (a, b, c, e, f, nr', g, fl, p', s') ∧ nr'.length ≤ 7 ∧ 0 ≤ p' := by
  induction d with
  | zero =>
    intro i p s nr hi hn hp
    refine ⟨nr, p, s, ev_succ ?_, by omega, hp⟩
    simp only [spec_l04Record.l0]
    exact ev_neg (by omega) (Ev.now _)
  | succ d ih =>
    intro i p s nr hi hn hp
    by_cases hc : (i : Int) = c
    · obtain ⟨nr', p', s', h, h1, h2⟩ := ih (i + 1) p s nr (by omega) (by omega) hp
      refine ⟨nr', p', s', ev_succ ?_, h1, h2⟩
      simp only [spec_l04Record.l0]
      rw [w64 (x := (i : Int) + 1) (by omega) (by omega)]
      exact ev_pos (by omega) (ev_pos hc h)
    · obtain ⟨y, p1, s1, h1, hp1⟩ := spec_l01Once_ex xs p s 3 hp hx (by omega) (by omega)
      by_cases hy : y = true
      · obtain ⟨v, p2, s2, h2, _, _, hp2⟩ := spec_l01Below_ex xs p1 s1 4 hp1 hx (by omega) (by omega)
        obtain ⟨nr', p', s', h, h3, h4⟩ := ih (i + 1) p2 s2 (nr ++ [⟨(i : Int), wrap64 (1 + v)⟩]) (by omega) (by simp; omega) hp2
        refine ⟨nr', p', s', ev_succ ?_, h3, h4⟩
        simp only [spec_l04Record.l0, h1, h2, Option.bind_some]
        rw [w64 (x := (i : Int) + 1) (by omega) (by omega)]
        exact ev_pos (by omega) (ev_neg hc (ev_pos hy (ev_pos (by omega) h)))
      · obtain ⟨nr', p', s', h, h3, h4⟩ := ih (i + 1) p1 s1 nr (by omega) (by omega) hp1
        refine ⟨nr', p', s', ev_succ ?_, h3, h4⟩
        simp only [spec_l04Record.l0, h1, Option.bind_some]
        rw [w64 (x := (i : Int) + 1) (by omega) (by omega)]
        exact ev_pos (by omega) (ev_neg hc (ev_neg hy h))
theorem spec_l04Record_ex (xs : List Int) (p s : Int) (hp : 0 ≤ p) (hx : xs.length ≤ 9223372036854775000) : ∃ (r : S24) (p' s' : Int), Ev (fun k => spec_l04Record.f k xs p s) (r.f0, r.f1, r.f2, r.f3, r.f4, r.f5, r.f6, r.f7, p', s') ∧ r.f5.length ≤ 7 ∧ 0 ≤ p' := by
  obtain ⟨v1, p1, s1, h1, _, _, hp1⟩ := spec_l01Below_ex xs p s 3 hp hx (by omega) (by omega)
  obtain ⟨v2, p2, s2, h2, _, _, hp2⟩ := spec_l01Below_ex xs p1 s1 4 hp1 hx (by omega) (by omega)
  obtain ⟨v3, p3, s3, h3, _, _, hp3⟩ := spec_l01Below_ex xs p2 s2 3 hp2 hx (by omega) (by omega)
  obtain ⟨v4, p4, s4, h4, _, _, hp4⟩ := spec_l01Below_ex xs p3 s3 5 hp3 hx (by omega) (by omega)
  unfold spec_l04Record.f
  simp only [h1, h2, h3, h4, Option.bind_some]
  by_cases c1 : wrap64 (1 + v1) = 1
  · obtain ⟨nr', p', s', h, h5, h6⟩ := spec_l04Record_l0_ex xs hx v3 (wrap64 (1 + v1)) (wrap64 (1 + v2)) 0 (wrap64 (1 + v4)) 0 false 6 1 p4 s4 [] (by omega) (by simp) hp4
    exact ⟨⟨_, _, _, _, _, nr', _, _⟩, p', s', ev_pos c1 h, h5, h6⟩
  · by_cases c2 : wrap64 (1 + v1) = 2
    · obtain ⟨v5, p5, s5, h5, _, _, hp5⟩ := spec_l01Below_ex xs p4 s4 5 hp4 hx (by omega) (by omega)
      obtain ⟨v6, p6, s6, h6, hp6⟩ := spec_l01PickInt_ex xs p5 s5 [0, 1, 2, 5, 60000] hp5 hx (by decide) (by decide)
      simp only [h5, h6, Option.bind_some]
      exact ⟨⟨_, _, _, _, _, [], _, _⟩, p6, s6, ev_neg c1 (ev_pos c2 (Ev.now _)), by simp, hp6⟩
    · by_cases c3 : wrap64 (1 + v1) = 3
      · obtain ⟨v5, p5, s5, h5, _, _, hp5⟩ := spec_l01Below_ex xs p4 s4 3 hp4 hx (by omega) (by omega)
        obtain ⟨v6, p6, s6, h6, hp6⟩ := spec_l01PickInt_ex xs p5 s5 [1, 2, 5, 60000] hp5 hx (by decide) (by decide)
        obtain ⟨v7, p7, s7, h7, hp7⟩ := spec_l01Once_ex xs p6 s6 2 hp6 hx (by omega) (by omega)
        simp only [h5, h6, h7, Option.bind_some]
        exact ⟨⟨_, _, _, _, _, [], _, _⟩, p7, s7, ev_neg c1 (ev_neg c2 (ev_pos c3 (Ev.now _))), by simp, hp7⟩
      · exact ⟨⟨_, _, _, _, _, [], _, _⟩, p4, s4, ev_neg c1 (ev_neg c2 (ev_neg c3 (Ev.now _))), by simp, hp4⟩

/-- A number below any n above 0, drawn. -/
theorem spec_l01Below_any (xs : List Int) (p s n : Int) (hp : 0 ≤ p) (hx : xs.length ≤ 9223372036854775000) (h1 : 1 ≤ n) (h2 : n ≤ 4294967296) : ∃ v p' s', spec_l01Below.f xs p s n = some (v, p', s') ∧ 0 ≤ v ∧ v < n ∧ 0 ≤ p' := by
  by_cases hn : n ≤ 256
  · exact spec_l01Below_ex xs p s n hp hx h1 hn
  · obtain ⟨v1, p1, s1, e1, a1, b1, c1⟩ := spec_l01Byte_ex xs p s hp hx
    obtain ⟨v2, p2, s2, e2, a2, b2, c2⟩ := spec_l01Byte_ex xs p1 s1 c1 hx
    obtain ⟨v3, p3, s3, e3, a3, b3, c3⟩ := spec_l01Byte_ex xs p2 s2 c2 hx
    obtain ⟨v4, p4, s4, e4, a4, b4, c4⟩ := spec_l01Byte_ex xs p3 s3 c3 hx
    unfold spec_l01Below.f
    rw [if_neg (by omega), if_neg hn, e1]
    simp only [Option.bind_some]
    rw [e2]
    simp only [Option.bind_some]
    rw [e3]
    simp only [Option.bind_some]
    rw [e4]
    simp only [Option.bind_some]
    rw [if_neg (by omega)]
    have w1 : wrap64 (v1 * 16777216) = v1 * 16777216 := w64 (by omega) (by omega)
    have w2 : wrap64 (v2 * 65536) = v2 * 65536 := w64 (by omega) (by omega)
    have w3 : wrap64 (v3 * 256) = v3 * 256 := w64 (by omega) (by omega)
    rw [w1, w2, w3, w64 (x := v1 * 16777216 + v2 * 65536) (by omega) (by omega), w64 (x := v1 * 16777216 + v2 * 65536 + v3 * 256) (by omega) (by omega), w64 (x := v1 * 16777216 + v2 * 65536 + v3 * 256 + v4) (by omega) (by omega)]
    refine ⟨_, _, _, rfl, ?_, ?_, c4⟩
    · rw [tmodp (by omega)]; exact Int.emod_nonneg _ (by omega)
    · rw [tmodp (by omega)]; exact Int.emod_lt_of_pos _ (by omega)
theorem spec_l01Text_l0_ex (xs : List Int) (hx : xs.length ≤ 9223372036854775000) (n : Int) (hn : n ≤ 5000) (d : Nat) : ∀ (i : Nat) (acc : List Int) (p s : Int), (i : Int) + d = n ∨ (d = 0 ∧ n ≤ i) → i ≤ 5000 → acc.length = i → Byt acc → 0 ≤ p →
    ∃ t p' s', Ev (fun k => spec_l01Text.l0 k n acc i xs p s) (t, p', s') ∧ t.size ≤ i + d ∧ 0 ≤ p' := by
  induction d with
  | zero =>
    intro i acc p s hi hl ha hb hp
    refine ⟨strOfNums acc, p, s, ev_succ ?_, ?_, hp⟩
    · simp only [spec_l01Text.l0]
      exact ev_neg (by omega) (Ev.now _)
    · rw [Go.strOfNums_size]; omega
  | succ d ih =>
    intro i acc p s hi hl ha hb hp
    obtain ⟨v, p1, s1, e, a, b, c⟩ := spec_l01Byte_ex xs p s hp hx
    have ev : v % 256 = v := by omega
    obtain ⟨t, p', s', h, ht, hp'⟩ := ih (i + 1) (acc ++ [v]) p1 s1 (by omega) (by omega) (by simp; omega) (byt_app hb (by intro x hx; simp only [List.mem_singleton] at hx; omega)) c
    refine ⟨t, p', s', ev_succ ?_, by omega, hp'⟩
    simp only [spec_l01Text.l0]
    rw [e, w64 (x := (i : Int) + 1) (by omega) (by omega)]
    simp only [Option.bind_some, ev]
    exact ev_pos (by omega) (ev_pos (by omega) h)
theorem spec_l01Text_ex (xs : List Int) (p s n : Int) (hp : 0 ≤ p) (hx : xs.length ≤ 9223372036854775000) : ∃ t p' s', Ev (fun k => spec_l01Text.f k xs p s n) (t, p', s') ∧ t.size ≤ 5000 ∧ 0 ≤ p' := by
  have hj : ∀ m : Int, m ≤ 5000 → ∃ t p' s', Ev (fun k => spec_l01Text.j0 k m xs p s) (t, p', s') ∧ t.size ≤ 5000 ∧ 0 ≤ p' := by
    intro m hm
    obtain ⟨t, p', s', h, ht, hp'⟩ := spec_l01Text_l0_ex xs hx m hm m.toNat 0 [] p s (by omega) (by omega) rfl (by intro x hx; cases hx) hp
    refine ⟨t, p', s', ev_succ ?_, by omega, hp'⟩
    simp only [spec_l01Text.j0]
    exact h
  unfold spec_l01Text.f
  by_cases h : n > 5000
  · obtain ⟨t, p', s', h1, h2, h3⟩ := hj 5000 (by omega)
    exact ⟨t, p', s', ev_pos h h1, h2, h3⟩
  · obtain ⟨t, p', s', h1, h2, h3⟩ := hj n (by omega)
    exact ⟨t, p', s', ev_neg h h1, h2, h3⟩
/-- Any record, drawn. -/
theorem spec_l04Any_ex (xs : List Int) (p s : Int) (hp : 0 ≤ p) (hx : xs.length ≤ 9223372036854775000) : ∃ (r : S24) (p' s' : Int), Ev (fun k => spec_l04Any.f k xs p s) (r.f0, r.f1, r.f2, r.f3, r.f4, r.f5, r.f6, r.f7, p', s') ∧ r.f5.length ≤ 8 ∧ 0 ≤ p' := by
  obtain ⟨r, p1, s1, h1, hl, hp1⟩ := spec_l04Record_ex xs p s hp hx
  obtain ⟨v, p2, s2, h2, _, _, hp2⟩ := spec_l01Below_ex xs p1 s1 30 hp1 hx (by omega) (by omega)
  have pick : ∀ l : List Int, 1 ≤ l.length → l.length ≤ 256 → ∃ v p' s', spec_l01PickInt.f xs p2 s2 l = some (v, p', s') ∧ 0 ≤ p' := fun l a b => spec_l01PickInt_ex xs p2 s2 l hp2 hx a b
  unfold spec_l04Any.f
  by_cases c0 : v = 0
  · obtain ⟨u, p3, s3, h3, hp3⟩ := pick [(-1), 3, 9, 0] (by decide) (by decide)
    refine ⟨⟨u, r.f1, r.f2, r.f3, r.f4, r.f5, r.f6, r.f7⟩, p3, s3, Ev.bind h1 ?_, by simp only; omega, hp3⟩
    simp only [h2, h3, Option.bind_some]
    exact ev_pos c0 (Ev.now _)
  by_cases c1 : v = 1
  · obtain ⟨u, p3, s3, h3, hp3⟩ := pick [0, 1, 2, 3, 4] (by decide) (by decide)
    refine ⟨⟨r.f0, u, r.f2, r.f3, r.f4, r.f5, r.f6, r.f7⟩, p3, s3, Ev.bind h1 ?_, by simp only; omega, hp3⟩
    simp only [h2, h3, Option.bind_some]
    exact ev_neg c0 (ev_pos c1 (Ev.now _))
  by_cases c2 : v = 2
  · obtain ⟨u, p3, s3, h3, hp3⟩ := pick [0, 6, 7] (by decide) (by decide)
    refine ⟨⟨r.f0, r.f1, u, r.f3, r.f4, r.f5, r.f6, r.f7⟩, p3, s3, Ev.bind h1 ?_, by simp only; omega, hp3⟩
    simp only [h2, h3, Option.bind_some]
    exact ev_neg c0 (ev_neg c1 (ev_pos c2 (Ev.now _)))
  by_cases c3 : v = 3
  · obtain ⟨u, p3, s3, h3, hp3⟩ := pick [(-1), 0, 6, 7, 9, 10] (by decide) (by decide)
    refine ⟨⟨r.f0, r.f1, r.f2, u, r.f4, r.f5, r.f6, r.f7⟩, p3, s3, Ev.bind h1 ?_, by simp only; omega, hp3⟩
    simp only [h2, h3, Option.bind_some]
    exact ev_neg c0 (ev_neg c1 (ev_neg c2 (ev_pos c3 (Ev.now _))))
  by_cases c4 : v = 4
  · obtain ⟨u, p3, s3, h3, hp3⟩ := pick [0, (-1), 100000, 100001] (by decide) (by decide)
    refine ⟨⟨r.f0, r.f1, r.f2, r.f3, u, r.f5, r.f6, r.f7⟩, p3, s3, Ev.bind h1 ?_, by simp only; omega, hp3⟩
    simp only [h2, h3, Option.bind_some]
    exact ev_neg c0 (ev_neg c1 (ev_neg c2 (ev_neg c3 (ev_pos c4 (Ev.now _)))))
  by_cases c5 : v = 5
  · obtain ⟨u, p3, s3, h3, _, _, hp3⟩ := spec_l01Below_ex xs p2 s2 8 hp2 hx (by omega) (by omega)
    obtain ⟨u', p4, s4, h4, hp4⟩ := spec_l01PickInt_ex xs p3 s3 [0, 1, 1000, 1001] hp3 hx (by decide) (by decide)
    refine ⟨⟨r.f0, r.f1, r.f2, r.f3, r.f4, r.f5 ++ [⟨u, u'⟩], r.f6, r.f7⟩, p4, s4, Ev.bind h1 ?_, by simp only [List.length_append, List.length_singleton]; omega, hp4⟩
    simp only [h2, h3, h4, Option.bind_some]
    exact ev_neg c0 (ev_neg c1 (ev_neg c2 (ev_neg c3 (ev_neg c4 (ev_pos c5 (ev_pos (by omega) (Ev.now _)))))))
  by_cases c6 : v = 6
  · obtain ⟨u, p3, s3, h3, hp3⟩ := pick [(-1), 0, 1000, 1001, 60000, 60001] (by decide) (by decide)
    refine ⟨⟨r.f0, r.f1, r.f2, r.f3, r.f4, r.f5, u, r.f7⟩, p3, s3, Ev.bind h1 ?_, by simp only; omega, hp3⟩
    simp only [h2, h3, Option.bind_some]
    exact ev_neg c0 (ev_neg c1 (ev_neg c2 (ev_neg c3 (ev_neg c4 (ev_neg c5 (ev_pos c6 (Ev.now _)))))))
  by_cases c7 : v = 7
  · refine ⟨⟨r.f0, r.f1, r.f2, r.f3, r.f4, r.f5, r.f6, !r.f7⟩, p2, s2, Ev.bind h1 ?_, by simp only; omega, hp2⟩
    simp only [h2, Option.bind_some]
    exact ev_neg c0 (ev_neg c1 (ev_neg c2 (ev_neg c3 (ev_neg c4 (ev_neg c5 (ev_neg c6 (ev_pos c7 (Ev.now _))))))))
  · refine ⟨r, p2, s2, Ev.bind h1 ?_, by omega, hp2⟩
    simp only [h2, Option.bind_some]
    exact ev_neg c0 (ev_neg c1 (ev_neg c2 (ev_neg c3 (ev_neg c4 (ev_neg c5 (ev_neg c6 (ev_neg c7 (Ev.now _))))))))
/-- A text, spoilt or not. -/
theorem spec_l02Spoilt_ex (xs : List Int) (p s : Int) (t : ByteArray) (hp : 0 ≤ p) (hx : xs.length ≤ 9223372036854775000) (ht : t.size ≤ 1000000) : ∃ t' p' s', Ev (fun k => spec_l02Spoilt.f k xs p s t) (t', p', s') ∧ t'.size ≤ t.size + 10000 ∧ 0 ≤ p' := by
  obtain ⟨v, p1, s1, h1, _, _, hp1⟩ := spec_l01Below_ex xs p s 12 hp hx (by omega) (by omega)
  have hj : ∀ b : Bool, ∃ t' p' s', Ev (fun k => spec_l02Spoilt.j0 k t b xs p1 s1) (t', p', s') ∧ t'.size ≤ t.size + 10000 ∧ 0 ≤ p' := by
    intro b
    by_cases hb : b = true
    · by_cases hs : (t.size : Int) > 0
      · obtain ⟨i, p2, s2, h2, i0, i1, hp2⟩ := spec_l01Below_any xs p1 s1 (t.size : Int) hp1 hx (by omega) (by omega)
        obtain ⟨u, p3, s3, h3, hu, hp3⟩ := spec_l01Text_ex xs p2 s2 1 hp2 hx
        have ew : wrap64 (i + 1) = i + 1 := w64 (by omega) (by omega)
        have z1 : (t.extract 0 i.toNat).size ≤ t.size := by rw [ByteArray.size_extract]; omega
        have z2 : (t.extract (wrap64 (i + 1)).toNat t.size).size ≤ t.size - (i + 1).toNat := by rw [ByteArray.size_extract, ew]; omega
        have z3 : (t.extract 0 i.toNat).size ≤ i.toNat := by rw [ByteArray.size_extract]; omega
        refine ⟨t.extract 0 i.toNat ++ u ++ t.extract (wrap64 (i + 1)).toNat t.size, p3, s3, ev_succ ?_, ?_, hp3⟩
        · simp only [spec_l02Spoilt.j0, h2, Option.bind_some]
          refine ev_pos hb (ev_pos hs (ev_pos i0 (ev_pos (by omega) (Ev.bind h3 (ev_pos (by simp only; omega) (ev_pos (by omega) (ev_pos (by omega) (ev_pos ?_ (Ev.now _)))))))))
          simp only [ByteArray.size_append]; omega
        · rw [ByteArray.size_append, ByteArray.size_append]; omega
      · refine ⟨t, p1, s1, ev_succ ?_, by omega, hp1⟩
        simp only [spec_l02Spoilt.j0]
        exact ev_pos hb (ev_neg hs (Ev.now _))
    · refine ⟨t, p1, s1, ev_succ ?_, by omega, hp1⟩
      simp only [spec_l02Spoilt.j0]
      exact ev_neg hb (Ev.now _)
  unfold spec_l02Spoilt.f
  by_cases c0 : v = 0
  · obtain ⟨u, p3, s3, h3, hu, hp3⟩ := spec_l01Text_ex xs p1 s1 1 hp1 hx
    refine ⟨t ++ u, p3, s3, ?_, by rw [ByteArray.size_append]; omega, hp3⟩
    simp only [h1, Option.bind_some]
    exact ev_pos c0 (Ev.bind h3 (ev_pos (by simp only; omega) (Ev.now _)))
  by_cases c1 : v = 1
  · have ew : wrap64 ((t.size : Int) + 1) = (t.size : Int) + 1 := w64 (by omega) (by omega)
    obtain ⟨i, p2, s2, h2, i0, i1, hp2⟩ := spec_l01Below_any xs p1 s1 ((t.size : Int) + 1) hp1 hx (by omega) (by omega)
    refine ⟨t.extract 0 i.toNat, p2, s2, ?_, by rw [ByteArray.size_extract]; omega, hp2⟩
    simp only [h1, Option.bind_some, ew, h2]
    exact ev_neg c0 (ev_pos c1 (ev_pos i0 (ev_pos (by omega) (Ev.now _))))
  by_cases c2 : v = 2
  · obtain ⟨t', p', s', h3, h4, h5⟩ := hj (v == 2)
    refine ⟨t', p', s', ?_, h4, h5⟩
    simp only [h1, Option.bind_some]
    exact ev_neg c0 (ev_neg c1 (ev_pos c2 h3))
  · obtain ⟨t', p', s', h3, h4, h5⟩ := hj (v == 3)
    refine ⟨t', p', s', ?_, h4, h5⟩
    simp only [h1, Option.bind_some]
    exact ev_neg c0 (ev_neg c1 (ev_neg c2 h3))

theorem oneB_at (s : ByteArray) (p : Nat) (x : Int) (rest : List Int) (h : (B s).drop p = x :: rest) : oneB s p false = (x, (p : Int) + 1, false) ∧ (B s).drop (p + 1) = rest ∧ p < s.size := by
  have hl : p < s.size := by
    have := congrArg List.length h
    rw [List.length_drop, B_len, List.length_cons] at this
    omega
  have h4 := B_drop s p hl
  rw [h] at h4
  injection h4 with h5 h6
  refine ⟨?_, h6.symm, hl⟩
  unfold oneB
  rw [if_neg (by decide), if_neg (by omega), ← h5]
theorem numB_at (s : ByteArray) (p : Nat) (n : Int) (rest : List Int) (h0 : 0 ≤ n) (h1 : n ≤ 1000000000) (h : (B s).drop p = varN n ++ rest) : numB s p false = (n, ((p + (varN n).length : Nat) : Int), false) ∧ (B s).drop (p + (varN n).length) = rest ∧ p + (varN n).length ≤ s.size := by
  have e := rvB_var s p n rest h0 h1 h
  have hl := congrArg List.length h
  rw [List.length_drop, B_len, List.length_append] at hl
  have := varN_len n
  refine ⟨?_, ?_, by omega⟩
  · unfold numB
    rw [if_neg (by decide), Int.toNat_natCast, e, if_pos rfl]
    simp
  · rw [← List.drop_drop, h, List.drop_left]
theorem nearT_len (l : List S63) : (nearT l).length ≤ 11 * l.length := by
  induction l with
  | nil => simp [nearT]
  | cons x l ih =>
    have := varN_len x.f1
    simp only [nearT, List.length_cons, List.length_append]; omega
theorem nearT_byt (l : List S63) : Byt (nearT l) := by
  induction l with
  | nil => intro x hx; cases hx
  | cons x l ih =>
    intro y hy
    rw [nearT] at hy
    rcases List.mem_cons.1 hy with rfl | hy
    · omega
    · exact byt_app (varN_byt _) ih y hy
theorem recT_byt (a b c d e : Int) (l : List S63) (co : Int) (fa : Bool) : Byt (recT a b c d e l co fa) := by
  unfold recT farT
  refine byt_app (byt_app (byt_app (byt_app (byt_app ?_ (varN_byt _)) (varN_byt _)) (nearT_byt _)) (varN_byt _)) ?_
  · intro x hx
    simp only [List.mem_cons, List.not_mem_nil, or_false] at hx
    omega
  · intro x hx
    simp only [List.mem_singleton] at hx
    rw [hx]; split <;> omega
theorem recT_len (a b c d e : Int) (l : List S63) (co : Int) (fa : Bool) : (recT a b c d e l co fa).length ≤ 35 + 11 * l.length := by
  have h1 := varN_len e
  have h2 := varN_len (l.length : Int)
  have h3 := nearT_len l
  have h4 := varN_len co
  unfold recT farT
  simp only [List.length_append, List.length_cons, List.length_nil]
  omega
theorem rec_back_l0 (s : ByteArray) (hs : s.size ≤ 1048576) (a b c d e co : Int) (fa : Bool) (hc : 0 ≤ co ∧ co ≤ 60000) (l : List S63) : ∀ (pre : List S63) (p : Nat), p ≤ s.size → (pre ++ l).length ≤ 100 → (∀ x ∈ l, 1 ≤ x.f0 ∧ x.f0 ≤ 6 ∧ 1 ≤ x.f1 ∧ x.f1 ≤ 1000) → recB a b c d e (pre ++ l) co fa = true → (B s).drop p = nearT l ++ varN co ++ farT fa →
    Ev (fun k => impl_ReadRecord.l0 k s (l.length : Int) s p false a b c d e pre 0 false) (a, b, c, d, e, pre ++ l, co, fa, true) := by
  induction l with
  | nil =>
    intro pre p hp hpl hn hr h
    rw [nearT, List.nil_append] at h
    rw [List.append_nil] at hr ⊢
    obtain ⟨e1, e2, e3⟩ := numB_at s p co _ (by omega) (by omega) h
    obtain ⟨e4, e5, e6⟩ := oneB_at s _ _ _ e2
    have e7 : s.size = p + (varN co).length + 1 := by
      have := congrArg List.length e5
      rw [List.length_drop, B_len, List.length_nil] at this
      omega
    have e8 : ((if fa = true then (1 : Int) else 0) == 1) = fa := by cases fa <;> rfl
    have e9 : ¬ (if fa = true then (1 : Int) else 0) > 1 := by cases fa <;> decide
    rw [List.append_nil] at hpl
    refine ev_succ ?_
    simp only [impl_ReadRecord.l0, List.length_nil]
    refine ev_neg (by simp) (ev_succ ?_)
    simp only [impl_ReadRecord.j1]
    refine ev_neg (by decide) (Ev.bind (impl_num_ev s (by omega) p false (by omega) (by omega)) ?_)
    simp only [e1, impl_one_eq s (by omega) ((p + (varN co).length : Nat) : Int) false (by omega) (by omega), Option.bind_some, e4, e8]
    refine ev_neg (by decide) (ev_neg e9 (ev_pos (by omega) (Ev.bind (impl_RecordOk_ev a b c d e pre co fa (by omega)) (ev_pos hr (Ev.now _)))))
  | cons x l ih =>
    intro pre p hp hpl hn hr h
    have hx := hn x (List.mem_cons_self ..)
    rw [nearT, show x.f0 % 256 = x.f0 by omega] at h
    simp only [List.cons_append, List.append_assoc] at h
    obtain ⟨e1, e2, e3⟩ := oneB_at s p _ _ h
    obtain ⟨e4, e5, e6⟩ := numB_at s (p + 1) x.f1 _ (by omega) (by omega) e2
    have en : ((p : Int) + 1) = ((p + 1 : Nat) : Int) := by omega
    have ep : pre ++ x :: l = (pre ++ [x]) ++ l := by simp
    have h3 := ih (pre ++ [x]) _ e6 (by rw [← ep]; exact hpl) (fun y hy => hn y (List.mem_cons_of_mem _ hy)) (by rw [← ep]; exact hr) (by rw [e5]; simp)
    rw [← ep] at h3
    have el : (((x :: l).length : Nat) : Int) - 1 = (l.length : Int) := by rw [List.length_cons]; omega
    have hlen : l.length ≤ 100 ∧ pre.length ≤ 100 := by simp only [List.length_append, List.length_cons] at hpl; omega
    refine ev_succ ?_
    simp only [impl_ReadRecord.l0, Bool.not_false]
    refine ev_pos (by rw [List.length_cons]; omega) (ev_succ ?_)
    simp only [impl_ReadRecord.j1]
    rw [impl_one_eq s (by omega) p false (by omega) (by omega), e1, en]
    simp only [Option.bind_some]
    refine ev_pos trivial (Ev.bind (impl_num_ev s (by omega) ((p + 1 : Nat) : Int) false (by omega) (by omega)) ?_)
    rw [e4, w64 (by rw [List.length_cons]; omega) (by rw [List.length_cons]; omega), el]
    exact ev_pos (by omega) h3
/-- A right record's text reads back to it. -/
theorem rec_back (a b c d e : Int) (l : List S63) (co : Int) (fa : Bool) (hr : recB a b c d e l co fa = true) : Ev (fun k => impl_ReadRecord.f k (strOfNums (recT a b c d e l co fa))) (a, b, c, d, e, l, co, fa, true) := by
  have hf := recB_facts hr
  have hl := recB_len hr
  have hn := recB_near hr
  have hbs := B_str _ (recT_byt a b c d e l co fa)
  have hsz : (strOfNums (recT a b c d e l co fa)).size ≤ 1000 := by
    have := recT_len a b c d e l co fa
    rw [Go.strOfNums_size]; omega
  generalize strOfNums (recT a b c d e l co fa) = s at hbs hsz
  unfold recT at hbs
  rw [show a % 256 = a by omega, show b % 256 = b by omega, show c % 256 = c by omega, show d % 256 = d by omega] at hbs
  simp only [List.cons_append, List.append_assoc, List.nil_append] at hbs
  have h0 : (B s).drop 0 = a :: b :: c :: d :: (varN e ++ (varN (l.length : Int) ++ (nearT l ++ (varN co ++ farT fa)))) := by rw [List.drop_zero]; exact hbs
  obtain ⟨a1, a2, a3⟩ := oneB_at s 0 _ _ h0
  obtain ⟨b1, b2, b3⟩ := oneB_at s 1 _ _ a2
  obtain ⟨c1, c2, c3⟩ := oneB_at s 2 _ _ b2
  obtain ⟨d1, d2, d3⟩ := oneB_at s 3 _ _ c2
  obtain ⟨e1, e2, e3⟩ := numB_at s 4 e _ (by omega) (by omega) d2
  obtain ⟨f1, f2, f3⟩ := numB_at s _ (l.length : Int) _ (by omega) (by omega) e2
  have z := rec_back_l0 s (by omega) a b c d e co fa (by omega) l [] _ f3 (by simp; omega) hn hr (by rw [f2]; simp)
  rw [List.nil_append] at z
  have ia := impl_one_eq s (by omega) ((0 : Nat) : Int) false (by omega) (by omega)
  have ib := impl_one_eq s (by omega) ((1 : Nat) : Int) false (by omega) (by omega)
  have ic := impl_one_eq s (by omega) ((2 : Nat) : Int) false (by omega) (by omega)
  have id' := impl_one_eq s (by omega) ((3 : Nat) : Int) false (by omega) (by omega)
  have ie := impl_num_ev s (by omega) ((4 : Nat) : Int) false (by omega) (by omega)
  have if' := impl_num_ev s (by omega) ((4 + (varN e).length : Nat) : Int) false (by omega) (by omega)
  rw [a1] at ia
  rw [b1] at ib
  rw [c1] at ic
  rw [d1] at id'
  rw [e1] at ie
  rw [f1] at if'
  have n0 : ((0 : Nat) : Int) = 0 := rfl
  have n1 : ((0 : Nat) : Int) + 1 = ((1 : Nat) : Int) := rfl
  have n2 : ((1 : Nat) : Int) + 1 = ((2 : Nat) : Int) := rfl
  have n3 : ((2 : Nat) : Int) + 1 = ((3 : Nat) : Int) := rfl
  have n4 : ((3 : Nat) : Int) + 1 = ((4 : Nat) : Int) := rfl
  rw [n1] at ia
  rw [n2] at ib
  rw [n3] at ic
  rw [n4] at id'
  rw [n0] at ia
  unfold impl_ReadRecord.f
  simp only [ia, ib, ic, id', Option.bind_some]
  exact Ev.bind ie (Ev.bind if' z)
theorem laws_same_l0_ev (a b c d e : Int) (l : List S63) (co : Int) (fa : Bool) (hl : l.length ≤ 1000) (m : Nat) : ∀ i : Nat, i + m = l.length → Ev (fun k => laws_same.l0 k i a b c d e l co fa a b c d e l co fa) true := by
  induction m with
  | zero =>
    intro i hi
    refine ev_succ ?_
    simp only [laws_same.l0]
    exact ev_neg (by omega) (Ev.now _)
  | succ m ih =>
    intro i hi
    refine ev_succ ?_
    simp only [laws_same.l0]
    have ew : wrap64 ((i : Int) + 1) = ((i + 1 : Nat) : Int) := by rw [w64 (by omega) (by omega)]; omega
    rw [ew]
    exact ev_pos (by omega) (ev_pos (by omega) (ev_pos (by omega) (ev_neg (by simp) (ih (i + 1) (by omega)))))
theorem laws_same_refl (a b c d e : Int) (l : List S63) (co : Int) (fa : Bool) (hl : l.length ≤ 1000) : Ev (fun k => laws_same.f k a b c d e l co fa a b c d e l co fa) true := by
  unfold laws_same.f
  refine ev_pos rfl (ev_pos rfl (ev_pos rfl (ev_pos rfl (ev_pos rfl (ev_pos rfl (ev_neg (by simp) (ev_succ ?_)))))))
  simp only [laws_same.j0]
  exact ev_neg (by simp) (laws_same_l0_ev a b c d e l co fa hl l.length 0 (by omega))
theorem FnRecords : ∀ (l0 : List Int), (l0.length ≤ 9223372036854775807) → ∃ k, laws_FnRecords.f k l0 = some true := by
  intro xs hm
  refine ev_ex ?_
  unfold laws_FnRecords.f laws_big.f
  simp only [Option.bind_some]
  refine ev_ite (fun _ => Ev.now _) (fun h => ?_)
  have hx : xs.length ≤ 9223372036854775000 := by rw [decide_eq_true_eq] at h; omega
  obtain ⟨s0, hN⟩ := spec_l01New_ex xs hx
  obtain ⟨r, p1, s1, hA, hrl, hp1⟩ := spec_l04Any_ex xs 0 s0 (by omega) hx
  have hD : Ev (fun k => spec_DrawRecordText.f k xs) (r.f0, r.f1, r.f2, r.f3, r.f4, r.f5, r.f6, r.f7) := Ev.bind hN (Ev.bind hA (Ev.now _))
  have hj : Ev (fun k => laws_FnRecords.j0 k xs false) true := by
    have hT : ∃ t ok, Ev (fun k => spec_RecordText.f k r.f0 r.f1 r.f2 r.f3 r.f4 r.f5 r.f6 r.f7) (t, ok) ∧ t.size ≤ 1000 := by
      by_cases hr : recB r.f0 r.f1 r.f2 r.f3 r.f4 r.f5 r.f6 r.f7 = true
      · refine ⟨_, _, spec_RecordText_yes _ _ _ _ _ _ _ _ (by omega) hr, ?_⟩
        have := recT_len r.f0 r.f1 r.f2 r.f3 r.f4 r.f5 r.f6 r.f7
        rw [Go.strOfNums_size]; omega
      · exact ⟨_, _, spec_RecordText_no _ _ _ _ _ _ _ _ (by omega) hr, Nat.zero_le _⟩
    obtain ⟨t, ok, hT, htz⟩ := hT
    obtain ⟨t', p2, s2, hS, hs2, _⟩ := spec_l02Spoilt_ex xs p1 s1 t hp1 hx (by omega)
    have hDR : Ev (fun k => spec_DrawReadRecord.f k xs) t' := Ev.bind hN (Ev.bind hA (Ev.bind hT (Ev.bind hS (Ev.now _))))
    obtain ⟨R, q1, q2, q3⟩ := readrec_ev t' (by omega)
    obtain ⟨a, b, c, d, e, l, co, fa, ok'⟩ := R
    obtain ⟨q3, q4⟩ := q3
    simp only at q3 q4
    refine ev_succ ?_
    simp only [laws_FnRecords.j0]
    refine ev_neg (by decide) (Ev.bind hDR (Ev.bind q1 (Ev.bind q2 ?_)))
    cases ok' with
    | true =>
      obtain ⟨q5, q6⟩ := q4 rfl
      refine Ev.bind (impl_RecordText_yes a b c d e l co fa (by omega) q5) (ev_pos rfl (ev_pos rfl ?_))
      have : (((strOfNums (recT a b c d e l co fa)).toList == t'.toList) : Bool) = true := by rw [q6]; simp
      simp only [this]
      exact Ev.now _
    | false =>
      by_cases q5 : recB a b c d e l co fa = true
      · exact Ev.bind (impl_RecordText_yes a b c d e l co fa (by omega) q5) (ev_pos rfl (ev_neg (by simp) (Ev.now _)))
      · exact Ev.bind (impl_RecordText_no a b c d e l co fa (by omega) q5) (ev_pos rfl (ev_neg (by simp) (Ev.now _)))
  refine Ev.bind hD ?_
  by_cases hr : recB r.f0 r.f1 r.f2 r.f3 r.f4 r.f5 r.f6 r.f7 = true
  · have k1 := spec_RecordOk_ev r.f0 r.f1 r.f2 r.f3 r.f4 r.f5 r.f6 r.f7 (by omega)
    have k2 := impl_RecordOk_ev r.f0 r.f1 r.f2 r.f3 r.f4 r.f5 r.f6 r.f7 (by omega)
    rw [hr] at k1 k2
    exact Ev.bind (impl_RecordText_yes r.f0 r.f1 r.f2 r.f3 r.f4 r.f5 r.f6 r.f7 (by omega) hr) (Ev.bind (rec_back r.f0 r.f1 r.f2 r.f3 r.f4 r.f5 r.f6 r.f7 hr) (Ev.bind k1 (ev_neg (by simp) (Ev.bind k2 (ev_neg (by simp) (ev_pos rfl (ev_pos rfl (Ev.bind (laws_same_refl r.f0 r.f1 r.f2 r.f3 r.f4 r.f5 r.f6 r.f7 (by omega)) hj))))))))
  · have k1 := spec_RecordOk_ev r.f0 r.f1 r.f2 r.f3 r.f4 r.f5 r.f6 r.f7 (by omega)
    have k2 := impl_RecordOk_ev r.f0 r.f1 r.f2 r.f3 r.f4 r.f5 r.f6 r.f7 (by omega)
    have hr' : recB r.f0 r.f1 r.f2 r.f3 r.f4 r.f5 r.f6 r.f7 = false := by simpa using hr
    rw [hr'] at k1 k2
    obtain ⟨R, q1, _, _⟩ := readrec_ev (⟨#[]⟩ : ByteArray) (by decide)
    exact Ev.bind (impl_RecordText_no r.f0 r.f1 r.f2 r.f3 r.f4 r.f5 r.f6 r.f7 (by omega) hr) (Ev.bind q1 (Ev.bind k1 (ev_neg (by simp) (Ev.bind k2 (ev_neg (by simp) (ev_neg (by decide) hj))))))

end Go.Proofs.Ytnecbkognpponaa.Pure
