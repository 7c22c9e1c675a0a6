import Derived.Test.YtnecbkognpponaaDoorXFnNumbersHqRead
/- Proved: the pure statement of the law FnNumbers, for every input that its statement lets in. -/


set_option linter.unusedVariables false
set_option linter.unusedSimpArgs false
namespace Go.Proofs.YtnecbkognpponaaDoor.Pure
open Go.RowKit Go.Proofs.YtnecbkognpponaaDoor.Q Go.Proofs.YtnecbkognpponaaDoorW.PrintWords Go.Proofs.YtnecbkognpponaaDoorW.PrintLast

theorem w64 {x : Int} (h0 : -9223372036854775808 ≤ x) (h1 : x ≤ 9223372036854775807) : wrap64 x = x := by unfold wrap64; omega
theorem bt_b (s : ByteArray) (i : Int) : 0 ≤ bt s i ∧ bt s i < 256 := by have := bt_range s i; omega
theorem wbt (s : ByteArray) (i : Int) : wrap64 (bt s i) = bt s i := by have := bt_range s i; exact w64 (by omega) (by omega)
theorem tmodp {x m : Int} (h : 0 ≤ x) : Int.tmod x m = x % m := Int.tmod_eq_emod_of_nonneg h
theorem tdivp {x m : Int} (h : 0 ≤ x) : Int.tdiv x m = x / m := Int.tdiv_eq_ediv_of_nonneg h
/-- The bytes of a text, as numbers. -/
def B (s : ByteArray) : List Int := s.data.toList.map fun u => (u.toNat : Int)
def Byt (xs : List Int) : Prop := ∀ x ∈ xs, 0 ≤ x ∧ x < 256
theorem B_len (s : ByteArray) : (B s).length = s.size := by simp [B]
theorem B_byt (s : ByteArray) : Byt (B s) := by
  intro x hx
  obtain ⟨u, _, rfl⟩ := List.mem_map.1 hx
  have := u.toNat_lt
  omega
theorem B_str (xs : List Int) (h : Byt xs) : B (strOfNums xs) = xs := by
  simp only [B, strOfNums, List.map_map]
  conv => rhs; rw [← List.map_id xs]
  apply List.map_congr_left
  intro x hx
  have := h x hx
  simp only [Function.comp, UInt8.toNat_ofNat', id]
  omega
theorem str_B (s : ByteArray) : strOfNums (B s) = s := by
  apply Go.WideShapes.bytes_inj
  simp only [B, strOfNums, List.map_map]
  conv => rhs; rw [← List.map_id s.data.toList]
  apply List.map_congr_left
  intro x hx
  simp [Function.comp]
theorem B_inj {s t : ByteArray} (h : B s = B t) : s = t := by rw [← str_B s, ← str_B t, h]
theorem B_append (s t : ByteArray) : B (s ++ t) = B s ++ B t := by simp [B, ByteArray.data_append]
theorem B_extract (s : ByteArray) (a b : Nat) : B (s.extract a b) = ((B s).take b).drop a := by
  simp only [B, ByteArray.data_extract, Array.toList_extract, List.extract_eq_take_drop]
  rw [← List.map_take, ← List.map_drop, List.drop_take]
theorem B_bt (s : ByteArray) (i : Nat) (h : i < s.size) : (B s)[i]? = some (bt s i) := by
  have h' : i < s.data.toList.length := by rw [Array.length_toList]; exact h
  rw [B, List.getElem?_map, List.getElem?_eq_getElem h']
  simp [bt, h, ByteArray.getElem_eq_getElem_data]
theorem byt_app {xs ys : List Int} (h : Byt xs) (k : Byt ys) : Byt (xs ++ ys) := by
  intro x hx
  rcases List.mem_append.1 hx with hx | hx
  · exact h x hx
  · exact k x hx
theorem ev_ex {α : Type} {g : Nat → Option α} {r : α} (h : Ev g r) : ∃ k, g k = some r := h.rounds

theorem and255 (x : Int) : 0 ≤ Go.bits .and .i64 x 255 ∧ Go.bits .and .i64 x 255 < 256 := by
  have h : ((BitVec.ofInt 64 x) &&& (BitVec.ofInt 64 255)).toNat ≤ 255 := by
    rw [BitVec.toNat_and]
    exact Nat.le_trans Nat.and_le_right (by decide)
  have e : Go.bits .and .i64 x 255 = IntKind.i64.wrap ((((BitVec.ofInt 64 x) &&& (BitVec.ofInt 64 255)).toNat : Nat) : Int) := rfl
  rw [e, IntKind.wrap_i64]
  omega

theorem ev_ite {α : Type} {c : Prop} [Decidable c] {g f : Nat → Option α} {r : α} (h : c → Ev g r) (k : ¬ c → Ev f r) : Ev (fun n => if c then g n else f n) r := by
  by_cases hc : c
  · exact Ev.congr (fun n => by rw [if_pos hc]) (h hc)
  · exact Ev.congr (fun n => by rw [if_neg hc]) (k hc)
theorem ev_pos {α : Type} {c : Prop} [Decidable c] {g f : Nat → Option α} {r : α} (hc : c) (h : Ev g r) : Ev (fun n => if c then g n else f n) r := Ev.congr (fun n => by rw [if_pos hc]) h
theorem ev_neg {α : Type} {c : Prop} [Decidable c] {g f : Nat → Option α} {r : α} (hc : ¬ c) (h : Ev f r) : Ev (fun n => if c then g n else f n) r := Ev.congr (fun n => by rw [if_neg hc]) h
theorem ev_some {α : Type} {x r : α} (h : x = r) : Ev (fun _ => some x) r := by rw [h]; exact Ev.now _
theorem ev_succ {α : Type} {g : Nat → Option α} {r : α} (h : Ev (fun k => g (k + 1)) r) : Ev g r := Ev.step (fun _ => rfl) h
/-- What is drawn: the place in the bytes stays at 0 or more, what comes is in its bounds. -/
theorem spec_l01Byte_ex (xs : List Int) (p s : Int) (hp : 0 ≤ p) (hx : xs.length ≤ 9223372036854775000) : ∃ v p' s', spec_l01Byte.f xs p s = some (v, p', s') ∧ 0 ≤ v ∧ v < 256 ∧ 0 ≤ p' := by
  unfold spec_l01Byte.f
  by_cases h : p < (xs.length : Int)
  · rw [if_pos h, if_pos hp]
    refine ⟨_, _, _, rfl, (and255 _).1, (and255 _).2, ?_⟩
    rw [w64 (by omega) (by omega)]
    omega
  · rw [if_neg h]
    exact ⟨_, _, _, rfl, (and255 _).1, (and255 _).2, hp⟩
theorem spec_l01Below_ex (xs : List Int) (p s n : Int) (hp : 0 ≤ p) (hx : xs.length ≤ 9223372036854775000) (h1 : 1 ≤ n) (h2 : n ≤ 256) : ∃ v p' s', spec_l01Below.f xs p s n = some (v, p', s') ∧ 0 ≤ v ∧ v < n ∧ 0 ≤ p' := by
  obtain ⟨v, p', s', h, h3, h4, h5⟩ := spec_l01Byte_ex xs p s hp hx
  unfold spec_l01Below.f
  rw [if_neg (by omega), if_pos h2, h, Option.bind_some, if_neg (by omega)]
  refine ⟨_, _, _, rfl, ?_, ?_, h5⟩
  · rw [tmodp h3]; exact Int.emod_nonneg _ (by omega)
  · rw [tmodp h3]; exact Int.emod_lt_of_pos _ (by omega)
theorem spec_l01Once_ex (xs : List Int) (p s n : Int) (hp : 0 ≤ p) (hx : xs.length ≤ 9223372036854775000) (h1 : 1 ≤ n) (h2 : n ≤ 256) : ∃ b p' s', spec_l01Once.f xs p s n = some (b, p', s') ∧ 0 ≤ p' := by
  obtain ⟨v, p', s', h, _, _, h5⟩ := spec_l01Below_ex xs p s n hp hx h1 h2
  unfold spec_l01Once.f
  rw [h, Option.bind_some]
  exact ⟨_, _, _, rfl, h5⟩
theorem spec_l01PickInt_ex (xs : List Int) (p s : Int) (l : List Int) (hp : 0 ≤ p) (hx : xs.length ≤ 9223372036854775000) (h1 : 1 ≤ l.length) (h2 : l.length ≤ 256) : ∃ v p' s', spec_l01PickInt.f xs p s l = some (v, p', s') ∧ 0 ≤ p' := by
  obtain ⟨v, p', s', h, h3, h4, h5⟩ := spec_l01Below_ex xs p s l.length hp hx (by omega) (by omega)
  unfold spec_l01PickInt.f
  rw [h, Option.bind_some, if_pos h3, if_pos h4]
  exact ⟨_, _, _, rfl, h5⟩
theorem spec_l01New_l0_ex (xs : List Int) (hx : xs.length ≤ 9223372036854775000) (d : Nat) : ∀ (i : Nat) (s : Int), i + d = xs.length → ∃ s', Ev (fun k => spec_l01New.l0 k xs s i) (xs, 0, s') := by
  induction d with
  | zero =>
    intro i s hi
    refine ⟨s, ev_succ ?_⟩
    simp only [spec_l01New.l0]
    exact ev_neg (by omega) (Ev.now _)
  | succ d ih =>
    intro i s hi
    obtain ⟨s', h⟩ := ih (i + 1) _ (by omega)
    by_cases h4 : (i : Int) < 4000
    · refine ⟨s', ev_succ ?_⟩
      simp only [spec_l01New.l0]
      rw [w64 (x := (i : Int) + 1) (by omega) (by omega)]
      exact ev_pos (by omega) (ev_pos h4 (ev_pos (by omega) h))
    · refine ⟨s, ev_succ ?_⟩
      simp only [spec_l01New.l0]
      exact ev_pos (by omega) (ev_neg h4 (Ev.now _))
theorem spec_l01New_ex (xs : List Int) (hx : xs.length ≤ 9223372036854775000) : ∃ s', Ev (fun k => spec_l01New.f k xs) (xs, 0, s') := spec_l01New_l0_ex xs hx xs.length 0 _ (by omega)

/-- A number below any n above 0, drawn. -/
theorem spec_l01Below_any (xs : List Int) (p s n : Int) (hp : 0 ≤ p) (hx : xs.length ≤ 9223372036854775000) (h1 : 1 ≤ n) (h2 : n ≤ 4294967296) : ∃ v p' s', spec_l01Below.f xs p s n = some (v, p', s') ∧ 0 ≤ v ∧ v < n ∧ 0 ≤ p' := by
  by_cases hn : n ≤ 256
  · exact spec_l01Below_ex xs p s n hp hx h1 hn
  · obtain ⟨v1, p1, s1, e1, a1, b1, c1⟩ := spec_l01Byte_ex xs p s hp hx
    obtain ⟨v2, p2, s2, e2, a2, b2, c2⟩ := spec_l01Byte_ex xs p1 s1 c1 hx
    obtain ⟨v3, p3, s3, e3, a3, b3, c3⟩ := spec_l01Byte_ex xs p2 s2 c2 hx
    obtain ⟨v4, p4, s4, e4, a4, b4, c4⟩ := spec_l01Byte_ex xs p3 s3 c3 hx
    unfold spec_l01Below.f
    rw [if_neg (by omega), if_neg hn, e1]
    simp only [Option.bind_some]
    rw [e2]
    simp only [Option.bind_some]
    rw [e3]
    simp only [Option.bind_some]
    rw [e4]
    simp only [Option.bind_some]
    rw [if_neg (by omega)]
    have w1 : wrap64 (v1 * 16777216) = v1 * 16777216 := w64 (by omega) (by omega)
    have w2 : wrap64 (v2 * 65536) = v2 * 65536 := w64 (by omega) (by omega)
    have w3 : wrap64 (v3 * 256) = v3 * 256 := w64 (by omega) (by omega)
    rw [w1, w2, w3, w64 (x := v1 * 16777216 + v2 * 65536) (by omega) (by omega), w64 (x := v1 * 16777216 + v2 * 65536 + v3 * 256) (by omega) (by omega), w64 (x := v1 * 16777216 + v2 * 65536 + v3 * 256 + v4) (by omega) (by omega)]
    refine ⟨_, _, _, rfl, ?_, ?_, c4⟩
    · rw [tmodp (by omega)]; exact Int.emod_nonneg _ (by omega)
    · rw [tmodp (by omega)]; exact Int.emod_lt_of_pos _ (by omega)
theorem spec_l01Text_l0_ex (xs : List Int) (hx : xs.length ≤ 9223372036854775000) (n : Int) (hn : n ≤ 5000) (d : Nat) : ∀ (i : Nat) (acc : List Int) (p s : Int), (i : Int) + d = n ∨ (d = 0 ∧ n ≤ i) → i ≤ 5000 → acc.length = i → Byt acc → 0 ≤ p →
    ∃ t p' s', Ev (fun k => spec_l01Text.l0 k n acc i xs p s) (t, p', s') ∧ t.size ≤ i + d ∧ 0 ≤ p' := by
  induction d with
  | zero =>
    intro i acc p s hi hl ha hb hp
    refine ⟨strOfNums acc, p, s, ev_succ ?_, ?_, hp⟩
    · simp only [spec_l01Text.l0]
      exact ev_neg (by omega) (Ev.now _)
    · rw [Go.strOfNums_size]; omega
  | succ d ih =>
    intro i acc p s hi hl ha hb hp
    obtain ⟨v, p1, s1, e, a, b, c⟩ := spec_l01Byte_ex xs p s hp hx
    have ev : v % 256 = v := by omega
    obtain ⟨t, p', s', h, ht, hp'⟩ := ih (i + 1) (acc ++ [v]) p1 s1 (by omega) (by omega) (by simp; omega) (byt_app hb (by intro x hx; simp only [List.mem_singleton] at hx; omega)) c
    refine ⟨t, p', s', ev_succ ?_, by omega, hp'⟩
    simp only [spec_l01Text.l0]
    rw [e, w64 (x := (i : Int) + 1) (by omega) (by omega)]
    simp only [Option.bind_some, ev]
    exact ev_pos (by omega) (ev_pos (by omega) h)
theorem spec_l01Text_ex (xs : List Int) (p s n : Int) (hp : 0 ≤ p) (hx : xs.length ≤ 9223372036854775000) : ∃ t p' s', Ev (fun k => spec_l01Text.f k xs p s n) (t, p', s') ∧ t.size ≤ 5000 ∧ 0 ≤ p' := by
  have hj : ∀ m : Int, m ≤ 5000 → ∃ t p' s', Ev (fun k => spec_l01Text.j0 k m xs p s) (t, p', s') ∧ t.size ≤ 5000 ∧ 0 ≤ p' := by
    intro m hm
    obtain ⟨t, p', s', h, ht, hp'⟩ := spec_l01Text_l0_ex xs hx m hm m.toNat 0 [] p s (by omega) (by omega) rfl (by intro x hx; cases hx) hp
    refine ⟨t, p', s', ev_succ ?_, by omega, hp'⟩
    simp only [spec_l01Text.j0]
    exact h
  unfold spec_l01Text.f
  by_cases h : n > 5000
  · obtain ⟨t, p', s', h1, h2, h3⟩ := hj 5000 (by omega)
    exact ⟨t, p', s', ev_pos h h1, h2, h3⟩
  · obtain ⟨t, p', s', h1, h2, h3⟩ := hj n (by omega)
    exact ⟨t, p', s', ev_neg h h1, h2, h3⟩
theorem spec_l01Long_l0_ex (n c : Int) (hn : n ≤ 100000) (d : Nat) : ∀ (i : Nat) (acc : List Int), (i : Int) + d = n → (acc.length : Int) = n → ∃ t, Ev (fun k => spec_l01Long.l0 k n c acc i) t := by
  induction d with
  | zero =>
    intro i acc hi ha
    refine ⟨strOfNums acc, ev_succ ?_⟩
    simp only [spec_l01Long.l0]
    exact ev_neg (by omega) (Ev.now _)
  | succ d ih =>
    intro i acc hi ha
    obtain ⟨t, h⟩ := ih (i + 1) (acc.set i c) (by omega) (by rw [List.length_set]; exact ha)
    refine ⟨t, ev_succ ?_⟩
    simp only [spec_l01Long.l0]
    rw [w64 (x := (i : Int) + 1) (by omega) (by omega), Int.toNat_natCast]
    exact ev_pos (by omega) (ev_pos (by omega) (ev_pos (by omega) h))
theorem spec_l01Long_ex (n c : Int) (h0 : 0 ≤ n) (hn : n ≤ 100000) : ∃ t, Ev (fun k => spec_l01Long.f k n c) t := by
  obtain ⟨t, h⟩ := spec_l01Long_l0_ex n c hn n.toNat 0 (List.replicate n.toNat 0) (by omega) (by simp; omega)
  refine ⟨t, ?_⟩
  unfold spec_l01Long.f
  exact ev_pos h0 (ev_pos (by omega) h)

/-- A number in bytes, of seven bits each. -/
def varL : Nat → Int → List Int
  | 0, n => [n % 256]
  | d + 1, n => if n > 127 then (n % 128 + 128) :: varL d (n / 128) else [n % 256]
theorem varL_byt (d : Nat) : ∀ n, Byt (varL d n) := by
  induction d with
  | zero => intro n x hx; rw [varL, List.mem_singleton] at hx; omega
  | succ d ih =>
    intro n x hx
    rw [varL] at hx
    split at hx
    · rcases List.mem_cons.1 hx with rfl | hx
      · omega
      · exact ih _ x hx
    · rw [List.mem_singleton] at hx; omega
theorem varL_len (d : Nat) : ∀ n, 0 < (varL d n).length ∧ (varL d n).length ≤ d + 1 := by
  induction d with
  | zero => intro n; simp [varL]
  | succ d ih =>
    intro n
    rw [varL]
    split
    · have := ih (n / 128); simp only [List.length_cons]; omega
    · simp
def varN (n : Int) : List Int := varL 9 n
theorem varN_byt (n : Int) : Byt (varN n) := varL_byt 9 n
theorem varN_len (n : Int) : 0 < (varN n).length ∧ (varN n).length ≤ 10 := varL_len 9 n

theorem B_drop (s : ByteArray) (i : Nat) (h : i < s.size) : (B s).drop i = bt s i :: (B s).drop (i + 1) := by
  have hl : i < (B s).length := by rw [B_len]; exact h
  rw [List.drop_eq_getElem_cons hl]
  have h1 := B_bt s i h
  rw [List.getElem?_eq_getElem hl] at h1
  rw [Option.some.inj h1]
theorem B_dropAll (s : ByteArray) (i : Nat) (h : s.size ≤ i) : (B s).drop i = [] := List.drop_eq_nil_of_le (by rw [B_len]; exact h)
def valL : List Int → Int
  | [] => 0
  | b :: bs => b % 128 + 128 * valL bs
theorem valL_bd (bs : List Int) : 0 ≤ valL bs ∧ valL bs < 128 ^ bs.length := by
  induction bs with
  | nil => simp [valL]
  | cons b bs ih =>
    simp only [valL, List.length_cons, Int.pow_succ]
    omega
theorem valL_snoc (bs : List Int) (b : Int) : valL (bs ++ [b]) = valL bs + b % 128 * 128 ^ bs.length := by
  induction bs with
  | nil => simp [valL]
  | cons c bs ih =>
    simp only [List.cons_append, valL, ih, List.length_cons, Int.pow_succ]
    generalize (128 : Int) ^ bs.length = p
    generalize b % 128 = q
    have e : q * (p * 128) = 128 * (q * p) := by rw [← Int.mul_assoc, Int.mul_comm]
    omega
theorem pw_bd (j : Nat) (h : j ≤ 5) : 1 ≤ (128 : Int) ^ j ∧ (128 : Int) ^ j ≤ 34359738368 := by
  have h' : ∀ n : Fin 6, 1 ≤ (128 : Int) ^ n.val ∧ (128 : Int) ^ n.val ≤ 34359738368 := by decide
  exact h' ⟨j, by omega⟩
/-- Reading a number: what is read is n, the place i. -/
def rvM (a : Nat) : Nat → List Int → Int → Int → Nat → Int × Int × Bool
  | 0, _, _, _, _ => (0, 0, false)
  | _ + 1, [], _, _, _ => (0, 0, false)
  | f + 1, b :: bs, n, u, i => if b < 128 then (if (b = 0 ∧ a < i) ∨ n + b % 128 * u > 1000000000 then (0, 0, false) else (n + b % 128 * u, (i : Int) + 1, true)) else rvM a f bs (n + b % 128 * u) (u * 128) (i + 1)
def rvB (s : ByteArray) (a : Nat) : Int × Int × Bool := rvM a 5 ((B s).drop a) 0 1 a
/-- What was read till place i. -/
def preB (s : ByteArray) (a i : Nat) : List Int := ((B s).take i).drop a
theorem preB_nil (s : ByteArray) (a : Nat) : preB s a a = [] := List.drop_eq_nil_of_le (by rw [List.length_take]; omega)
theorem preB_len (s : ByteArray) (a i : Nat) (hi : i ≤ s.size) : (preB s a i).length = i - a := by
  simp only [preB, List.length_drop, List.length_take, B_len]; omega
theorem preB_snoc (s : ByteArray) (a i : Nat) (ha : a ≤ i) (hi : i < s.size) : preB s a (i + 1) = preB s a i ++ [bt s i] := by
  have hl : i < (B s).length := by rw [B_len]; exact hi
  have h1 := B_bt s i hi
  rw [List.getElem?_eq_getElem hl] at h1
  unfold preB
  rw [List.take_succ_eq_append_getElem hl, List.drop_append_of_le_length (by rw [List.length_take]; omega), Option.some.inj h1]

/-- A number's bytes, read: the number, and the place behind them. -/
theorem rvM_var (a : Nat) (rest : List Int) : ∀ (f d : Nat) (n acc u : Int) (i : Nat), 1 ≤ f → f ≤ d + 1 → 0 ≤ n → n < 128 ^ f → (i = a ∨ 0 < n) → 0 ≤ acc → 1 ≤ u → acc + n * u ≤ 1000000000 →
    rvM a f (varL d n ++ rest) acc u i = (acc + n * u, (i : Int) + (varL d n).length, true)
  | 0, _, _, _, _, _, h, _, _, _, _, _, _, _ => absurd h (by omega)
  | f + 1, d, n, acc, u, i, _, hfd, h0, hlt, hi, ha, hu, hs => by
    by_cases hn : n > 127
    · cases d with
      | zero =>
        exfalso
        have : f = 0 := by omega
        subst this
        simp at hlt; omega
      | succ d =>
        have hp : (128 : Int) ^ (f + 1) = 128 ^ f * 128 := Int.pow_succ _ _
        have hf1 : 1 ≤ f := by
          rcases Nat.eq_zero_or_pos f with e | e
          · subst e; simp at hlt; omega
          · exact e
        simp only [varL]
        rw [if_pos hn, List.cons_append, rvM, if_neg (by omega)]
        have e1 : (n % 128 + 128) % 128 = n % 128 := by omega
        have e2 : acc + n % 128 * u + n / 128 * (u * 128) = acc + n * u := by
          have h3 : n = n % 128 + n / 128 * 128 := by omega
          have h4 : n / 128 * (u * 128) = n / 128 * 128 * u := by rw [Int.mul_assoc, Int.mul_comm 128 u]
          have h5 : n * u = (n % 128 + n / 128 * 128) * u := by rw [← h3]
          rw [h4, h5, Int.add_mul]; omega
        have hq : 0 ≤ n % 128 * u := Int.mul_nonneg (by omega) (by omega)
        rw [e1, rvM_var a rest f d (n / 128) (acc + n % 128 * u) (u * 128) (i + 1) hf1 (by omega) (by omega) (by omega) (Or.inr (by omega)) (by omega) (by omega) (by rw [e2]; exact hs), e2]
        simp only [List.length_cons]
        congr 2; omega
    · have hv : varL d n = [n] := by
        cases d with
        | zero => simp only [varL]; congr 1; omega
        | succ d => simp only [varL]; rw [if_neg hn]; congr 1; omega
      have e1 : n % 128 = n := by omega
      rw [hv, List.cons_append, List.nil_append, rvM, if_pos (by omega), e1, if_neg (by omega)]
      rfl
theorem rvB_var (s : ByteArray) (a : Nat) (n : Int) (rest : List Int) (h0 : 0 ≤ n) (h1 : n ≤ 1000000000) (h : (B s).drop a = varN n ++ rest) : rvB s a = (n, (a : Int) + (varN n).length, true) := by
  unfold rvB
  have e : (128 : Int) ^ 5 = 34359738368 := by decide
  rw [h, varN, rvM_var a rest 5 9 n 0 1 a (by omega) (by omega) h0 (by omega) (Or.inl rfl) (by omega) (by omega) (by omega)]
  congr 1; omega

def figN (x : Int) : Int := if x < 10 then 48 + x else 87 + x
def hexL : List Int → List Int
  | [] => []
  | b :: bs => figN (b / 16) :: figN (b % 16) :: hexL bs
theorem hexL_len (bs : List Int) : (hexL bs).length = 2 * bs.length := by
  induction bs with
  | nil => rfl
  | cons b bs ih => simp only [hexL, List.length_cons, ih]; omega

def valH (c : Int) : Int := if 48 ≤ c ∧ c ≤ 57 then c - 48 else if 97 ≤ c ∧ c ≤ 102 then c - 87 else -1
theorem idx_val : ∀ n : Nat, n < 256 → Lib.indexByte (⟨#[48, 49, 50, 51, 52, 53, 54, 55, 56, 57, 97, 98, 99, 100, 101, 102]⟩ : ByteArray).data.toList n.toUInt8 = valH n := by decide +kernel
theorem strings_IndexByte_eq (s : ByteArray) (i : Int) : strings_IndexByte.f (⟨#[48, 49, 50, 51, 52, 53, 54, 55, 56, 57, 97, 98, 99, 100, 101, 102]⟩ : ByteArray) (bt s i) = some (valH (bt s i)) := by
  have h := bt_b s i
  unfold strings_IndexByte.f
  rw [idx_val (bt s i).toNat (by omega), Int.toNat_of_nonneg h.1]

theorem hexL_get (bs : List Int) (hb : Byt bs) : ∀ (j : Nat), j < bs.length → (hexL bs)[2 * j]? = some (figN ((bs.getD j 0) / 16)) ∧ (hexL bs)[2 * j + 1]? = some (figN ((bs.getD j 0) % 16)) := by
  induction bs with
  | nil => intro j h; simp at h
  | cons b bs ih =>
    intro j h
    cases j with
    | zero => simp [hexL]
    | succ j =>
      have := ih (fun x hx => hb x (List.mem_cons_of_mem _ hx)) j (by simpa using h)
      simp only [hexL]
      rw [show 2 * (j + 1) = 2 * j + 1 + 1 by omega, show 2 * j + 1 + 1 + 1 = (2 * j + 1) + 1 + 1 by omega]
      simpa using this
theorem valH_fig (x : Int) (h0 : 0 ≤ x) (h1 : x < 16) : valH (figN x) = x := by
  unfold valH figN
  by_cases h : x < 10
  · rw [if_pos h, if_pos (by omega)]; omega
  · rw [if_neg h, if_neg (by omega), if_pos (by omega)]; omega
theorem hexL_byt (bs : List Int) (hb : Byt bs) : Byt (hexL bs) := by
  induction bs with
  | nil => intro x hx; cases hx
  | cons b bs ih =>
    intro x hx
    have hb' := hb b List.mem_cons_self
    simp only [hexL, List.mem_cons] at hx
    have hf : ∀ y : Int, 0 ≤ y → y < 16 → 0 ≤ figN y ∧ figN y < 256 := by
      intro y h0 h1; unfold figN; split <;> omega
    rcases hx with rfl | rfl | hx
    · exact hf _ (by omega) (by omega)
    · exact hf _ (by omega) (by omega)
    · exact ih (fun x hx => hb x (List.mem_cons_of_mem _ hx)) x hx
/-- The figures of a text, read. -/
theorem unhex_back_l0 (t : ByteArray) (ht : t.size ≤ 20000) (d : Nat) : ∀ (i : Nat), i + d = t.size → Ev (fun k => impl_Unhex.l0 k (strOfNums (hexL (B t))) ((B t).take i) ((2 * i : Nat) : Int)) (strOfNums (B t), true) := by
  have hsz : (strOfNums (hexL (B t))).size = 2 * t.size := by rw [Go.strOfNums_size, hexL_len, B_len]
  have hB : B (strOfNums (hexL (B t))) = hexL (B t) := B_str _ (hexL_byt _ (B_byt t))
  induction d with
  | zero =>
    intro i hi
    apply ev_succ
    simp only [impl_Unhex.l0]
    rw [List.take_of_length_le (by rw [B_len]; omega)]
    exact ev_neg (by omega) (Ev.now _)
  | succ d ih =>
    intro i hi
    have hl : i < (B t).length := by rw [B_len]; omega
    have hb := B_byt t _ (List.getElem_mem hl)
    have hg := hexL_get (B t) (B_byt t) i hl
    have hgd : (B t).getD i 0 = (B t)[i] := by simp [List.getD, hl]
    rw [hgd] at hg
    have h1 : bt (strOfNums (hexL (B t))) ((2 * i : Nat) : Int) = figN ((B t)[i] / 16) := by
      have := B_bt (strOfNums (hexL (B t))) (2 * i) (by rw [hsz]; omega)
      rw [hB, hg.1] at this
      exact (Option.some.inj this).symm
    have h2 : bt (strOfNums (hexL (B t))) (((2 * i : Nat) : Int) + 1) = figN ((B t)[i] % 16) := by
      have := B_bt (strOfNums (hexL (B t))) (2 * i + 1) (by rw [hsz]; omega)
      rw [hB, hg.2] at this
      have e : (((2 * i + 1 : Nat)) : Int) = ((2 * i : Nat) : Int) + 1 := by omega
      rw [e] at this
      exact (Option.some.inj this).symm
    have v1 := valH_fig ((B t)[i] / 16) (by omega) (by omega)
    have v2 := valH_fig ((B t)[i] % 16) (by omega) (by omega)
    apply ev_succ
    simp only [impl_Unhex.l0]
    rw [w64 (x := ((2 * i : Nat) : Int) + 1) (by omega) (by omega), w64 (x := ((2 * i : Nat) : Int) + 2) (by omega) (by omega), strings_IndexByte_eq, strings_IndexByte_eq, h1, h2, v1, v2]
    simp only [Option.bind_some]
    have e : (wrap64 (wrap64 (16 * ((B t)[i] / 16)) + (B t)[i] % 16)) % 256 = (B t)[i] := by
      rw [w64 (x := 16 * ((B t)[i] / 16)) (by omega) (by omega), w64 (by omega) (by omega)]; omega
    rw [e]
    have ih' := ih (i + 1) (by omega)
    rw [List.take_succ_eq_append_getElem hl] at ih'
    have e2 : ((2 * (i + 1) : Nat) : Int) = ((2 * i : Nat) : Int) + 2 := by omega
    rw [e2] at ih'
    exact ev_pos (by omega) (ev_pos (by omega) (ev_pos (by omega) (ev_pos (by omega) (ev_neg (by omega) (ev_neg (by omega) (ev_pos (by rw [List.length_take, B_len]; omega) ih'))))))
theorem unhex_back (t : ByteArray) (ht : t.size ≤ 20000) : Ev (fun k => impl_Unhex.f k (strOfNums (hexL (B t)))) (t, true) := by
  have hsz : (strOfNums (hexL (B t))).size = 2 * t.size := by rw [Go.strOfNums_size, hexL_len, B_len]
  have h := unhex_back_l0 t ht t.size 0 (by omega)
  rw [str_B] at h
  unfold impl_Unhex.f
  refine ev_pos (by omega) (ev_succ ?_)
  simp only [impl_Unhex.j0]
  rw [decide_eq_false (by omega)]
  exact ev_neg (by decide) h

theorem impl_in_eq (a b c : Int) : impl_in.f a b c = some (decide (b ≤ a ∧ a ≤ c)) := by
  unfold impl_in.f
  by_cases h : a ≥ b
  · rw [if_pos h]; congr 1; simp; omega
  · rw [if_neg h]; congr 1; simp; omega

theorem impl_VarText_l0_ev (d : Nat) : ∀ (n : Int) (acc : List Int), 0 ≤ n → n ≤ 9223372036854775807 → n < 128 ^ (d + 1) → acc.length + d < 1000 →
    Ev (fun k => impl_VarText.l0 k n acc) (strOfNums (acc ++ varL d n), true) := by
  induction d with
  | zero =>
    intro n acc h0 hm h1 hl
    refine Ev.step (f := fun _ => some (strOfNums (acc ++ varL 0 n), true)) (fun k => ?_) (Ev.now _)
    simp only [impl_VarText.l0, varL]
    rw [if_neg (by omega), if_pos (by omega)]
  | succ d ih =>
    intro n acc h0 hm h1 hl
    by_cases hn : n > 127
    · have hi := ih (n / 128) (acc ++ [n % 128 + 128]) (by omega) (by omega) (by rw [Int.pow_succ] at h1; omega) (by simp only [List.length_append, List.length_cons, List.length_nil]; omega)
      rw [List.append_assoc, List.singleton_append] at hi
      rw [varL, if_pos hn]
      refine Ev.step (fun k => ?_) hi
      simp only [impl_VarText.l0]
      rw [if_pos hn, if_pos (by omega), tdivp h0, tmodp h0, w64 (by omega) (by omega), w64 (by omega) (by omega), show (n % 128 + 128) % 256 = n % 128 + 128 by omega]
    · rw [varL, if_neg hn]
      refine Ev.step (f := fun _ => some (strOfNums (acc ++ [n % 256]), true)) (fun k => ?_) (Ev.now _)
      simp only [impl_VarText.l0]
      rw [if_neg hn, if_pos (by omega)]
theorem impl_VarText_yes (n : Int) (h0 : 0 ≤ n) (h1 : n ≤ 1000000000) : Ev (fun k => impl_VarText.f k n) (strOfNums (varN n), true) := by
  refine Ev.congr (fun k => ?_) (impl_VarText_l0_ev 9 n [] h0 (by omega) (by omega) (by simp))
  simp only [impl_VarText.f, impl_in_eq, Option.bind_some]
  rw [if_pos (by simp; omega)]
theorem impl_ReadVar_l0_ev (s : ByteArray) (hs : s.size ≤ 9223372036854775000) (a : Nat) (f : Nat) : ∀ i : Nat, a ≤ i → i - a + f = 5 → i ≤ s.size →
    Ev (fun k => impl_ReadVar.l0 k s a (valL (preB s a i)) (128 ^ (i - a)) i) (rvM a f ((B s).drop i) (valL (preB s a i)) (128 ^ (i - a)) i) := by
  have fail : ∀ (i : Nat) (n u : Int), Ev (fun k => impl_ReadVar.j1 k s a n u i false) (0, 0, false) := by
    intro i n u
    refine Ev.step (f := fun _ => some (0, 0, false)) (fun k => ?_) (Ev.now _)
    simp only [impl_ReadVar.j1]
    rfl
  induction f with
  | zero =>
    intro i ha hf hi
    rw [rvM]
    refine Ev.step (fun k => ?_) (fail i (valL (preB s a i)) (128 ^ (i - a)))
    simp only [impl_ReadVar.l0]
    by_cases hlt : (i : Int) < s.size
    · rw [if_pos hlt, w64 (by omega) (by omega), decide_eq_false (by omega)]
    · rw [if_neg hlt]
  | succ f ih =>
    intro i ha hf hi
    by_cases hlt : i < s.size
    · have hsn := preB_snoc s a i ha hlt
      have hv := valL_snoc (preB s a i) (bt s i)
      have hlen := preB_len s a i hi
      rw [hlen, ← hsn] at hv
      have hb0 := valL_bd (preB s a i)
      have hb1 := valL_bd (preB s a (i + 1))
      have hl1 := preB_len s a (i + 1) hlt
      have hp0 := pw_bd (i - a) (by omega)
      have hp1 := pw_bd (i + 1 - a) (by omega)
      rw [hlen] at hb0
      rw [hl1] at hb1
      have hbt := bt_b s i
      have hpw : (128 : Int) ^ (i - a) * 128 = 128 ^ (i + 1 - a) := by rw [show i + 1 - a = (i - a) + 1 by omega, Int.pow_succ]
      have ih' := ih (i + 1) (by omega) (by omega) (by omega)
      rw [B_drop s i hlt, rvM]
      have hprod0 : 0 ≤ bt s i % 128 * 128 ^ (i - a) := Int.mul_nonneg (by omega) (by omega)
      have hw1 : wrap64 (bt s i % 128 * 128 ^ (i - a)) = bt s i % 128 * 128 ^ (i - a) := w64 (by omega) (by omega)
      have hw2 : wrap64 (valL (preB s a i) + bt s i % 128 * 128 ^ (i - a)) = valL (preB s a (i + 1)) := by rw [← hv]; exact w64 (by omega) (by omega)
      have hstep : ∀ r, Ev (fun k => impl_ReadVar.j1 k s a (valL (preB s a i)) (128 ^ (i - a)) i true) r → Ev (fun k => impl_ReadVar.l0 k s a (valL (preB s a i)) (128 ^ (i - a)) i) r := by
        intro r h
        refine Ev.step (fun k => ?_) h
        simp only [impl_ReadVar.l0]
        rw [if_pos (by omega), w64 (by omega) (by omega), decide_eq_true (by omega)]
      apply hstep
      rw [← hv]
      by_cases hsm : bt s i < 128
      · rw [if_pos hsm]
        refine Ev.step (f := fun _ => some (if bt s i = 0 ∧ a < i ∨ valL (preB s a (i + 1)) > 1000000000 then (0, 0, false) else (valL (preB s a (i + 1)), (i : Int) + 1, true))) (fun k => ?_) (Ev.now _)
        simp only [impl_ReadVar.j1]
        rw [if_pos trivial, if_pos (by omega), if_pos (by omega), wbt, if_pos hsm, tmodp hbt.1, hw1, hw2, w64 (x := (i : Int) + 1) (by omega) (by omega)]
        by_cases hz : bt s i = 0
        · rw [if_pos hz]
          by_cases hai : a < i
          · rw [if_pos (by omega), if_pos (.inl ⟨hz, hai⟩)]
          · rw [if_neg (by omega)]
            by_cases hmx : valL (preB s a (i + 1)) > 1000000000
            · rw [if_pos hmx, if_pos (.inr hmx)]
            · rw [if_neg hmx, if_neg (by omega)]
        · rw [if_neg hz]
          by_cases hmx : valL (preB s a (i + 1)) > 1000000000
          · rw [if_pos hmx, if_pos (.inr hmx)]
          · rw [if_neg hmx, if_neg (by omega)]
      · rw [if_neg hsm, hpw]
        refine Ev.step (fun k => ?_) ih'
        simp only [impl_ReadVar.j1]
        rw [if_pos trivial, if_pos (by omega), if_pos (by omega), wbt, if_neg hsm, tmodp hbt.1, hw1, hw2, hpw, w64 (x := 128 ^ (i + 1 - a)) (by omega) (by omega), w64 (x := (i : Int) + 1) (by omega) (by omega)]
        rfl
    · rw [B_dropAll s i (by omega), rvM]
      refine Ev.step (fun k => ?_) (fail i (valL (preB s a i)) (128 ^ (i - a)))
      simp only [impl_ReadVar.l0]
      rw [if_neg (by omega)]
theorem impl_ReadVar_yes (s : ByteArray) (hs : s.size ≤ 9223372036854775000) (a : Nat) (ha : a ≤ s.size) : Ev (fun k => impl_ReadVar.f k s a) (rvB s a) := by
  have h := impl_ReadVar_l0_ev s hs a 5 a (Nat.le_refl _) (by omega) ha
  rw [preB_nil, Nat.sub_self] at h
  refine Ev.congr (fun k => ?_) h
  simp only [impl_ReadVar.f, impl_in_eq, Option.bind_some]
  rw [if_pos (by simp; omega)]
  rfl
theorem impl_ShortText_yes (s : ByteArray) (hs : s.size ≤ 20000) : Ev (fun k => impl_ShortText.f k s) (strOfNums (varN s.size) ++ s, true) := by
  unfold impl_ShortText.f
  refine ev_neg (by omega) ?_
  refine Ev.bind (impl_VarText_yes _ (by omega) (by omega)) (ev_pos ?_ (Ev.now _))
  have := varN_len s.size
  rw [Go.strOfNums_size]
  omega
theorem rvM_ok (a : Nat) (f : Nat) : ∀ (L : List Int) (n u : Int) (i : Nat) (m j : Int), 0 ≤ n → 0 ≤ u → rvM a f L n u i = (m, j, true) → 0 ≤ m ∧ m ≤ 1000000000 ∧ (i : Int) < j ∧ j ≤ i + L.length := by
  induction f with
  | zero => intro L n u i m j _ _ h; simp [rvM] at h
  | succ f ih =>
    intro L n u i m j hn hu h
    cases L with
    | nil => simp [rvM] at h
    | cons b bs =>
      have hp : 0 ≤ b % 128 * u := Int.mul_nonneg (by omega) hu
      rw [rvM] at h
      by_cases hb : b < 128
      · rw [if_pos hb] at h
        split at h
        · simp at h
        · rename_i hc
          simp only [Prod.mk.injEq, and_true] at h
          simp only [List.length_cons]
          omega
      · rw [if_neg hb] at h
        have := ih bs (n + b % 128 * u) (u * 128) (i + 1) m j (by omega) (by omega) h
        simp only [List.length_cons]
        omega
theorem rvB_ok (s : ByteArray) (a : Nat) (ha : a ≤ s.size) {m j : Int} (h : rvB s a = (m, j, true)) : 0 ≤ m ∧ m ≤ 1000000000 ∧ (a : Int) < j ∧ j ≤ s.size := by
  have := rvM_ok a 5 _ 0 1 a m j (by omega) (by omega) h
  rw [List.length_drop, B_len] at this
  omega

/-- A text with its length, read. -/
def shortB (s : ByteArray) (v : Int × Int × Bool) : ByteArray × Int × Bool :=
  if v.2.2 = true then (if v.1 > 20000 then (⟨#[]⟩, 0, false) else if v.1 > (s.size : Int) - v.2.1 then (⟨#[]⟩, 0, false) else (s.extract v.2.1.toNat (v.2.1 + v.1).toNat, v.2.1 + v.1, true)) else (⟨#[]⟩, 0, false)

theorem impl_ReadShort_yes (s : ByteArray) (hs : s.size ≤ 9223372036854775000) (a : Nat) (ha : a ≤ s.size) : Ev (fun k => impl_ReadShort.f k s a) (shortB s (rvB s a)) := by
  unfold impl_ReadShort.f
  refine Ev.bind (impl_ReadVar_yes s hs a ha) ?_
  generalize hv : rvB s a = v
  obtain ⟨m, j, o⟩ := v
  cases o with
  | false => exact ev_neg (by simp) (Ev.now _)
  | true =>
    have hb := rvB_ok s a ha hv
    simp only [shortB]
    refine ev_pos trivial ?_
    rw [if_pos trivial, w64 (x := (s.size : Int) - j) (by omega) (by omega)]
    refine ev_ite (fun h1 => ev_some (by rw [if_pos h1])) (fun h1 => ?_)
    rw [if_neg h1]
    refine ev_ite (fun h2 => ev_some (by rw [if_pos h2])) (fun h2 => ?_)
    rw [if_neg h2, w64 (by omega) (by omega)]
    exact ev_pos (by omega) (ev_pos (by omega) (ev_pos (by omega) (Ev.now _)))
def figs : ByteArray := ⟨#[48, 49, 50, 51, 52, 53, 54, 55, 56, 57, 97, 98, 99, 100, 101, 102]⟩
theorem figs_bt (x : Int) (h0 : 0 ≤ x) (h1 : x < 16) : bt figs x = figN x := by
  have h : ∀ n : Fin 16, bt figs (n.val : Int) = figN (n.val : Int) := by decide
  have := h ⟨x.toNat, by omega⟩
  simp only at this
  rwa [Int.toNat_of_nonneg h0] at this

theorem impl_Hex_l0_ev (s : ByteArray) (hs : s.size ≤ 20000) (d : Nat) : ∀ (i : Nat) (acc : List Int), i + d = s.size → acc.length ≤ 2 * i →
    Ev (fun k => impl_Hex.l0 k s acc (s.size : Int) (i : Int)) (strOfNums (acc ++ hexL ((B s).drop i)), true) := by
  induction d with
  | zero =>
    intro i acc hi ha
    rw [B_dropAll s i (by omega), hexL, List.append_nil]
    refine Ev.step (f := fun _ => some (strOfNums acc, true)) (fun k => ?_) (Ev.now _)
    simp only [impl_Hex.l0]
    rw [if_neg (by omega)]
  | succ d ih =>
    intro i acc hi ha
    have hlt : i < s.size := by omega
    have hb := bt_b s i
    rw [B_drop s i hlt, hexL]
    have h1 := ih (i + 1) (acc ++ [figN (bt s i / 16), figN (bt s i % 16)]) (by omega) (by simp only [List.length_append, List.length_cons, List.length_nil]; omega)
    rw [List.append_assoc] at h1
    refine Ev.step (fun k => ?_) h1
    have hf1 := figs_bt (bt s i / 16) (by omega) (by omega)
    have hf2 := figs_bt (bt s i % 16) (by omega) (by omega)
    unfold figs at hf1 hf2
    simp only [impl_Hex.l0]
    rw [Go.u8_and15 _ hb.1 hb.2, hf1, hf2, if_pos (by omega), if_pos (by omega), if_pos (by omega), if_pos (by omega), if_pos (by omega), if_pos (by omega), if_pos (by omega), Option.bind_some, if_pos (by simp only [List.length_cons, List.length_nil]; omega), w64 (by omega) (by omega)]
    rfl
theorem impl_Hex_yes (s : ByteArray) (hs : s.size ≤ 20000) : Ev (fun k => impl_Hex.f k s) (strOfNums (hexL (B s)), true) := by
  unfold impl_Hex.f
  exact ev_neg (by omega) (impl_Hex_l0_ev s hs s.size 0 [] (by omega) (by simp))
theorem spec_l01Number_ex (xs : List Int) (p s : Int) (hp : 0 ≤ p) (hx : xs.length ≤ 9223372036854775000) : ∃ v p' s', spec_l01Number.f xs p s = some (v, p', s') := by
  obtain ⟨v, p1, s1, e, _, _, c⟩ := spec_l01Below_any xs p s 4 hp hx (by omega) (by omega)
  unfold spec_l01Number.f
  rw [e]
  simp only [Option.bind_some]
  by_cases h0 : v = 0
  · obtain ⟨v2, p2, s2, e2, _⟩ := spec_l01PickInt_ex xs p1 s1 (([(-1), 0, 127, 128, 16383, 16384, 1000000000, 1000000001, 9223372036854775807, (-9223372036854775808)] : List Int)) c hx (by decide) (by decide)
    rw [if_pos h0, e2]
    exact ⟨_, _, _, rfl⟩
  · rw [if_neg h0]
    by_cases h1 : v = 1
    · obtain ⟨v2, p2, s2, e2, _⟩ := spec_l01Below_any xs p1 s1 1000000000 c hx (by omega) (by omega)
      rw [if_pos h1, e2]
      exact ⟨_, _, _, rfl⟩
    · obtain ⟨v2, p2, s2, e2, _⟩ := spec_l01Below_any xs p1 s1 400 c hx (by omega) (by omega)
      rw [if_neg h1, e2]
      exact ⟨_, _, _, rfl⟩
theorem spec_DrawVarText_ex (xs : List Int) (hx : xs.length ≤ 9223372036854775000) : ∃ n, Ev (fun k => spec_DrawVarText.f k xs) n := by
  obtain ⟨s, h⟩ := spec_l01New_ex xs hx
  obtain ⟨v, p, s', e⟩ := spec_l01Number_ex xs 0 s (by omega) hx
  refine ⟨v, ?_⟩
  unfold spec_DrawVarText.f
  refine Ev.bind h ?_
  simp only [e, Option.bind_some]
  exact Ev.now _
theorem spec_DrawHex_ex (xs : List Int) (hx : xs.length ≤ 9223372036854775000) : ∃ t, Ev (fun k => spec_DrawHex.f k xs) t := by
  obtain ⟨s, h⟩ := spec_l01New_ex xs hx
  obtain ⟨b, p1, s1, e1, c1⟩ := spec_l01Once_ex xs 0 s 60 (by omega) hx (by omega) (by omega)
  unfold spec_DrawHex.f
  by_cases hb : b = true
  · obtain ⟨v, p2, s2, e2, a2, b2, c2⟩ := spec_l01Below_any xs p1 s1 2 c1 hx (by omega) (by omega)
    obtain ⟨t, ht⟩ := spec_l01Long_ex (20000 + v) 200 (by omega) (by omega)
    refine ⟨t, Ev.bind h ?_⟩
    simp only [e1, e2, Option.bind_some, w64 (x := 20000 + v) (by omega) (by omega)]
    exact ev_pos hb (Ev.bind ht (Ev.now _))
  · obtain ⟨v, p2, s2, e2, a2, b2, c2⟩ := spec_l01Below_any xs p1 s1 30 c1 hx (by omega) (by omega)
    obtain ⟨t, p3, s3, ht, _, _⟩ := spec_l01Text_ex xs p2 s2 v c2 hx
    refine ⟨t, Ev.bind h ?_⟩
    simp only [e1, e2, Option.bind_some]
    exact ev_neg hb (Ev.bind ht (Ev.now _))
theorem num_j2 (n : Int) (h0 : 0 ≤ n) (h1 : n ≤ 1000000000) (s : ByteArray) (hs : s.size ≤ 10) (t : ByteArray) (ht : t.size ≤ 300) :
    Ev (fun k => laws_FnNumbers.j2 k n s true n (1 + (s.size : Int)) true n true t) true := by
  apply ev_succ
  simp only [laws_FnNumbers.j2]
  have hv := varN_len (t.size : Int)
  have hsz : (strOfNums (varN (t.size : Int))).size = (varN (t.size : Int)).length := by rw [Go.strOfNums_size]
  have hB : B (strOfNums (varN (t.size : Int)) ++ t) = varN (t.size : Int) ++ B t := by rw [B_append, B_str _ (varN_byt _)]
  have hr : rvB (strOfNums (varN (t.size : Int)) ++ t) 0 = ((t.size : Int), ((varN (t.size : Int)).length : Int), true) := by
    rw [rvB_var _ 0 (t.size : Int) (B t) (by omega) (by omega) (by rw [List.drop_zero]; exact hB)]
    congr 2; omega
  have hext : (strOfNums (varN (t.size : Int)) ++ t).extract (varN (t.size : Int)).length ((varN (t.size : Int)).length + t.size) = t := by
    apply B_inj
    rw [B_extract, hB]
    have e : (varN (t.size : Int) ++ B t).length = (varN (t.size : Int)).length + t.size := by rw [List.length_append, B_len]
    rw [List.take_of_length_le (by omega), List.drop_left']
    rfl
  have hsh : shortB (strOfNums (varN (t.size : Int)) ++ t) (rvB (strOfNums (varN (t.size : Int)) ++ t) 0) = (t, ((varN (t.size : Int)).length : Int) + t.size, true) := by
    rw [hr]
    unfold shortB
    simp only [if_true]
    rw [if_neg (by omega), if_neg (by rw [ByteArray.size_append, hsz]; omega)]
    have e1 : (((varN (t.size : Int)).length : Int)).toNat = (varN (t.size : Int)).length := by omega
    have e2 : (((varN (t.size : Int)).length : Int) + (t.size : Int)).toNat = (varN (t.size : Int)).length + t.size := by omega
    rw [e1, e2, hext]
  refine Ev.bind (impl_ShortText_yes t (by omega)) ?_
  have hrs := impl_ReadShort_yes (strOfNums (varN (t.size : Int)) ++ t) (by rw [ByteArray.size_append, hsz]; omega) 0 (by omega)
  rw [hsh] at hrs
  have e0 : ((0 : Nat) : Int) = 0 := rfl
  rw [e0] at hrs
  refine Ev.bind hrs ?_
  refine Ev.bind (impl_Hex_yes t (by omega)) ?_
  refine Ev.bind (unhex_back t (by omega)) ?_
  simp only [if_true]
  have hsz2 : ((strOfNums (varN (t.size : Int)) ++ t).size : Int) = ((varN (t.size : Int)).length : Int) + t.size := by rw [ByteArray.size_append, hsz]; omega
  rw [w64 (x := (s.size : Int) + 1) (by omega) (by omega), if_pos (by omega), if_pos hsz2.symm]
  simp only [beq_self_eq_true]
  exact Ev.now _
theorem num_j1 (xs : List Int) (hx : xs.length ≤ 9223372036854775000) (n : Int) (h0 : 0 ≤ n) (h1 : n ≤ 1000000000) : Ev (fun k => laws_FnNumbers.j1 k xs n) true := by
  apply ev_succ
  simp only [laws_FnNumbers.j1]
  have hv := varN_len n
  have hsz : (strOfNums (varN n)).size = (varN n).length := by rw [Go.strOfNums_size]
  refine Ev.bind (impl_VarText_yes n h0 h1) ?_
  have hone : (⟨#[120]⟩ : ByteArray).size = 1 := rfl
  have hone2 : (⟨#[121]⟩ : ByteArray).size = 1 := rfl
  refine ev_pos (by simp only []; omega) (ev_pos (by simp only [ByteArray.size_append]; omega) ?_)
  have hB : (B (((⟨#[120]⟩ : ByteArray) ++ strOfNums (varN n)) ++ (⟨#[121]⟩ : ByteArray))).drop 1 = varN n ++ [121] := by
    rw [B_append, B_append, B_str _ (varN_byt n)]; rfl
  have hr := rvB_var (((⟨#[120]⟩ : ByteArray) ++ strOfNums (varN n)) ++ (⟨#[121]⟩ : ByteArray)) 1 n [121] h0 h1 hB
  have hrv := impl_ReadVar_yes (((⟨#[120]⟩ : ByteArray) ++ strOfNums (varN n)) ++ (⟨#[121]⟩ : ByteArray)) (by simp only [ByteArray.size_append]; omega) 1 (by simp only [ByteArray.size_append]; omega)
  rw [hr] at hrv
  refine Ev.bind hrv ?_
  have hd : impl_DecimalN.f n = some (itoaB n) := by unfold impl_DecimalN.f; rw [if_pos (by omega)]
  have hsm : (itoaB n).size ≤ 281474976710656 := by
    have := PureD.itoa_len h0 h1
    show (Lib.itoa n).toArray.size ≤ 281474976710656
    rw [List.size_toArray]; omega
  have hrd : impl_ReadDecimalN.f (itoaB n) = some (n, true) := by unfold impl_ReadDecimalN.f; rw [if_pos hsm, PureD.rdN_yes h0 h1]
  rw [hd]
  simp only [Option.bind_some]
  rw [hrd]
  simp only [Option.bind_some]
  obtain ⟨t, ht⟩ := spec_DrawHex_ex xs hx
  refine Ev.bind ht ?_
  have e1 : ((1 : Nat) : Int) + ((varN n).length : Int) = 1 + ((strOfNums (varN n)).size : Int) := by rw [hsz]; rfl
  refine ev_ite (fun hbig => ?_) (fun hbig => ?_)
  · have := num_j2 n h0 h1 (strOfNums (varN n)) (by omega) (⟨#[97, 98, 99]⟩ : ByteArray) (by show 3 ≤ 300; omega)
    rw [e1]; exact this
  · have := num_j2 n h0 h1 (strOfNums (varN n)) (by omega) t (by omega)
    rw [e1]; exact this
theorem FnNumbers : ∀ (l0 : List Int), (l0.length ≤ 9223372036854775807) → ∃ k, laws_FnNumbers.f k l0 = some true := by
  intro xs hx0
  refine ev_ex ?_
  unfold laws_FnNumbers.f laws_big.f
  simp only [Option.bind_some]
  refine ev_ite (fun _ => Ev.now _) (fun hbg => ?_)
  have hx : xs.length ≤ 9223372036854775000 := by simp at hbg; omega
  obtain ⟨n, hn⟩ := spec_DrawVarText_ex xs hx
  refine Ev.bind hn ?_
  have hj : ∀ b : Bool, (b = false → 0 ≤ n ∧ n ≤ 1000000000) → Ev (fun k => laws_FnNumbers.j0 k xs n b) true := by
    intro b hb
    apply ev_succ
    simp only [laws_FnNumbers.j0]
    refine ev_ite (fun _ => num_j1 xs hx 12345 (by omega) (by omega)) (fun h => ?_)
    have h2 := hb (by simpa using h)
    exact num_j1 xs hx n h2.1 h2.2
  refine ev_ite (fun _ => hj true (fun h => by cases h)) (fun h => hj _ (fun h2 => ?_))
  have := of_decide_eq_false h2
  omega

end Go.Proofs.YtnecbkognpponaaDoor.Pure
