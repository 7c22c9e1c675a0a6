/- The pure statement of the law FnExactPartsOf, in plain Lean: the specification's PartsOf answers as the program's, and what the law asks besides holds, for every text; there are no other conditions. -/
import Derived.Test.YtnecbkognpponaaDoorQlawsFnExactPartsOf
set_option linter.unusedVariables false
set_option linter.unusedSimpArgs false
namespace Go.Proofs.YtnecbkognpponaaDoor.Pure
open Go.RowKit Go.Proofs.YtnecbkognpponaaDoor.Q Go.Proofs.YtnecbkognpponaaDoorW.PrintWords Go.Proofs.YtnecbkognpponaaDoorW.PrintLast
theorem w64 {x : Int} (h0 : -9223372036854775808 ≤ x) (h1 : x ≤ 9223372036854775807) : wrap64 x = x := by unfold wrap64; omega
abbrev BL (s : ByteArray) : List UInt8 := s.data.toList
def mk (l : List UInt8) : ByteArray := ⟨l.toArray⟩
theorem BL_mk (l : List UInt8) : BL (mk l) = l := rfl
theorem BL_len (s : ByteArray) : (BL s).length = s.size := Array.length_toList
theorem mk_BL (s : ByteArray) : mk (BL s) = s := by
  apply Go.WideShapes.bytes_inj; rfl
theorem toL (s : ByteArray) : s.toList = BL s := ByteArray.toList_eq s
theorem mk_map (P : List ByteArray) : P = (P.map BL).map mk := by
  rw [List.map_map]
  conv => lhs; rw [← List.map_id P]
  exact List.map_congr_left fun x _ => (mk_BL x).symm
theorem ext_mk (s : ByteArray) (a b : Nat) : s.extract a b = mk (((BL s).take b).drop a) := by
  apply Go.WideShapes.bytes_inj
  show (s.extract a b).data.toList = ((BL s).take b).drop a
  simp only [ByteArray.data_extract, Array.toList_extract, List.extract_eq_take_drop]
  rw [List.drop_take]
theorem bt_at (s : ByteArray) (i : Nat) (h : i < s.size) : ∃ c, (BL s)[i]? = some c ∧ bt s i = (c.toNat : Int) := by
  have h' : i < (BL s).length := by rw [BL_len]; exact h
  refine ⟨(BL s)[i], List.getElem?_eq_getElem h', ?_⟩
  simp [bt, h, ByteArray.getElem_eq_getElem_data]
/-- The pieces between blanks; cur is what stands ahead. -/
def sp : List UInt8 → List UInt8 → List (List UInt8)
  | cur, [] => [cur]
  | cur, c :: r => if c = 32 then cur :: sp [] r else sp (cur ++ [c]) r
theorem split_ne (k : Nat) (l : List UInt8) : ∃ p r, Lib.splitK [32] 0 k l = p :: r := by
  cases k with
  | zero => exact ⟨_, _, rfl⟩
  | succ k =>
    unfold Lib.splitK
    split
    · exact ⟨_, _, rfl⟩
    · exact ⟨_, _, rfl⟩
theorem sp_split : ∀ (l cur : List UInt8) (k : Nat) (p : List UInt8) (r : List (List UInt8)), l.count 32 ≤ k → Lib.splitK [32] 0 k l = p :: r → sp cur l = (cur ++ p) :: r
  | [], cur, k, p, r, _, h => by
    have hs : Lib.splitK [32] 0 k [] = [[]] := by cases k <;> simp [Lib.splitK, Lib.index]
    rw [hs] at h
    injection h with h1 h2
    subst h1; subst h2
    simp [sp]
  | c :: t, cur, k, p, r, hk, h => by
    by_cases hc : c = 32
    · subst hc
      rw [List.count_cons_self] at hk
      obtain ⟨k, rfl⟩ : ∃ m, k = m + 1 := ⟨k - 1, by omega⟩
      have hi : Lib.index (32 :: t) [32] = 0 := by simp [Lib.index]
      obtain ⟨p2, r2, h2⟩ := split_ne k t
      rw [Lib.splitK, hi] at h
      rw [if_neg (by decide)] at h
      simp only [Int.toNat_zero, Nat.add_zero, List.take_zero, List.length_cons, List.length_nil, Nat.zero_add, List.drop_succ_cons, List.drop_zero] at h
      injection h with h1 h3
      subst h1
      rw [sp, if_pos rfl, sp_split t [] k p2 r2 (by omega) h2, List.append_nil, ← h3, h2, List.nil_append]
    · have hk' : t.count 32 ≤ k := by rw [List.count_cons_of_ne (by exact fun e => hc e)] at hk; exact hk
      rw [sp, if_neg hc]
      have hpre : ([32] : List UInt8).isPrefixOf (c :: t) = false := by
        simp only [List.isPrefixOf, Bool.and_true]
        exact beq_eq_false_iff_ne.mpr (fun e => hc e.symm)
      obtain ⟨p2, r2, h2⟩ := split_ne k t
      rw [sp_split t (cur ++ [c]) k p2 r2 hk' h2]
      cases k with
      | zero =>
        simp only [Lib.splitK] at h h2
        injection h with h1 h3
        injection h2 with h4 h5
        subst h1; subst h3; subst h4; subst h5
        simp
      | succ k =>
        rw [Lib.splitK] at h h2
        have hix : Lib.index (c :: t) [32] = if Lib.index t [32] == -1 then -1 else Lib.index t [32] + 1 := by
          rw [Lib.index, hpre]; rfl
        have hge := Lib.index_ge t [32]
        rw [hix] at h
        by_cases hm : (Lib.index t [32] == -1) = true
        · rw [if_pos hm, if_pos (by decide)] at h
          rw [if_pos hm] at h2
          injection h with h1 h3
          injection h2 with h4 h5
          subst h1; subst h3; subst h4; subst h5
          simp
        · rw [if_neg hm] at h
          rw [if_neg hm] at h2
          have hne : Lib.index t [32] ≠ -1 := fun e => hm (beq_iff_eq.mpr e)
          rw [if_neg (by intro e; have := beq_iff_eq.mp e; omega)] at h
          have et : (Lib.index t [32] + 1).toNat = (Lib.index t [32]).toNat + 1 := by omega
          rw [et] at h
          simp only [Nat.add_zero, List.take_succ_cons, List.length_cons, List.length_nil, Nat.zero_add, List.drop_succ_cons] at h h2
          injection h with h1 h3
          injection h2 with h4 h5
          rw [← h1, ← h4, ← h3, ← h5]
          simp
theorem pieces (s : ByteArray) : Lib.splitB ⟨#[32]⟩ 0 (Lib.countB s ⟨#[32]⟩) s = (sp [] (BL s)).map mk := by
  have hc : Lib.countB s ⟨#[32]⟩ = (BL s).count 32 := Lib.count_one 32 (BL s)
  obtain ⟨p, r, h⟩ := split_ne (Lib.countB s ⟨#[32]⟩) (BL s)
  have hsp := sp_split (BL s) [] _ p r (by rw [hc]; exact Nat.le_refl _) h
  have hd := Lib.splitB_data ⟨#[32]⟩ 0 (Lib.countB s ⟨#[32]⟩) s
  rw [mk_map (Lib.splitB ⟨#[32]⟩ 0 (Lib.countB s ⟨#[32]⟩) s)]
  have he : (Lib.splitB ⟨#[32]⟩ 0 (Lib.countB s ⟨#[32]⟩) s).map BL = sp [] (BL s) := by
    rw [hsp, List.nil_append, ← h]; exact hd
  rw [he]
theorem sp_len : ∀ (l cur : List UInt8), (sp cur l).length ≤ l.length + 1
  | [], cur => by simp [sp]
  | c :: t, cur => by
    rw [sp]
    split
    · have := sp_len t []; simp only [List.length_cons]; omega
    · have := sp_len t (cur ++ [c]); simp only [List.length_cons]; omega
def full (P : List (List UInt8)) : List (List UInt8) := P.filter fun l => decide (l ≠ [])
theorem full_len (P : List (List UInt8)) : (full P).length ≤ P.length := List.length_filter_le _ _
def fin (P : List (List UInt8)) : List ByteArray × Bool := if P.length > 10 then ([], false) else (P.map mk, true)
def okc (c : UInt8) : Prop := 32 ≤ c.toNat ∧ c.toNat ≤ 126
instance (c : UInt8) : Decidable (okc c) := by unfold okc; infer_instance
def bad (l : List UInt8) : Bool := l.any fun c => decide (¬ okc c)
/-- What both answer. -/
def res (s : ByteArray) : List ByteArray × Bool := if s.size > 600 then ([], false) else if bad (BL s) then ([], false) else fin (full (sp [] (BL s)))
theorem drop_at {l : List UInt8} {i : Nat} {c : UInt8} (h : l[i]? = some c) : l.drop i = c :: l.drop (i + 1) := by
  obtain ⟨hl, rfl⟩ := List.getElem?_eq_some_iff.1 h
  exact List.drop_eq_getElem_cons hl
theorem seg {l : List UInt8} {i b : Nat} {c : UInt8} (h : l[i]? = some c) (hb : b ≤ i) : (l.take (i + 1)).drop b = (l.take i).drop b ++ [c] := by
  obtain ⟨hl, rfl⟩ := List.getElem?_eq_some_iff.1 h
  rw [List.take_succ_eq_append_getElem hl, List.drop_append_of_le_length (by rw [List.length_take]; omega)]
/-- The specification's loop. -/
theorem spec_loop (s : ByteArray) (hs : s.size ≤ 600) : ∀ (d i b : Nat) (out : List (List UInt8)) (k : Nat), i + d = s.size → b ≤ i → out.length ≤ i → 3 * d + 10 ≤ k →
    spec_PartsOf.l0 k s (out.map mk) b i = some (if bad ((BL s).drop i) then ([], false) else fin (out ++ full (sp (((BL s).take i).drop b) ((BL s).drop i))))
  | 0, i, b, out, k, hd, hb, ho, hk => by
    obtain ⟨k, rfl⟩ : ∃ m, k = m + 3 + 1 := ⟨k - 4, by omega⟩
    have hi : i = s.size := by omega
    have hdr : (BL s).drop i = [] := by rw [List.drop_eq_nil_iff, BL_len]; omega
    have htk : (BL s).take i = BL s := List.take_of_length_le (by rw [BL_len]; omega)
    have hcur : ((BL s).drop b).length = i - b := by rw [List.length_drop, BL_len, hi]
    rw [hdr, htk]
    simp only [spec_PartsOf.l0, spec_PartsOf.j1, spec_PartsOf.j2]
    rw [if_pos (by omega), if_neg (by omega), if_neg (by decide), if_neg (by omega), if_neg (by decide), w64 (x := (i : Int) + 1) (by omega) (by omega)]
    have hbad : bad ([] : List UInt8) = false := rfl
    rw [hbad]
    have h2 : ¬ ((i : Int) + 1 ≤ (s.size : Int)) := by omega
    by_cases hlt : b < i
    · have e : out.map mk ++ [s.extract (b : Int).toNat (i : Int).toNat] = (out ++ [(BL s).drop b]).map mk := by
        rw [List.map_append]; congr 1
        show [s.extract b i] = [mk _]
        rw [ext_mk, htk]
      have hne : (BL s).drop b ≠ [] := by intro h; rw [h] at hcur; simp at hcur; omega
      rw [if_pos (by omega), if_pos (by omega), if_pos (by omega), if_pos (by omega), if_pos (by rw [List.length_map]; omega), e]
      have hf : full (sp ((BL s).drop b) []) = [(BL s).drop b] := by simp [full, sp, hne]
      rw [hf, if_neg h2, List.length_map]
      unfold fin
      by_cases h10 : (out ++ [(BL s).drop b]).length > 10
      · rw [if_pos (by omega), if_neg (by decide), if_pos h10]
      · rw [if_neg (by omega), if_neg (by decide), if_neg h10]
    · have hnil : (BL s).drop b = [] := List.eq_nil_of_length_eq_zero (by omega)
      rw [if_neg (by omega)]
      have hf : full (sp ((BL s).drop b) []) = [] := by rw [hnil]; rfl
      rw [hf, if_neg h2, List.length_map, List.append_nil]
      unfold fin
      by_cases h10 : out.length > 10
      · rw [if_pos (by omega), if_neg (by decide), if_pos h10]
      · rw [if_neg (by omega), if_neg (by decide), if_neg h10]
  | d + 1, i, b, out, k, hd, hb, ho, hk => by
    obtain ⟨k, rfl⟩ : ∃ m, k = m + 2 + 1 := ⟨k - 3, by omega⟩
    obtain ⟨c, hc, hbt⟩ := bt_at s i (by omega)
    have hdr := drop_at hc
    simp only [spec_PartsOf.l0, spec_PartsOf.j1, spec_PartsOf.j2]
    rw [if_pos (by omega), if_pos (by omega), if_pos (by omega), hbt, hdr]
    have hcs : ((BL s).take i).length = i := by rw [List.length_take, BL_len]; omega
    by_cases hlo : (c.toNat : Int) < 32
    · have hbd : bad (c :: (BL s).drop (i + 1)) = true := by
        unfold bad; rw [List.any_cons]; simp only [Bool.or_eq_true, decide_eq_true_eq]; left; unfold okc; omega
      rw [if_pos hlo, if_pos trivial, hbd, if_pos rfl]
    · rw [if_neg hlo]
      by_cases hhi : (c.toNat : Int) > 126
      · have hbd : bad (c :: (BL s).drop (i + 1)) = true := by
          unfold bad; rw [List.any_cons]; simp only [Bool.or_eq_true, decide_eq_true_eq]; left; unfold okc; omega
        rw [decide_eq_true hhi, if_pos rfl, hbd, if_pos rfl]
      · have hbd : bad (c :: (BL s).drop (i + 1)) = bad ((BL s).drop (i + 1)) := by
          unfold bad; rw [List.any_cons]
          have : decide (¬ okc c) = false := by rw [decide_eq_false_iff_not]; unfold okc; omega
          rw [this, Bool.false_or]
        rw [decide_eq_false hhi, if_neg (by decide), if_pos (by omega), if_pos (by omega), hbd]
        have ec : ((i + 1 : Nat) : Int) = (i : Int) + 1 := by omega
        by_cases h32 : c = 32
        · subst h32
          have hn : (((32 : UInt8).toNat : Int) != 32) = false := by decide
          rw [hn, if_neg (by decide), w64 (x := (i : Int) + 1) (by omega) (by omega)]
          rw [sp, if_pos rfl]
          by_cases hlt : b < i
          · have e : out.map mk ++ [s.extract (b : Int).toNat (i : Int).toNat] = (out ++ [((BL s).take i).drop b]).map mk := by
              rw [List.map_append]; congr 1
              show [s.extract b i] = [mk _]
              rw [ext_mk]
            have hne : ((BL s).take i).drop b ≠ [] := by
              intro h
              have := congrArg List.length h
              rw [List.length_drop, hcs] at this; simp at this; omega
            rw [if_pos (by omega), if_pos (by omega), if_pos (by omega), if_pos (by omega), if_pos (by rw [List.length_map]; omega), e]
            have ih := spec_loop s hs d (i + 1) (i + 1) (out ++ [((BL s).take i).drop b]) k (by omega) (by omega) (by simp; omega) (by omega)
            rw [ec] at ih
            rw [ih]
            have hcur : ((BL s).take (i + 1)).drop (i + 1) = [] := by rw [List.drop_eq_nil_iff, List.length_take]; omega
            rw [hcur]
            have hf : full (((BL s).take i).drop b :: sp [] ((BL s).drop (i + 1))) = ((BL s).take i).drop b :: full (sp [] ((BL s).drop (i + 1))) := by
              unfold full; rw [List.filter_cons_of_pos (by simpa using hne)]
            rw [hf]; simp
          · have hnil : ((BL s).take i).drop b = [] := by rw [List.drop_eq_nil_iff, hcs]; omega
            rw [if_neg (by omega)]
            have ih := spec_loop s hs d (i + 1) (i + 1) out k (by omega) (by omega) (by omega) (by omega)
            rw [ec] at ih
            rw [ih]
            have hcur : ((BL s).take (i + 1)).drop (i + 1) = [] := by rw [List.drop_eq_nil_iff, List.length_take]; omega
            rw [hcur, hnil]
            have hf : full ([] :: sp [] ((BL s).drop (i + 1))) = full (sp [] ((BL s).drop (i + 1))) := by
              unfold full; rw [List.filter_cons_of_neg (by simp)]
            rw [hf]
        · have hn : ((c.toNat : Int) != 32) = true := by
            rw [bne_iff_ne]; intro e
            exact h32 (UInt8.toNat_inj.mp (by show c.toNat = 32; omega))
          rw [hn, if_pos rfl, w64 (x := (i : Int) + 1) (by omega) (by omega)]
          have ih := spec_loop s hs d (i + 1) b out k (by omega) (by omega) (by omega) (by omega)
          rw [ec] at ih
          rw [ih, seg hc hb, sp, if_neg h32]
theorem spec_parts (s : ByteArray) (k : Nat) (hk : 2000 ≤ k) : spec_PartsOf.f k s = some (res s) := by
  unfold spec_PartsOf.f res
  simp only [Option.bind_some]
  by_cases h : (s.size : Int) > 600
  · rw [if_pos h, if_pos (by omega)]
  · rw [if_neg h, if_neg (by omega)]
    have := spec_loop s (by omega) s.size 0 0 [] k (by omega) (by omega) (by simp) (by omega)
    simpa using this
/-- The program's second loop. -/
theorem impl_loop (P : List (List UInt8)) (hP : P.length ≤ 1000) : ∀ (d i : Nat) (out : List (List UInt8)) (k : Nat), i + d = P.length → out.length ≤ i → d + 1 ≤ k →
    impl_PartsOf.l1 k (out.map mk) (P.map mk) ((P.map mk).length : Int) i = some (fin (out ++ full (P.drop i)))
  | 0, i, out, k, hd, ho, hk => by
    obtain ⟨k, rfl⟩ : ∃ m, k = m + 1 := ⟨k - 1, by omega⟩
    have hdr : P.drop i = [] := by rw [List.drop_eq_nil_iff]; omega
    simp only [impl_PartsOf.l1]
    rw [if_neg (by rw [List.length_map]; omega), hdr]
    have hf : full [] = [] := rfl
    rw [hf, List.append_nil, List.length_map]
    unfold fin
    by_cases h10 : out.length > 10
    · rw [if_pos (by omega), if_pos h10]
    · rw [if_neg (by omega), if_neg h10]
  | d + 1, i, out, k, hd, ho, hk => by
    obtain ⟨k, rfl⟩ : ∃ m, k = m + 1 := ⟨k - 1, by omega⟩
    have hl : i < P.length := by omega
    have hrd : rdOf ByteArray.empty (P.map mk) (i : Int) = mk P[i] := by
      unfold rdOf
      have : ((i : Int)).toNat = i := by omega
      rw [this]; simp [hl]
    have hdr : P.drop i = P[i] :: P.drop (i + 1) := List.drop_eq_getElem_cons hl
    have ec : ((i + 1 : Nat) : Int) = (i : Int) + 1 := by omega
    simp only [impl_PartsOf.l1]
    rw [if_pos (by rw [List.length_map]; omega), if_pos (by omega), if_pos (by rw [List.length_map]; omega), hrd, w64 (x := (i : Int) + 1) (by omega) (by omega), hdr]
    by_cases hne : P[i] = []
    · rw [if_pos (by rw [toL, BL_mk]; exact hne)]
      have ih := impl_loop P hP d (i + 1) out k (by omega) (by omega) (by omega)
      rw [ec] at ih
      rw [ih]
      unfold full
      rw [List.filter_cons_of_neg (by simpa using hne)]
    · rw [if_neg (by rw [toL, BL_mk]; exact hne), if_pos (by rw [List.length_map]; omega)]
      have e : out.map mk ++ [mk P[i]] = (out ++ [P[i]]).map mk := by rw [List.map_append]; rfl
      have ih := impl_loop P hP d (i + 1) (out ++ [P[i]]) k (by omega) (by simp; omega) (by omega)
      rw [ec] at ih
      rw [e, ih]
      unfold full
      rw [List.filter_cons_of_pos (by simpa using hne)]
      simp
/-- The program's first loop. -/
theorem impl_scan (s : ByteArray) (hs : s.size ≤ 600) (k1 : Nat) (hk1 : 700 ≤ k1) : ∀ (d i k : Nat), i + d = s.size → d + 1 + k1 ≤ k →
    impl_PartsOf.l0 k s (s.size : Int) i = some (if bad ((BL s).drop i) then ([], false) else fin (full (sp [] (BL s))))
  | 0, i, k, hd, hk => by
    obtain ⟨k, rfl⟩ : ∃ m, k = m + 1 := ⟨k - 1, by omega⟩
    have hdr : (BL s).drop i = [] := by rw [List.drop_eq_nil_iff, BL_len]; omega
    simp only [impl_PartsOf.l0]
    rw [if_neg (by omega), hdr]
    have hsz : (⟨#[32]⟩ : ByteArray).size = 1 := rfl
    have hsp : strings_Split.f s ⟨#[32]⟩ = some ((sp [] (BL s)).map mk) := by
      unfold strings_Split.f
      rw [if_pos ⟨by omega, by rw [hsz]; exact Nat.le_refl _⟩, pieces]
    rw [hsp]
    simp only [Option.bind_some]
    have hlen := sp_len (BL s) []
    rw [BL_len] at hlen
    have := impl_loop (sp [] (BL s)) (by omega) (sp [] (BL s)).length 0 [] k (by omega) (by simp) (by omega)
    have e0 : ((0 : Nat) : Int) = 0 := rfl
    rw [List.map_nil, e0, List.nil_append, List.drop_zero] at this
    have hbad : bad ([] : List UInt8) = false := rfl
    rw [this, hbad]; rfl
  | d + 1, i, k, hd, hk => by
    obtain ⟨k, rfl⟩ : ∃ m, k = m + 1 := ⟨k - 1, by omega⟩
    obtain ⟨c, hc, hbt⟩ := bt_at s i (by omega)
    have hdr := drop_at hc
    have ec : ((i + 1 : Nat) : Int) = (i : Int) + 1 := by omega
    simp only [impl_PartsOf.l0]
    rw [if_pos (by omega), if_pos (by omega), if_pos (by omega), hbt, hdr]
    by_cases hlo : (c.toNat : Int) < 32
    · have hbd : bad (c :: (BL s).drop (i + 1)) = true := by
        unfold bad; rw [List.any_cons]; simp only [Bool.or_eq_true, decide_eq_true_eq]; left; unfold okc; omega
      rw [if_pos hlo, hbd, if_pos rfl]
    · rw [if_neg hlo]
      by_cases hhi : (c.toNat : Int) > 126
      · have hbd : bad (c :: (BL s).drop (i + 1)) = true := by
          unfold bad; rw [List.any_cons]; simp only [Bool.or_eq_true, decide_eq_true_eq]; left; unfold okc; omega
        rw [if_pos hhi, hbd, if_pos rfl]
      · have hbd : bad (c :: (BL s).drop (i + 1)) = bad ((BL s).drop (i + 1)) := by
          unfold bad; rw [List.any_cons]
          have : decide (¬ okc c) = false := by rw [decide_eq_false_iff_not]; unfold okc; omega
          rw [this, Bool.false_or]
        rw [if_neg hhi, w64 (x := (i : Int) + 1) (by omega) (by omega), hbd]
        have ih := impl_scan s hs k1 hk1 d (i + 1) k (by omega) (by omega)
        rw [ec] at ih
        exact ih
theorem impl_parts (s : ByteArray) (k : Nat) (hk : 2000 ≤ k) : impl_PartsOf.f k s = some (res s) := by
  unfold impl_PartsOf.f res
  by_cases h : (s.size : Int) > 600
  · rw [if_pos h, if_pos (by omega)]
  · rw [if_neg h, if_neg (by omega)]
    have := impl_scan s (by omega) 700 (by omega) s.size 0 k (by omega) (by omega)
    simpa using this
theorem res_len (s : ByteArray) : (res s).1.length ≤ 10 := by
  unfold res fin
  split
  · simp
  · split
    · simp
    · split
      · simp
      · simp; omega
/-- A mark. -/
theorem mark_l0 : ∀ (d : Nat) (n : Int) (s : ByteArray), 0 ≤ n → n ≤ 1000 → n < 10 ^ d → s.size + d ≤ 1000 → ∃ t, ∀ k, d < k → laws_markText.l0 k n s = some t
  | 0, n, s, h0, _, h1, hs => by
    have hn : n = 0 := by simp at h1; omega
    subst hn
    refine ⟨(⟨#[109]⟩ : ByteArray) ++ s, fun k hk => ?_⟩
    obtain ⟨k, rfl⟩ : ∃ m, k = m + 1 := ⟨k - 1, by omega⟩
    simp only [laws_markText.l0]
    rw [if_neg (by omega), if_pos (by omega)]
  | d + 1, n, s, h0, hm, h1, hs => by
    by_cases hn : n = 0
    · subst hn
      refine ⟨(⟨#[109]⟩ : ByteArray) ++ s, fun k hk => ?_⟩
      obtain ⟨k, rfl⟩ : ∃ m, k = m + 1 := ⟨k - 1, by omega⟩
      simp only [laws_markText.l0]
      rw [if_neg (by omega), if_pos (by omega)]
    · have hsz : ∀ x : Int, (strOfNums [x]).size = 1 := fun x => by simp [strOfNums, ByteArray.size]
      have hp : (10 : Int) ^ (d + 1) = 10 ^ d * 10 := Int.pow_succ _ _
      have hdiv : Int.tdiv n 10 = n / 10 := Int.tdiv_eq_ediv_of_nonneg h0
      obtain ⟨t, ht⟩ := mark_l0 d (n / 10) (strOfNums [(wrap64 (48 + (Int.tmod n 10))) % 256] ++ s) (by omega) (by omega) (by omega) (by rw [ByteArray.size_append, hsz]; omega)
      refine ⟨t, fun k hk => ?_⟩
      obtain ⟨k, rfl⟩ : ∃ m, k = m + 1 := ⟨k - 1, by omega⟩
      simp only [laws_markText.l0, Option.bind_some]
      rw [if_pos (by omega), if_pos (by rw [hsz]; omega), hdiv, w64 (by omega) (by omega)]
      exact ht k (by omega)
def mt (n : Int) : ByteArray := (laws_markText.f 10 n).getD default
theorem mark_f (n : Int) (h0 : 0 < n) (h1 : n ≤ 1000) (k : Nat) (hk : 6 ≤ k) : laws_markText.f k n = some (mt n) := by
  have h4 : (10 : Int) ^ 4 = 10000 := by decide
  obtain ⟨t, ht⟩ := mark_l0 4 n ⟨#[]⟩ (by omega) h1 (by omega) (by show 0 + 4 ≤ 1000; omega)
  have e : ∀ k, 6 ≤ k → laws_markText.f k n = some t := fun k hk => by
    unfold laws_markText.f; rw [if_neg (by omega)]; exact ht k (by omega)
  have em : mt n = t := by unfold mt; rw [e 10 (by omega)]; rfl
  rw [em]; exact e k hk
def marks : Int → Nat → List ByteArray
  | _, 0 => []
  | n, m + 1 => mt n :: marks (n + 1) m
theorem mark_loop : ∀ (ys pre : List ByteArray) (n : Int) (k : Nat), 0 < n → n + ys.length ≤ 1000 → pre.length + ys.length ≤ 1000 → ys.length + 10 ≤ k →
    laws_markStringS.l0 k (pre ++ ys) n (pre.length : Int) = some (n + ys.length, pre ++ marks n ys.length)
  | [], pre, n, k, h0, h1, hp, hk => by
    obtain ⟨k, rfl⟩ : ∃ m, k = m + 1 := ⟨k - 1, by omega⟩
    simp only [laws_markStringS.l0]
    rw [if_neg (by simp)]
    simp [marks]
  | y :: ys, pre, n, k, h0, h1, hp, hk => by
    obtain ⟨k, rfl⟩ : ∃ m, k = m + 1 := ⟨k - 1, by omega⟩
    simp only [List.length_cons] at h1 hp hk
    simp only [laws_markStringS.l0]
    rw [if_pos (by simp only [List.length_append, List.length_cons]; omega), mark_f n h0 (by omega) k (by omega)]
    simp only [Option.bind_some]
    rw [if_pos (by omega), w64 (x := n + 1) (by omega) (by omega), w64 (x := (pre.length : Int) + 1) (by omega) (by omega)]
    have es : (pre ++ y :: ys).set ((pre.length : Int)).toNat (mt n) = (pre ++ [mt n]) ++ ys := by
      rw [Int.toNat_natCast, List.set_append_right _ _ (Nat.le_refl _), Nat.sub_self, List.set_cons_zero]; simp
    have el : ((pre ++ [mt n]).length : Int) = (pre.length : Int) + 1 := by simp
    rw [es, ← el, mark_loop ys (pre ++ [mt n]) (n + 1) k (by omega) (by omega) (by simp only [List.length_append, List.length_cons, List.length_nil]; omega) (by omega)]
    simp only [marks, List.length_cons, List.append_assoc, List.cons_append, List.nil_append]
    congr 2; omega
theorem marks_len : ∀ (m : Nat) (n : Int), (marks n m).length = m
  | 0, _ => rfl
  | m + 1, n => by simp [marks, marks_len m]
theorem held_loop : ∀ (m : Nat) (pre : List ByteArray) (n : Int) (k : Nat), 0 < n → n + m ≤ 1000 → pre.length + m ≤ 1000 → m + 10 ≤ k →
    laws_heldStringS.l0 k (pre ++ marks n m) n (pre.length : Int) = some (n + m)
  | 0, pre, n, k, h0, h1, hp, hk => by
    obtain ⟨k, rfl⟩ : ∃ m, k = m + 1 := ⟨k - 1, by omega⟩
    have hmk : marks n 0 = [] := rfl
    rw [hmk]
    simp only [laws_heldStringS.l0]
    rw [if_neg (by simp)]; simp
  | m + 1, pre, n, k, h0, h1, hp, hk => by
    obtain ⟨k, rfl⟩ : ∃ m, k = m + 1 := ⟨k - 1, by omega⟩
    have hmk : marks n (m + 1) = mt n :: marks (n + 1) m := rfl
    rw [hmk]
    simp only [laws_heldStringS.l0]
    rw [if_pos (by simp only [List.length_append, List.length_cons]; omega), if_pos (by omega), mark_f n h0 (by omega) k (by omega)]
    simp only [Option.bind_some]
    have hrd : rdOf ByteArray.empty (pre ++ mt n :: marks (n + 1) m) (pre.length : Int) = mt n := by
      unfold rdOf; rw [Int.toNat_natCast]; simp
    have el : ((pre ++ [mt n]).length : Int) = (pre.length : Int) + 1 := by simp
    have ea : pre ++ mt n :: marks (n + 1) m = (pre ++ [mt n]) ++ marks (n + 1) m := by simp
    rw [hrd, if_pos rfl, w64 (x := n + 1) (by omega) (by omega), w64 (x := (pre.length : Int) + 1) (by omega) (by omega), ← el, ea, held_loop m (pre ++ [mt n]) (n + 1) k (by omega) (by omega) (by simp only [List.length_append, List.length_cons, List.length_nil]; omega) (by omega)]
    congr 1; omega
theorem eq_loop (xs : List ByteArray) (hx : xs.length ≤ 1000) : ∀ (d i k : Nat), i + d = xs.length → d + 1 ≤ k → laws_eqStringS.l0 k xs xs i = some true
  | 0, i, k, hd, hk => by
    obtain ⟨k, rfl⟩ : ∃ m, k = m + 1 := ⟨k - 1, by omega⟩
    simp only [laws_eqStringS.l0]; rw [if_neg (by omega)]
  | d + 1, i, k, hd, hk => by
    obtain ⟨k, rfl⟩ : ∃ m, k = m + 1 := ⟨k - 1, by omega⟩
    have ec : ((i + 1 : Nat) : Int) = (i : Int) + 1 := by omega
    simp only [laws_eqStringS.l0]
    rw [if_pos (by omega), if_pos (by omega), if_pos (by omega), if_pos trivial, w64 (x := (i : Int) + 1) (by omega) (by omega), ← ec]
    exact eq_loop xs hx d (i + 1) k (by omega) (by omega)
theorem eq_f (xs : List ByteArray) (hx : xs.length ≤ 1000) (k : Nat) (hk : 1010 ≤ k) : laws_eqStringS.f k xs xs = some true := by
  unfold laws_eqStringS.f; rw [if_pos rfl]
  have := eq_loop xs hx xs.length 0 k (by omega) (by omega)
  simpa using this
theorem FnExactPartsOf : ∀ (a0 : ByteArray), laws_FnExactPartsOf.f 3000 a0 = some true := by
  intro s
  unfold laws_FnExactPartsOf.f
  by_cases hb : (s.size : Int) > 1048576
  · rw [if_pos hb]
  · rw [if_neg hb, spec_parts s 3000 (by omega)]
    simp only [Option.bind_some]
    rw [impl_parts s 3000 (by omega)]
    simp only [Option.bind_some]
    have hl := res_len s
    obtain ⟨P, b, hr⟩ : ∃ P b, res s = (P, b) := ⟨_, _, rfl⟩
    rw [hr] at hl ⊢
    simp only at hl ⊢
    rw [eq_f P (by omega) 3000 (by omega)]
    simp only [Option.bind_some, if_true]
    have hbb : (b != b) = false := by simp
    have hm : ∀ k, 100 ≤ k → laws_markStringS.f k P 1 = some (1 + (P.length : Int), marks 1 P.length) := fun k hk => by
      unfold laws_markStringS.f
      have := mark_loop P [] 1 k (by omega) (by omega) (by simp; omega) (by omega)
      simpa using this
    have hh : ∀ k, 100 ≤ k → laws_heldStringS.f k (marks 1 P.length) 1 = some (1 + (P.length : Int)) := fun k hk => by
      unfold laws_heldStringS.f
      have := held_loop P.length [] 1 k (by omega) (by omega) (by simp; omega) (by omega)
      simpa using this
    rw [hbb, show (3000 : Nat) = 2999 + 1 from rfl]
    simp only [laws_FnExactPartsOf.j0]
    rw [if_neg (by decide), hm 2999 (by omega)]
    simp only [Option.bind_some]
    rw [hh 2999 (by omega)]
    simp only [Option.bind_some]
    rw [if_neg (by omega), if_pos trivial, impl_parts s 2999 (by omega), hr]
    simp only [Option.bind_some]
    rw [eq_f P (by omega) 2999 (by omega)]
    simp only [Option.bind_some, if_true]
    rw [hbb, show (2999 : Nat) = 2998 + 1 from rfl]
    simp only [laws_FnExactPartsOf.j1]
    rw [if_neg (by decide), hh 2998 (by omega)]
    simp only [Option.bind_some]
    rw [if_neg (by omega), if_pos trivial]
end Go.Proofs.YtnecbkognpponaaDoor.Pure
