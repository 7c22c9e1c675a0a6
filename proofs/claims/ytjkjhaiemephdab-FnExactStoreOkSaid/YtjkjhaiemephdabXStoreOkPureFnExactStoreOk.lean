import Derived.Test.YtjkjhaiemephdabXStoreOkQlawsFnExactStoreOk
/- Proved: for every list of records that the row lets in, the law FnExactStoreOk returns true; there are no other conditions. -/

set_option linter.unusedVariables false
set_option linter.unusedSimpArgs false
namespace Go.Proofs.Ytjkjhaiemephdab.Pure
open Go.RowKit Go.Proofs.Ytjkjhaiemephdab.Q Go.Proofs.YtjkjhaiemephdabW.PrintWords Go.Proofs.YtjkjhaiemephdabW.PrintLast

-- base
theorem w64 {x : Int} (h0 : -9223372036854775808 ≤ x) (h1 : x ≤ 9223372036854775807) : wrap64 x = x := by unfold wrap64; omega
theorem bt_b (s : ByteArray) (i : Int) : 0 ≤ bt s i ∧ bt s i < 256 := by have := bt_range s i; omega
theorem wbt (s : ByteArray) (i : Int) : wrap64 (bt s i) = bt s i := by have := bt_range s i; exact w64 (by omega) (by omega)
theorem tmodp {x m : Int} (h : 0 ≤ x) : Int.tmod x m = x % m := Int.tmod_eq_emod_of_nonneg h
theorem tdivp {x m : Int} (h : 0 ≤ x) : Int.tdiv x m = x / m := Int.tdiv_eq_ediv_of_nonneg h
/-- The bytes of a text, as numbers. -/
def B (s : ByteArray) : List Int := s.data.toList.map fun u => (u.toNat : Int)
def Byt (xs : List Int) : Prop := ∀ x ∈ xs, 0 ≤ x ∧ x < 256
theorem B_len (s : ByteArray) : (B s).length = s.size := by simp [B]
theorem B_byt (s : ByteArray) : Byt (B s) := by
  intro x hx
  obtain ⟨u, _, rfl⟩ := List.mem_map.1 hx
  have := u.toNat_lt
  omega
theorem B_str (xs : List Int) (h : Byt xs) : B (strOfNums xs) = xs := by
  simp only [B, strOfNums, List.map_map]
  conv => rhs; rw [← List.map_id xs]
  apply List.map_congr_left
  intro x hx
  have := h x hx
  simp only [Function.comp, UInt8.toNat_ofNat', id]
  omega
theorem str_B (s : ByteArray) : strOfNums (B s) = s := by
  apply Go.WideShapes.bytes_inj
  simp only [B, strOfNums, List.map_map]
  conv => rhs; rw [← List.map_id s.data.toList]
  apply List.map_congr_left
  intro x hx
  simp [Function.comp]
theorem B_inj {s t : ByteArray} (h : B s = B t) : s = t := by rw [← str_B s, ← str_B t, h]
theorem B_append (s t : ByteArray) : B (s ++ t) = B s ++ B t := by simp [B, ByteArray.data_append]
theorem B_extract (s : ByteArray) (a b : Nat) : B (s.extract a b) = ((B s).take b).drop a := by
  simp only [B, ByteArray.data_extract, Array.toList_extract, List.extract_eq_take_drop]
  rw [← List.map_take, ← List.map_drop, List.drop_take]
theorem B_bt (s : ByteArray) (i : Nat) (h : i < s.size) : (B s)[i]? = some (bt s i) := by
  have h' : i < s.data.toList.length := by rw [Array.length_toList]; exact h
  rw [B, List.getElem?_map, List.getElem?_eq_getElem h']
  simp [bt, h, ByteArray.getElem_eq_getElem_data]
theorem B_nil : B (⟨#[]⟩ : ByteArray) = [] := rfl
theorem tl_iff (s t : ByteArray) : s.toList = t.toList ↔ B s = B t := by
  rw [ByteArray.toList_eq, ByteArray.toList_eq]
  constructor
  · intro h; simp [B, h]
  · intro h; rw [B_inj h]
theorem byt_app {xs ys : List Int} (h : Byt xs) (k : Byt ys) : Byt (xs ++ ys) := by
  intro x hx
  rcases List.mem_append.1 hx with hx | hx
  · exact h x hx
  · exact k x hx
theorem wf_u32 {x : Int} (h : (Lit.int .u32 x).wf = true) : 0 ≤ x ∧ x < 4294967296 := by
  simp only [Lit.wf, IntKind.min, IntKind.max, IntKind.signed, IntKind.bits, Bool.and_eq_true, decide_eq_true_eq] at h
  simp at h
  omega
theorem wf_i64 {x : Int} (h : (Lit.int .i64 x).wf = true) : -9223372036854775808 ≤ x ∧ x ≤ 9223372036854775807 := by
  simp only [Lit.wf, IntKind.min, IntKind.max, IntKind.signed, IntKind.bits, Bool.and_eq_true, decide_eq_true_eq] at h
  simp at h
  omega
theorem ev_ex {α : Type} {g : Nat → Option α} {r : α} (h : Ev g r) : ∃ k, g k = some r := h.rounds

-- evtools
theorem ev_ite {α : Type} {c : Prop} [Decidable c] {g f : Nat → Option α} {r : α} (h : c → Ev g r) (k : ¬ c → Ev f r) : Ev (fun n => if c then g n else f n) r := by
  by_cases hc : c
  · exact Ev.congr (fun n => by rw [if_pos hc]) (h hc)
  · exact Ev.congr (fun n => by rw [if_neg hc]) (k hc)
theorem ev_pos {α : Type} {c : Prop} [Decidable c] {g f : Nat → Option α} {r : α} (hc : c) (h : Ev g r) : Ev (fun n => if c then g n else f n) r := Ev.congr (fun n => by rw [if_pos hc]) h
theorem ev_neg {α : Type} {c : Prop} [Decidable c] {g f : Nat → Option α} {r : α} (hc : ¬ c) (h : Ev f r) : Ev (fun n => if c then g n else f n) r := Ev.congr (fun n => by rw [if_neg hc]) h
theorem ev_some {α : Type} {x r : α} (h : x = r) : Ev (fun _ => some x) r := by rw [h]; exact Ev.now _
theorem ev_eq {α : Type} {x : Option α} {r : α} (h : x = some r) : Ev (fun _ => x) r := by rw [h]; exact Ev.now _
theorem ev_succ {α : Type} {g : Nat → Option α} {r : α} (h : Ev (fun k => g (k + 1)) r) : Ev g r := Ev.step (fun _ => rfl) h
theorem ev_to {α : Type} {g : Nat → Option α} {r r' : α} (h : Ev g r) (e : r = r') : Ev g r' := e ▸ h

-- lists
theorem set_mid {α : Type} (p : List α) (x y : α) (r : List α) (i : Nat) (h : p.length = i) : (p ++ x :: r).set i y = p ++ y :: r := by
  subst h
  simp
theorem drop_at {α : Type} (l : List α) (z : α) (i : Nat) (h : i < l.length) : l.drop i = l.getD i z :: l.drop (i + 1) := by
  rw [List.drop_eq_getElem_cons h, List.getD_eq_getElem?_getD, List.getElem?_eq_getElem h]
  rfl
theorem sz_left {n : Int} {len : Nat} {t : Int} (ht : t = if n < (len : Int) then -1 else n - len) (h : ¬ t < 0) (hn : n ≤ 1048576) (hn0 : 0 ≤ n) : len ≤ 1048576 ∧ 0 ≤ t ∧ t ≤ 1048576 ∧ t = n - len := by
  by_cases hc : n < (len : Int)
  · rw [if_pos hc] at ht; omega
  · rw [if_neg hc] at ht; omega

-- toNear
/-! Near: lists -/
def toNear1 (x : S121) : S99 := ⟨x.f0, x.f1⟩
def toNearL (l : List S121) : List S99 := l.map toNear1
theorem toNearL_len (l : List S121) : (toNearL l).length = l.length := by simp [toNearL]
theorem laws_toNearS_l0_ev (l : List S121) (hl : l.length ≤ 9223372036854775807) (d : Nat) : ∀ i : Nat, i + d = l.length →
    Ev (fun k => laws_toNearS.l0 k l ((toNearL l).take i ++ List.replicate d z99) i) (toNearL l) := by
  induction d with
  | zero =>
    intro i hi
    apply ev_succ
    simp only [laws_toNearS.l0]
    refine ev_neg (by omega) (ev_some ?_)
    rw [List.take_of_length_le (by rw [toNearL_len]; omega)]
    simp
  | succ d ih =>
    intro i hi
    have hr := ih (i + 1) (by omega)
    have hlt : i < (toNearL l).length := by rw [toNearL_len]; omega
    apply ev_succ
    simp only [laws_toNearS.l0, laws_toNear.f, Option.bind_some]
    have hset : ((toNearL l).take i ++ List.replicate (d + 1) z99).set ((i : Int).toNat) (⟨(rd_T121 l i).f0, (rd_T121 l i).f1⟩ : S99) = (toNearL l).take (i + 1) ++ List.replicate d z99 := by
      rw [List.replicate_succ, set_mid _ _ _ _ _ (by rw [List.length_take]; omega), List.take_succ_eq_append_getElem hlt]
      rw [List.append_assoc]
      congr 1
      simp only [List.singleton_append]
      congr 1
      have hli : i < l.length := by omega
      simp [toNearL, toNear1, rd_T121, List.getD_eq_getElem?_getD, hli]
    rw [hset, w64 (by omega) (by omega)]
    refine ev_pos (by omega) (ev_pos (by omega) (ev_pos ?_ hr))
    simp only [List.length_append, List.length_take, List.length_replicate, toNearL_len]
    omega
theorem laws_toNearS_ev (l : List S121) (hl : l.length ≤ 1048576) : Ev (fun k => laws_toNearS.f k l) (toNearL l) := by
  unfold laws_toNearS.f
  refine ev_pos (by omega) (ev_pos (by omega) ?_)
  exact laws_toNearS_l0_ev l (by omega) l.length 0 (by omega)

-- szNear
theorem laws_szNearS_eq (l : List S121) (hl : l.length ≤ 9223372036854775807) (n : Int) (h0 : 0 ≤ n) (h1 : n ≤ 1048576) : laws_szNearS.f l n = some (if n < (l.length : Int) then -1 else n - l.length) := by
  unfold laws_szNearS.f
  rw [w64 (by omega) (by omega)]
  by_cases h : n < (l.length : Int)
  · rw [if_pos (by omega), if_pos h]
  · rw [if_neg (by omega), if_neg h]

-- toRecord
theorem laws_toRecord_ev (a b c d e : Int) (l : List S121) (f : Int) (g : Bool) (hl : l.length ≤ 1048576) : Ev (fun k => laws_toRecord.f k a b c d e l f g) (a, b, c, d, e, toNearL l, f, g) := by
  unfold laws_toRecord.f
  exact Ev.bind (laws_toNearS_ev l hl) (Ev.now _)
theorem laws_szRecord_eq (a b c d e : Int) (l : List S121) (f : Int) (g : Bool) (hl : l.length ≤ 9223372036854775807) (n : Int) (h0 : 0 ≤ n) (h1 : n ≤ 1048576) :
    laws_szRecord.f a b c d e l f g n = some (if n < (l.length : Int) then -1 else n - l.length) := by
  unfold laws_szRecord.f
  rw [laws_szNearS_eq l hl n h0 h1, Option.bind_some]
  by_cases h : n < (l.length : Int)
  · rw [if_pos h, if_pos (by omega)]
  · rw [if_neg h, if_neg (by omega)]

-- eqNear
theorem laws_eqNear_refl (a b : Int) : laws_eqNear.f a b a b = some true := by
  unfold laws_eqNear.f
  simp
theorem laws_eqNearS_l0_ev (l : List S99) (hl : l.length ≤ 9223372036854775807) (d : Nat) : ∀ i : Nat, i + d = l.length → Ev (fun k => laws_eqNearS.l0 k l l i) true := by
  induction d with
  | zero =>
    intro i hi
    apply ev_succ
    simp only [laws_eqNearS.l0]
    exact ev_neg (by omega) (Ev.now _)
  | succ d ih =>
    intro i hi
    apply ev_succ
    simp only [laws_eqNearS.l0, laws_eqNear_refl, if_true, Option.bind_some]
    rw [w64 (by omega) (by omega)]
    exact ev_pos (by omega) (ev_pos (by omega) (ev_pos (by omega) (ih (i + 1) (by omega))))
theorem laws_eqNearS_refl (l : List S99) (hl : l.length ≤ 9223372036854775807) : Ev (fun k => laws_eqNearS.f k l l) true := by
  unfold laws_eqNearS.f
  exact ev_pos rfl (laws_eqNearS_l0_ev l hl l.length 0 (by omega))

-- eqRecord
theorem laws_eqRecord_refl (a b c d e : Int) (l : List S99) (f : Int) (g : Bool) (hl : l.length ≤ 9223372036854775807) : Ev (fun k => laws_eqRecord.f k a b c d e l f g a b c d e l f g) true := by
  unfold laws_eqRecord.f
  simp only [if_true]
  refine Ev.bind (laws_eqNearS_refl l hl) ?_
  simp
  exact Ev.now _

-- recs
def toRec1 (x : S46) : S52 := ⟨x.f0, x.f1, x.f2, x.f3, x.f4, toNearL x.f5, x.f6, x.f7⟩
def toRecL (l : List S46) : List S52 := l.map toRec1
theorem toRecL_len (l : List S46) : (toRecL l).length = l.length := by simp [toRecL]
/-- No list of a record is longer than can be counted. -/
def Lens (s : List S52) : Prop := s.length ≤ 9223372036854775000 ∧ ∀ x ∈ s, x.f5.length ≤ 9223372036854775000
theorem toRecL_lens (l : List S46) (hl : l.length ≤ 1048576) (hx : ∀ x ∈ l, x.f5.length ≤ 1048576) : Lens (toRecL l) := by
  refine ⟨by rw [toRecL_len]; omega, fun x h => ?_⟩
  obtain ⟨y, hy, rfl⟩ := List.mem_map.1 h
  have := hx y hy
  simp only [toRec1, toNearL_len]
  omega
theorem getD_mem {α : Type} (l : List α) (z : α) (i : Nat) (h : i < l.length) : l.getD i z ∈ l := by
  rw [List.getD_eq_getElem?_getD, List.getElem?_eq_getElem h]
  exact List.getElem_mem h
theorem laws_toRecordS_l0_ev (l : List S46) (hl : l.length ≤ 9223372036854775000) (hx : ∀ x ∈ l, x.f5.length ≤ 1048576) (d : Nat) : ∀ i : Nat, i + d = l.length →
    Ev (fun k => laws_toRecordS.l0 k l ((toRecL l).take i ++ List.replicate d z52) i) (toRecL l) := by
  induction d with
  | zero =>
    intro i hi
    apply ev_succ
    simp only [laws_toRecordS.l0]
    refine ev_neg (by omega) (ev_some ?_)
    rw [List.take_of_length_le (by rw [toRecL_len]; omega)]
    simp
  | succ d ih =>
    intro i hi
    have hr := ih (i + 1) (by omega)
    have hli : i < l.length := by omega
    have hlt : i < (toRecL l).length := by rw [toRecL_len]; omega
    obtain ⟨x, hxe⟩ : ∃ x, rd_T46 l (i : Int) = x := ⟨_, rfl⟩
    have hx2 : l.getD i z46 = x := hxe
    have hm : x ∈ l := by rw [← hx2]; exact getD_mem l _ i hli
    apply ev_succ
    simp only [laws_toRecordS.l0, hxe]
    have hset : ((toRecL l).take i ++ List.replicate (d + 1) z52).set ((i : Int).toNat) (toRec1 x) = (toRecL l).take (i + 1) ++ List.replicate d z52 := by
      rw [List.replicate_succ, set_mid _ _ _ _ _ (by rw [List.length_take]; omega), List.take_succ_eq_append_getElem hlt]
      rw [List.append_assoc]
      congr 1
      simp only [List.singleton_append]
      congr 1
      rw [← hx2]
      simp [toRecL, List.getD_eq_getElem?_getD, hli]
    refine ev_pos (by omega) (ev_pos (by omega) (Ev.bind (laws_toRecord_ev x.f0 x.f1 x.f2 x.f3 x.f4 x.f5 x.f6 x.f7 (hx x hm)) (ev_pos ?_ ?_)))
    · simp only [List.length_append, List.length_take, List.length_replicate, toRecL_len]
      omega
    · have hset' : ((toRecL l).take i ++ List.replicate (d + 1) z52).set ((i : Int).toNat) (⟨x.f0, x.f1, x.f2, x.f3, x.f4, toNearL x.f5, x.f6, x.f7⟩ : S52) = (toRecL l).take (i + 1) ++ List.replicate d z52 := hset
      simp only [hset']
      rw [w64 (by omega) (by omega)]
      exact hr
theorem laws_toRecordS_ev (l : List S46) (hl : l.length ≤ 1048576) (hx : ∀ x ∈ l, x.f5.length ≤ 1048576) : Ev (fun k => laws_toRecordS.f k l) (toRecL l) := by
  unfold laws_toRecordS.f
  refine ev_pos (by omega) (ev_pos (by omega) ?_)
  exact laws_toRecordS_l0_ev l (by omega) hx l.length 0 (by omega)
theorem laws_szRecordS_l0 (l : List S46) (hl : l.length ≤ 9223372036854775000) (hx : ∀ x ∈ l, x.f5.length ≤ 9223372036854775807) (d : Nat) : ∀ (i : Nat) (n : Int), i + d = l.length → 0 ≤ n → n ≤ 1048576 →
    (Ev (fun k => laws_szRecordS.l0 k l n i) (-1)) ∨ (∃ t, Ev (fun k => laws_szRecordS.l0 k l n i) t ∧ 0 ≤ t ∧ t ≤ n ∧ ∀ x ∈ l.drop i, x.f5.length ≤ 1048576) := by
  induction d with
  | zero =>
    intro i n hi h0 h1
    refine .inr ⟨n, ?_, h0, by omega, by rw [List.drop_eq_nil_of_le (by omega)]; simp⟩
    apply ev_succ
    simp only [laws_szRecordS.l0]
    exact ev_neg (by omega) (Ev.now _)
  | succ d ih =>
    intro i n hi h0 h1
    have hli : i < l.length := by omega
    obtain ⟨x, hxe⟩ : ∃ x, rd_T46 l (i : Int) = x := ⟨_, rfl⟩
    have hx2 : l.getD i z46 = x := hxe
    have hm : x ∈ l := by rw [← hx2]; exact getD_mem l _ i hli
    have key : ∀ r, (n < (x.f5.length : Int) → r = -1) → (¬ n < (x.f5.length : Int) → Ev (fun k => laws_szRecordS.l0 k l (n - x.f5.length) ((i : Int) + 1)) r) → Ev (fun k => laws_szRecordS.l0 k l n i) r := by
      intro r ha hb
      apply ev_succ
      simp only [laws_szRecordS.l0, hxe]
      rw [laws_szRecord_eq x.f0 x.f1 x.f2 x.f3 x.f4 x.f5 x.f6 x.f7 (hx x hm) n h0 h1, w64 (by omega) (by omega)]
      simp only [Option.bind_some]
      refine ev_pos (by omega) (ev_pos (by omega) ?_)
      by_cases hc : n < (x.f5.length : Int)
      · rw [if_pos hc]
        rw [ha hc]
        exact ev_pos (by omega) (Ev.now _)
      · rw [if_neg hc]
        exact ev_neg (by omega) (hb hc)
    by_cases hc : n < (x.f5.length : Int)
    · exact .inl (key _ (fun _ => rfl) (fun h => absurd hc h))
    · rcases ih (i + 1) (n - x.f5.length) (by omega) (by omega) (by omega) with h | ⟨t, h, h2, h3, h4⟩
      · exact .inl (key _ (fun h => absurd h hc) (fun _ => h))
      · refine .inr ⟨t, key _ (fun h => absurd h hc) (fun _ => h), h2, by omega, fun y hy => ?_⟩
        rw [drop_at l z46 i hli, hx2] at hy
        rcases List.mem_cons.1 hy with rfl | hy
        · omega
        · exact h4 y hy
theorem laws_szRecordS_cases (l : List S46) (hl : l.length ≤ 9223372036854775807) (hx : ∀ x ∈ l, x.f5.length ≤ 9223372036854775807) (n : Int) (h0 : 0 ≤ n) (h1 : n ≤ 1048576) :
    (Ev (fun k => laws_szRecordS.f k l n) (-1)) ∨ (∃ t, Ev (fun k => laws_szRecordS.f k l n) t ∧ 0 ≤ t ∧ t ≤ n ∧ l.length ≤ 1048576 ∧ ∀ x ∈ l, x.f5.length ≤ 1048576) := by
  unfold laws_szRecordS.f
  rw [w64 (by omega) (by omega)]
  by_cases hc : n < (l.length : Int)
  · exact .inl (ev_pos (by omega) (Ev.now _))
  · rcases laws_szRecordS_l0 l (by omega) hx l.length 0 (n - l.length) (by omega) (by omega) (by omega) with h | ⟨t, h, h2, h3, h4⟩
    · exact .inl (ev_neg (by omega) h)
    · exact .inr ⟨t, ev_neg (by omega) h, h2, by omega, by omega, fun x hm => h4 x (by simpa using hm)⟩
theorem laws_eqRecordS_l0_ev (l : List S52) (hl : Lens l) (d : Nat) : ∀ i : Nat, i + d = l.length → Ev (fun k => laws_eqRecordS.l0 k l l i) true := by
  induction d with
  | zero =>
    intro i hi
    apply ev_succ
    simp only [laws_eqRecordS.l0]
    exact ev_neg (by omega) (Ev.now _)
  | succ d ih =>
    intro i hi
    have h1 := hl.1
    obtain ⟨x, hxe⟩ : ∃ x, rd_T52 l (i : Int) = x := ⟨_, rfl⟩
    have hx2 : l.getD i z52 = x := hxe
    have hm : x ∈ l := by rw [← hx2]; exact getD_mem l _ i (by omega)
    have h2 := hl.2 x hm
    apply ev_succ
    simp only [laws_eqRecordS.l0, hxe]
    rw [w64 (by omega) (by omega)]
    refine ev_pos (by omega) (ev_pos (by omega) (ev_pos (by omega) (Ev.bind (laws_eqRecord_refl _ _ _ _ _ _ _ _ (by omega)) (ev_pos rfl (ih (i + 1) (by omega))))))
theorem laws_eqRecordS_refl (l : List S52) (hl : Lens l) : Ev (fun k => laws_eqRecordS.f k l l) true := by
  unfold laws_eqRecordS.f
  exact ev_pos rfl (laws_eqRecordS_l0_ev l hl l.length 0 (by omega))

-- keys
def sameKey (a b : S52) : Bool := decide (a.f0 = b.f0 ∧ a.f1 = b.f1 ∧ a.f2 = b.f2 ∧ a.f3 = b.f3)
def beforeB (a b : S52) : Bool := decide (a.f0 < b.f0 ∨ a.f0 = b.f0 ∧ (a.f1 < b.f1 ∨ a.f1 = b.f1 ∧ (a.f2 < b.f2 ∨ a.f2 = b.f2 ∧ a.f3 < b.f3)))
/-- The place of a key from place i on, -1 without one. -/
def keyGo (r : S52) : List S52 → Int → Int
  | [], _ => -1
  | x :: xs, i => if sameKey x r = true then i else keyGo r xs (i + 1)
def keyB (s : List S52) (r : S52) : Int := keyGo r s 0
theorem keyGo_cases (r : S52) (xs : List S52) : ∀ i : Int, (keyGo r xs i = -1 ∧ ∀ x ∈ xs, sameKey x r = false) ∨ (∃ j : Nat, j < xs.length ∧ keyGo r xs i = i + j ∧ sameKey (xs.getD j z52) r = true ∧ ∀ q : Nat, q < j → sameKey (xs.getD q z52) r = false) := by
  induction xs with
  | nil => intro i; exact .inl ⟨rfl, by simp⟩
  | cons x xs ih =>
    intro i
    by_cases h : sameKey x r = true
    · refine .inr ⟨0, by simp, ?_, h, fun q hq => by omega⟩
      rw [keyGo, if_pos h]; omega
    · rw [keyGo, if_neg h]
      rcases ih (i + 1) with ⟨h1, h2⟩ | ⟨j, h1, h2, h3, h4⟩
      · refine .inl ⟨h1, fun y hy => ?_⟩
        rcases List.mem_cons.1 hy with rfl | hy
        · simpa using h
        · exact h2 y hy
      · refine .inr ⟨j + 1, by simp only [List.length_cons]; omega, by rw [h2]; omega, h3, fun q hq => ?_⟩
        cases q with
        | zero => simpa using h
        | succ q => exact h4 q (by omega)
theorem keyB_cases (s : List S52) (r : S52) : (keyB s r = -1 ∧ ∀ x ∈ s, sameKey x r = false) ∨ (∃ j : Nat, j < s.length ∧ keyB s r = j ∧ sameKey (s.getD j z52) r = true ∧ ∀ q : Nat, q < j → sameKey (s.getD q z52) r = false) := by
  rcases keyGo_cases r s 0 with h | ⟨j, h1, h2, h3⟩
  · exact .inl h
  · exact .inr ⟨j, h1, by rw [keyB, h2]; omega, h3⟩

-- spec_l01In
theorem spec_l01In_eq (a b c : Int) : spec_l01In.f a b c = some (decide (b ≤ a ∧ a ≤ c)) := by
  unfold spec_l01In.f
  by_cases h : a ≥ b
  · rw [if_pos h]; congr 1; simp; omega
  · rw [if_neg h]; congr 1; simp; omega

-- impl_in
theorem impl_in_eq (a b c : Int) : impl_in.f a b c = some (decide (b ≤ a ∧ a ≤ c)) := by
  unfold impl_in.f
  by_cases h : a ≥ b
  · rw [if_pos h]; congr 1; simp; omega
  · rw [if_neg h]; congr 1; simp; omega

-- near
/-- What is near ascends, and is right; the one before, if there is one. -/
def nearGo (ow : Int) : Option Int → List S99 → Bool
  | _, [] => true
  | p, x :: xs => decide (1 ≤ x.f0 ∧ x.f0 ≤ 6) && !decide (x.f0 = ow) && decide (1 ≤ x.f1 ∧ x.f1 ≤ 1000) && p.all (fun y => decide (y < x.f0)) && nearGo ow (some x.f0) xs
def nearB (ow : Int) (l : List S99) : Bool := nearGo ow none l
def pvN (l : List S99) (i : Nat) : Option Int := if i = 0 then none else some (l.getD (i - 1) z99).f0
theorem pvN_succ (l : List S99) (i : Nat) : pvN l (i + 1) = some (l.getD i z99).f0 := by simp [pvN]
theorem pvN_zero (l : List S99) : pvN l 0 = none := rfl
theorem rdN (l : List S99) (i : Nat) : rd_T99 l (i : Int) = l.getD i z99 := rfl
theorem rdNp (l : List S99) (i : Nat) (h : 0 < i) (hl : i < 9223372036854775807) : rd_T99 l (wrap64 ((i : Int) - 1)) = l.getD (i - 1) z99 := by
  rw [w64 (by omega) (by omega), show (i : Int) - 1 = ((i - 1 : Nat) : Int) by omega]
  rfl

-- rec
/-- Is what a record holds right for its kind? -/
def recK (ar ki ow ke : Int) (l : List S99) (co : Int) (fa : Bool) : Bool :=
  if ki = 1 then decide (0 ≤ ar ∧ ar ≤ 2) && decide (ke = 0) && nearB ow l && decide (co = 0) && !fa
  else if ki = 2 then decide (0 ≤ ar ∧ ar ≤ 2) && decide (1 ≤ ke ∧ ke ≤ 6) && decide (l.length = 0) && decide (0 ≤ co ∧ co ≤ 60000) && !fa
  else if ki = 3 then decide (ar = 9) && decide (1 ≤ ke ∧ ke ≤ 9) && decide (l.length = 0) && (decide (1 ≤ co ∧ co ≤ 1000) || (co == 60000))
  else false
def recB (ar ki ow ke se : Int) (l : List S99) (co : Int) (fa : Bool) : Bool := decide (1 ≤ ow ∧ ow ≤ 6) && decide (1 ≤ se ∧ se ≤ 100000) && recK ar ki ow ke l co fa

-- store
def recR (r : S52) : Bool := recB r.f0 r.f1 r.f2 r.f3 r.f4 r.f5 r.f6 r.f7
/-- Right records, one ahead of the other; the one before, if there is one. -/
def storeGo : Option S52 → List S52 → Bool
  | _, [] => true
  | p, x :: xs => recR x && p.all (fun y => beforeB y x) && storeGo (some x) xs
def storeB (s : List S52) : Bool := decide (s.length ≤ 150) && storeGo none s
def pvR (l : List S52) (i : Nat) : Option S52 := if i = 0 then none else some (l.getD (i - 1) z52)
theorem pvR_succ (l : List S52) (i : Nat) : pvR l (i + 1) = some (l.getD i z52) := by simp [pvR]
theorem rdRp (l : List S52) (i : Nat) (h : 0 < i) (hl : i < 9223372036854775807) : rd_T52 l (wrap64 ((i : Int) - 1)) = l.getD (i - 1) z52 := by
  rw [w64 (by omega) (by omega), show (i : Int) - 1 = ((i - 1 : Nat) : Int) by omega]
  rfl

-- spec_Before
theorem spec_Before_eq (a b : S52) : spec_Before.f a.f0 a.f1 a.f2 a.f3 a.f4 a.f5 a.f6 a.f7 b.f0 b.f1 b.f2 b.f3 b.f4 b.f5 b.f6 b.f7 = some (beforeB a b) := by
  unfold spec_Before.f beforeB
  by_cases h0 : a.f0 = b.f0
  · by_cases h1 : a.f1 = b.f1
    · by_cases h2 : a.f2 = b.f2
      · rw [if_pos h0, if_pos h1, if_pos h2]
        congr 1
        rw [Bool.eq_iff_iff, decide_eq_true_eq, decide_eq_true_eq]
        omega
      · rw [if_pos h0, if_pos h1, if_neg h2]
        congr 1
        rw [Bool.eq_iff_iff, decide_eq_true_eq, decide_eq_true_eq]
        omega
    · rw [if_pos h0, if_neg h1]
      congr 1
      rw [Bool.eq_iff_iff, decide_eq_true_eq, decide_eq_true_eq]
      omega
  · rw [if_neg h0]
    congr 1
    rw [Bool.eq_iff_iff, decide_eq_true_eq, decide_eq_true_eq]
    omega

-- spec_l04Near
theorem spec_l04Near_l0_ev (q0 q1 ow q3 q4 q6 : Int) (q7 : Bool) (l : List S99) (hl : l.length ≤ 9223372036854775807) (d : Nat) : ∀ i : Nat, i + d = l.length →
    Ev (fun k => spec_l04Near.l0 k i q0 q1 ow q3 q4 l q6 q7) (nearGo ow (pvN l i) (l.drop i)) := by
  induction d with
  | zero =>
    intro i hi
    rw [List.drop_eq_nil_of_le (by omega)]
    apply ev_succ
    simp only [spec_l04Near.l0]
    exact ev_neg (by omega) (ev_some rfl)
  | succ d ih =>
    intro i hi
    have hr := ih (i + 1) (by omega)
    obtain ⟨x, hx⟩ : ∃ x, rd_T99 l (i : Int) = x := ⟨_, rfl⟩
    have hx2 : l.getD i z99 = x := hx
    rw [pvN_succ, hx2] at hr
    rw [drop_at l z99 i (by omega), hx2]
    apply ev_succ
    simp only [spec_l04Near.l0, spec_l01In_eq, Option.bind_some, decide_eq_true_eq, hx]
    rw [nearGo]
    refine ev_pos (by omega) (ev_pos (by omega) ?_)
    refine ev_ite (fun h1 => ?_) (fun h1 => ev_some (by rw [decide_eq_false h1]; rfl))
    refine ev_ite (fun h2 => ev_some (by rw [decide_eq_true h1, decide_eq_true h2]; rfl)) (fun h2 => ?_)
    refine ev_ite (fun h3 => ?_) (fun h3 => ev_some (by rw [decide_eq_true h1, decide_eq_false h2, decide_eq_false h3]; rfl))
    refine ev_ite (fun h4 => ?_) (fun h4 => ?_)
    · have h0 : 0 < i := by omega
      refine ev_pos (by rw [w64 (by omega) (by omega)]; omega) (ev_pos (by rw [w64 (by omega) (by omega)]; omega) ?_)
      have hp : pvN l i = some (l.getD (i - 1) z99).f0 := by unfold pvN; rw [if_neg (by omega)]
      rw [hp, rdNp l i h0 (by omega)]
      refine ev_ite (fun h5 => ev_some ?_) (fun h5 => ?_)
      · have h6 : ¬ ((l.getD (i - 1) z99).f0 < x.f0) := by omega
        simp only [Option.all_some, decide_eq_false h6, Bool.and_false, Bool.false_and]
      · have h6 : (l.getD (i - 1) z99).f0 < x.f0 := by omega
        rw [w64 (by omega) (by omega)]
        refine ev_to hr ?_
        simp only [Option.all_some, decide_eq_true h6, decide_eq_true h1, decide_eq_false h2, decide_eq_true h3, Bool.true_and, Bool.not_false]
    · have h0 : i = 0 := by omega
      have hp : pvN l i = none := by rw [h0]; rfl
      rw [hp, w64 (by omega) (by omega)]
      refine ev_to hr ?_
      simp only [Option.all_none, decide_eq_true h1, decide_eq_false h2, decide_eq_true h3, Bool.true_and, Bool.not_false]
theorem spec_l04Near_ev (q0 q1 ow q3 q4 q6 : Int) (q7 : Bool) (l : List S99) (hl : l.length ≤ 9223372036854775807) : Ev (fun k => spec_l04Near.f k q0 q1 ow q3 q4 l q6 q7) (nearB ow l) :=
  spec_l04Near_l0_ev q0 q1 ow q3 q4 q6 q7 l hl l.length 0 (by omega)

-- spec_RecordOk
/-! spec_RecordOk -/
theorem spec_RecordOk_ev (ar ki ow ke se : Int) (l : List S99) (co : Int) (fa : Bool) (hl : l.length ≤ 9223372036854775807) : Ev (fun k => spec_RecordOk.f k ar ki ow ke se l co fa) (recB ar ki ow ke se l co fa) := by
  have hj : ∀ b : Bool, Ev (fun k => spec_RecordOk.j0 k b ar ki ow ke se l co fa) (!b && recK ar ki ow ke l co fa) := by
    intro b
    apply ev_succ
    simp only [spec_RecordOk.j0, spec_l01In_eq, Option.bind_some, decide_eq_true_eq]
    refine ev_ite (fun hb => ev_some (by simp [hb])) (fun hb => ?_)
    have hb' : b = false := by simpa using hb
    rw [hb']
    unfold recK
    refine ev_ite (fun h1 => ?_) (fun h1 => ?_)
    · rw [if_pos h1]
      refine ev_ite (fun h2 => ?_) (fun h2 => ev_some (by simp [h2]))
      refine ev_ite (fun h3 => ?_) (fun h3 => ev_some (by simp [h3]))
      refine Ev.bind (spec_l04Near_ev ar ki ow ke se co fa l hl) ?_
      refine ev_ite (fun h4 => ?_) (fun h4 => ev_some (by simp [h4]))
      refine ev_ite (fun h5 => ev_some ?_) (fun h5 => ev_some (by simp [h5]))
      simp [h2, h3, h4, h5]
    · rw [if_neg h1]
      refine ev_ite (fun h1 => ?_) (fun h1 => ?_)
      · rw [if_pos h1]
        refine ev_ite (fun h2 => ?_) (fun h2 => ev_some (by simp [h2]))
        refine ev_ite (fun h3 => ?_) (fun h3 => ev_some (by simp [h3]))
        refine ev_ite (fun h4 => ?_) (fun h4 => ev_some ?_)
        · have h4' : l.length = 0 := by omega
          refine ev_ite (fun h5 => ev_some ?_) (fun h5 => ev_some (by simp [h5]))
          simp [h2, h3, h4', h5]
        · have h4' : ¬ l.length = 0 := by omega
          simp [h4']
      · rw [if_neg h1]
        refine ev_ite (fun h1 => ?_) (fun h1 => ?_)
        · rw [if_pos h1]
          refine ev_ite (fun h2 => ?_) (fun h2 => ev_some (by simp [h2]))
          refine ev_ite (fun h3 => ?_) (fun h3 => ev_some (by simp [h3]))
          refine ev_ite (fun h4 => ?_) (fun h4 => ev_some ?_)
          · have h4' : l.length = 0 := by omega
            refine ev_ite (fun h5 => ev_some ?_) (fun h5 => ev_some ?_)
            · simp [h2, h3, h4', h5]
            · simp [h2, h3, h4', h5]
          · have h4' : ¬ l.length = 0 := by omega
            simp [h4']
        · rw [if_neg h1]
          exact ev_some (by simp)
  unfold spec_RecordOk.f
  simp only [spec_l01In_eq, Option.bind_some, decide_eq_true_eq]
  unfold recB
  refine ev_ite (fun h1 => ?_) (fun h1 => ?_)
  · exact ev_to (hj _) (by simp [h1])
  · exact ev_to (hj _) (by simp [h1])

-- spec_StoreOk
theorem spec_StoreOk_l0_ev (l : List S52) (hl : Lens l) (d : Nat) : ∀ i : Nat, i + d = l.length →
    Ev (fun k => spec_StoreOk.l0 k l i) (storeGo (pvR l i) (l.drop i)) := by
  have hl1 := hl.1
  induction d with
  | zero =>
    intro i hi
    rw [List.drop_eq_nil_of_le (by omega)]
    apply ev_succ
    simp only [spec_StoreOk.l0]
    exact ev_neg (by omega) (ev_some (by simp [storeGo]))
  | succ d ih =>
    intro i hi
    have hr := ih (i + 1) (by omega)
    obtain ⟨x, hx⟩ : ∃ x, rd_T52 l (i : Int) = x := ⟨_, rfl⟩
    have hx2 : l.getD i z52 = x := hx
    have hm : x ∈ l := by rw [← hx2]; exact getD_mem l _ i (by omega)
    have hn := hl.2 x hm
    rw [pvR_succ, hx2] at hr
    rw [drop_at l z52 i (by omega), hx2, storeGo]
    apply ev_succ
    simp only [spec_StoreOk.l0, hx]
    rw [w64 (x := (i : Int) + 1) (by omega) (by omega)]
    refine ev_pos (by omega) (ev_pos (by omega) ?_)
    refine Ev.bind (spec_RecordOk_ev x.f0 x.f1 x.f2 x.f3 x.f4 x.f5 x.f6 x.f7 (by omega)) ?_
    have hrec : recB x.f0 x.f1 x.f2 x.f3 x.f4 x.f5 x.f6 x.f7 = recR x := rfl
    rw [hrec]
    refine ev_ite (fun h1 => ?_) (fun h1 => ev_some (by simp [h1]))
    refine ev_ite (fun h2 => ?_) (fun h2 => ?_)
    · have h0 : 0 < i := by omega
      have hp : pvR l i = some (l.getD (i - 1) z52) := by unfold pvR; rw [if_neg (by omega)]
      rw [hp]
      simp only [rdRp l i h0 (by omega), spec_Before_eq, Option.bind_some]
      refine ev_pos (by rw [w64 (by omega) (by omega)]; omega) (ev_pos (by rw [w64 (by omega) (by omega)]; omega) ?_)
      refine ev_ite (fun h3 => ?_) (fun h3 => ev_some ?_)
      · refine ev_to hr ?_
        simp only [Option.all_some, h1, h3, Bool.true_and]
      · have h3' : beforeB (l.getD (i - 1) z52) x = false := by simpa using h3
        simp only [Option.all_some, h3', Bool.and_false, Bool.false_and]
    · have h0 : i = 0 := by omega
      have hp : pvR l i = none := by rw [h0]; rfl
      rw [hp]
      refine ev_to hr ?_
      simp [h1]
theorem spec_StoreOk_ev (l : List S52) (hl : Lens l) : Ev (fun k => spec_StoreOk.f k l) (storeB l) := by
  unfold spec_StoreOk.f storeB
  refine ev_ite (fun h => ev_some ?_) (fun h => ?_)
  · rw [decide_eq_false (by omega), Bool.false_and]
  · rw [decide_eq_true (by omega), Bool.true_and]
    exact spec_StoreOk_l0_ev l hl l.length 0 (by omega)

-- impl_Before
theorem impl_Before_eq (a b : S52) : impl_Before.f a.f0 a.f1 a.f2 a.f3 a.f4 a.f5 a.f6 a.f7 b.f0 b.f1 b.f2 b.f3 b.f4 b.f5 b.f6 b.f7 = some (beforeB a b) := by
  unfold impl_Before.f beforeB
  by_cases h0 : a.f0 = b.f0
  · by_cases h1 : a.f1 = b.f1
    · by_cases h2 : a.f2 = b.f2
      · rw [if_pos h0, if_pos h1, if_pos h2]
        congr 1
        rw [Bool.eq_iff_iff, decide_eq_true_eq, decide_eq_true_eq]
        omega
      · rw [if_pos h0, if_pos h1, if_neg h2]
        congr 1
        rw [Bool.eq_iff_iff, decide_eq_true_eq, decide_eq_true_eq]
        omega
    · rw [if_pos h0, if_neg h1]
      congr 1
      rw [Bool.eq_iff_iff, decide_eq_true_eq, decide_eq_true_eq]
      omega
  · rw [if_neg h0]
    congr 1
    rw [Bool.eq_iff_iff, decide_eq_true_eq, decide_eq_true_eq]
    omega

-- impl_nearOk
theorem impl_nearOk_l0_ev (q0 q1 ow q3 q4 q6 : Int) (q7 : Bool) (l : List S99) (hl : l.length ≤ 9223372036854775807) (d : Nat) : ∀ i : Nat, i + d = l.length →
    Ev (fun k => impl_nearOk.l0 k l (l.length : Int) i q0 q1 ow q3 q4 l q6 q7) (nearGo ow (pvN l i) (l.drop i)) := by
  induction d with
  | zero =>
    intro i hi
    rw [List.drop_eq_nil_of_le (by omega)]
    apply ev_succ
    simp only [impl_nearOk.l0]
    exact ev_neg (by omega) (ev_some rfl)
  | succ d ih =>
    intro i hi
    have hr := ih (i + 1) (by omega)
    obtain ⟨x, hx⟩ : ∃ x, rd_T99 l (i : Int) = x := ⟨_, rfl⟩
    have hx2 : l.getD i z99 = x := hx
    rw [pvN_succ, hx2] at hr
    rw [drop_at l z99 i (by omega), hx2]
    apply ev_succ
    simp only [impl_nearOk.l0, impl_in_eq, Option.bind_some, decide_eq_true_eq, hx]
    rw [nearGo]
    refine ev_pos (by omega) (ev_pos (by omega) (ev_pos (by omega) ?_))
    refine ev_ite (fun h1 => ?_) (fun h1 => ev_some (by rw [decide_eq_false h1]; rfl))
    refine ev_ite (fun h2 => ev_some (by rw [decide_eq_true h1, decide_eq_true h2]; rfl)) (fun h2 => ?_)
    refine ev_ite (fun h3 => ?_) (fun h3 => ev_some (by rw [decide_eq_true h1, decide_eq_false h2, decide_eq_false h3]; rfl))
    refine ev_ite (fun h4 => ?_) (fun h4 => ?_)
    · have h0 : 0 < i := by omega
      refine ev_pos (by rw [w64 (by omega) (by omega)]; omega) (ev_pos (by rw [w64 (by omega) (by omega)]; omega) ?_)
      have hp : pvN l i = some (l.getD (i - 1) z99).f0 := by unfold pvN; rw [if_neg (by omega)]
      rw [hp, rdNp l i h0 (by omega)]
      refine ev_ite (fun h5 => ev_some ?_) (fun h5 => ?_)
      · have h6 : ¬ ((l.getD (i - 1) z99).f0 < x.f0) := by omega
        simp only [Option.all_some, decide_eq_false h6, Bool.and_false, Bool.false_and]
      · have h6 : (l.getD (i - 1) z99).f0 < x.f0 := by omega
        rw [w64 (by omega) (by omega)]
        refine ev_to hr ?_
        simp only [Option.all_some, decide_eq_true h6, decide_eq_true h1, decide_eq_false h2, decide_eq_true h3, Bool.true_and, Bool.not_false]
    · have h0 : i = 0 := by omega
      have hp : pvN l i = none := by rw [h0]; rfl
      rw [hp, w64 (by omega) (by omega)]
      refine ev_to hr ?_
      simp only [Option.all_none, decide_eq_true h1, decide_eq_false h2, decide_eq_true h3, Bool.true_and, Bool.not_false]
theorem impl_nearOk_ev (q0 q1 ow q3 q4 q6 : Int) (q7 : Bool) (l : List S99) (hl : l.length ≤ 9223372036854775807) : Ev (fun k => impl_nearOk.f k q0 q1 ow q3 q4 l q6 q7) (nearB ow l) :=
  impl_nearOk_l0_ev q0 q1 ow q3 q4 q6 q7 l hl l.length 0 (by omega)

-- impl_RecordOk
/-! impl_RecordOk -/
theorem impl_RecordOk_ev (ar ki ow ke se : Int) (l : List S99) (co : Int) (fa : Bool) (hl : l.length ≤ 9223372036854775807) : Ev (fun k => impl_RecordOk.f k ar ki ow ke se l co fa) (recB ar ki ow ke se l co fa) := by
  have hj : ∀ b : Bool, Ev (fun k => impl_RecordOk.j0 k b ar ki ow ke se l co fa) (!b && recK ar ki ow ke l co fa) := by
    intro b
    apply ev_succ
    simp only [impl_RecordOk.j0, impl_in_eq, Option.bind_some, decide_eq_true_eq]
    refine ev_ite (fun hb => ev_some (by simp [hb])) (fun hb => ?_)
    have hb' : b = false := by simpa using hb
    rw [hb']
    unfold recK
    refine ev_ite (fun h1 => ?_) (fun h1 => ?_)
    · rw [if_pos h1]
      refine ev_ite (fun h2 => ?_) (fun h2 => ev_some (by simp [h2]))
      refine ev_ite (fun h3 => ?_) (fun h3 => ev_some (by simp [h3]))
      refine Ev.bind (impl_nearOk_ev ar ki ow ke se co fa l hl) ?_
      refine ev_ite (fun h4 => ?_) (fun h4 => ev_some (by simp [h4]))
      refine ev_ite (fun h5 => ev_some ?_) (fun h5 => ev_some (by simp [h5]))
      simp [h2, h3, h4, h5]
    · rw [if_neg h1]
      refine ev_ite (fun h1 => ?_) (fun h1 => ?_)
      · rw [if_pos h1]
        refine ev_ite (fun h2 => ?_) (fun h2 => ev_some (by simp [h2]))
        refine ev_ite (fun h3 => ?_) (fun h3 => ev_some (by simp [h3]))
        refine ev_ite (fun h4 => ?_) (fun h4 => ev_some ?_)
        · have h4' : l.length = 0 := by omega
          refine ev_ite (fun h5 => ev_some ?_) (fun h5 => ev_some (by simp [h5]))
          simp [h2, h3, h4', h5]
        · have h4' : ¬ l.length = 0 := by omega
          simp [h4']
      · rw [if_neg h1]
        refine ev_ite (fun h1 => ?_) (fun h1 => ?_)
        · rw [if_pos h1]
          refine ev_ite (fun h2 => ?_) (fun h2 => ev_some (by simp [h2]))
          refine ev_ite (fun h3 => ?_) (fun h3 => ev_some (by simp [h3]))
          refine ev_ite (fun h4 => ?_) (fun h4 => ev_some ?_)
          · have h4' : l.length = 0 := by omega
            refine ev_ite (fun h5 => ev_some ?_) (fun h5 => ev_some ?_)
            · simp [h2, h3, h4', h5]
            · simp [h2, h3, h4', h5]
          · have h4' : ¬ l.length = 0 := by omega
            simp [h4']
        · rw [if_neg h1]
          exact ev_some (by simp)
  unfold impl_RecordOk.f
  simp only [impl_in_eq, Option.bind_some, decide_eq_true_eq]
  unfold recB
  refine ev_ite (fun h1 => ?_) (fun h1 => ?_)
  · exact ev_to (hj _) (by simp [h1])
  · exact ev_to (hj _) (by simp [h1])

-- impl_StoreOk
theorem impl_StoreOk_l0_ev (l : List S52) (hl : Lens l) (d : Nat) : ∀ i : Nat, i + d = l.length →
    Ev (fun k => impl_StoreOk.l0 k l l (l.length : Int) i) (decide (l.length ≤ 150) && storeGo (pvR l i) (l.drop i)) := by
  have hl1 := hl.1
  induction d with
  | zero =>
    intro i hi
    rw [List.drop_eq_nil_of_le (by omega)]
    apply ev_succ
    simp only [impl_StoreOk.l0]
    exact ev_neg (by omega) (ev_some (by rw [storeGo, Bool.and_true]; by_cases h : l.length ≤ 150 <;> simp [h] <;> omega))
  | succ d ih =>
    intro i hi
    have hr := ih (i + 1) (by omega)
    obtain ⟨x, hx⟩ : ∃ x, rd_T52 l (i : Int) = x := ⟨_, rfl⟩
    have hx2 : l.getD i z52 = x := hx
    have hm : x ∈ l := by rw [← hx2]; exact getD_mem l _ i (by omega)
    have hn := hl.2 x hm
    rw [pvR_succ, hx2] at hr
    rw [drop_at l z52 i (by omega), hx2, storeGo]
    apply ev_succ
    simp only [impl_StoreOk.l0, hx]
    rw [w64 (x := (i : Int) + 1) (by omega) (by omega)]
    refine ev_pos (by omega) (ev_pos (by omega) (ev_pos (by omega) ?_))
    refine Ev.bind (impl_RecordOk_ev x.f0 x.f1 x.f2 x.f3 x.f4 x.f5 x.f6 x.f7 (by omega)) ?_
    have hrec : recB x.f0 x.f1 x.f2 x.f3 x.f4 x.f5 x.f6 x.f7 = recR x := rfl
    rw [hrec]
    refine ev_ite (fun h1 => ?_) (fun h1 => ev_some (by simp [h1]))
    refine ev_ite (fun h2 => ?_) (fun h2 => ?_)
    · have h0 : 0 < i := by omega
      have hp : pvR l i = some (l.getD (i - 1) z52) := by unfold pvR; rw [if_neg (by omega)]
      rw [hp]
      simp only [rdRp l i h0 (by omega), impl_Before_eq, Option.bind_some]
      refine ev_pos (by rw [w64 (by omega) (by omega)]; omega) (ev_pos (by rw [w64 (by omega) (by omega)]; omega) ?_)
      refine ev_ite (fun h3 => ?_) (fun h3 => ev_some ?_)
      · refine ev_to hr ?_
        simp only [Option.all_some, h1, h3, Bool.true_and]
      · have h3' : beforeB (l.getD (i - 1) z52) x = false := by simpa using h3
        simp only [Option.all_some, h3', Bool.and_false, Bool.false_and]
    · have h0 : i = 0 := by omega
      have hp : pvR l i = none := by rw [h0]; rfl
      rw [hp]
      refine ev_to hr ?_
      simp [h1]
theorem impl_StoreOk_ev (l : List S52) (hl : Lens l) : Ev (fun k => impl_StoreOk.f k l) (storeB l) :=
  impl_StoreOk_l0_ev l hl l.length 0 (by omega)

-- FnExactStoreOk
theorem FnExactStoreOk : ∀ (l0 : List (S46)), (l0.length ≤ 9223372036854775807) → (∀ x ∈ l0, x.f5.length ≤ 9223372036854775807) → ∃ k, laws_FnExactStoreOk.f k l0 = some true := by
  intro l hl hx
  refine ev_ex ?_
  unfold laws_FnExactStoreOk.f
  rcases laws_szRecordS_cases l hl hx 1048576 (by omega) (by omega) with h | ⟨t, h, h1, h2, h3, h4⟩
  · exact Ev.bind h (ev_pos (by omega) (Ev.now _))
  · refine Ev.bind h (ev_neg (by omega) ?_)
    have T := laws_toRecordS_ev l h3 h4
    have hL := toRecL_lens l h3 h4
    refine Ev.bind T (Ev.bind (spec_StoreOk_ev _ hL) (Ev.bind T (Ev.bind (impl_StoreOk_ev _ hL) ?_)))
    refine ev_neg (by simp) (Ev.bind T (Ev.bind (laws_eqRecordS_refl _ hL) ?_))
    exact ev_pos rfl (Ev.now _)

end Go.Proofs.Ytjkjhaiemephdab.Pure
