/- Proved: for every store, area and two nodes that the row lets in, the law FnExactLinked returns true; there are no other conditions. -/
import Derived.Test.YtjkjhaiemephdabQlawsFnExactLinked
set_option linter.unusedVariables false
set_option linter.unusedSimpArgs false
namespace Go.Proofs.Ytjkjhaiemephdab.Pure
open Go.RowKit Go.Proofs.Ytjkjhaiemephdab.Q Go.Proofs.YtjkjhaiemephdabW.PrintWords Go.Proofs.YtjkjhaiemephdabW.PrintLast

-- base
theorem w64 {x : Int} (h0 : -9223372036854775808 ≤ x) (h1 : x ≤ 9223372036854775807) : wrap64 x = x := by unfold wrap64; omega
theorem bt_b (s : ByteArray) (i : Int) : 0 ≤ bt s i ∧ bt s i < 256 := by have := bt_range s i; omega
theorem wbt (s : ByteArray) (i : Int) : wrap64 (bt s i) = bt s i := by have := bt_range s i; exact w64 (by omega) (by omega)
theorem tmodp {x m : Int} (h : 0 ≤ x) : Int.tmod x m = x % m := Int.tmod_eq_emod_of_nonneg h
theorem tdivp {x m : Int} (h : 0 ≤ x) : Int.tdiv x m = x / m := Int.tdiv_eq_ediv_of_nonneg h
/-- The bytes of a text, as numbers. -/
def B (s : ByteArray) : List Int := s.data.toList.map fun u => (u.toNat : Int)
def Byt (xs : List Int) : Prop := ∀ x ∈ xs, 0 ≤ x ∧ x < 256
theorem B_len (s : ByteArray) : (B s).length = s.size := by simp [B]
theorem B_byt (s : ByteArray) : Byt (B s) := by
  intro x hx
  obtain ⟨u, _, rfl⟩ := List.mem_map.1 hx
  have := u.toNat_lt
  omega
theorem B_str (xs : List Int) (h : Byt xs) : B (strOfNums xs) = xs := by
  simp only [B, strOfNums, List.map_map]
  conv => rhs; rw [← List.map_id xs]
  apply List.map_congr_left
  intro x hx
  have := h x hx
  simp only [Function.comp, UInt8.toNat_ofNat', id]
  omega
theorem str_B (s : ByteArray) : strOfNums (B s) = s := by
  apply Go.WideShapes.bytes_inj
  simp only [B, strOfNums, List.map_map]
  conv => rhs; rw [← List.map_id s.data.toList]
  apply List.map_congr_left
  intro x hx
  simp [Function.comp]
theorem B_inj {s t : ByteArray} (h : B s = B t) : s = t := by rw [← str_B s, ← str_B t, h]
theorem B_append (s t : ByteArray) : B (s ++ t) = B s ++ B t := by simp [B, ByteArray.data_append]
theorem B_extract (s : ByteArray) (a b : Nat) : B (s.extract a b) = ((B s).take b).drop a := by
  simp only [B, ByteArray.data_extract, Array.toList_extract, List.extract_eq_take_drop]
  rw [← List.map_take, ← List.map_drop, List.drop_take]
theorem B_bt (s : ByteArray) (i : Nat) (h : i < s.size) : (B s)[i]? = some (bt s i) := by
  have h' : i < s.data.toList.length := by rw [Array.length_toList]; exact h
  rw [B, List.getElem?_map, List.getElem?_eq_getElem h']
  simp [bt, h, ByteArray.getElem_eq_getElem_data]
theorem B_nil : B (⟨#[]⟩ : ByteArray) = [] := rfl
theorem tl_iff (s t : ByteArray) : s.toList = t.toList ↔ B s = B t := by
  rw [ByteArray.toList_eq, ByteArray.toList_eq]
  constructor
  · intro h; simp [B, h]
  · intro h; rw [B_inj h]
theorem byt_app {xs ys : List Int} (h : Byt xs) (k : Byt ys) : Byt (xs ++ ys) := by
  intro x hx
  rcases List.mem_append.1 hx with hx | hx
  · exact h x hx
  · exact k x hx
theorem wf_u32 {x : Int} (h : (Lit.int .u32 x).wf = true) : 0 ≤ x ∧ x < 4294967296 := by
  simp only [Lit.wf, IntKind.min, IntKind.max, IntKind.signed, IntKind.bits, Bool.and_eq_true, decide_eq_true_eq] at h
  simp at h
  omega
theorem wf_i64 {x : Int} (h : (Lit.int .i64 x).wf = true) : -9223372036854775808 ≤ x ∧ x ≤ 9223372036854775807 := by
  simp only [Lit.wf, IntKind.min, IntKind.max, IntKind.signed, IntKind.bits, Bool.and_eq_true, decide_eq_true_eq] at h
  simp at h
  omega
theorem ev_ex {α : Type} {g : Nat → Option α} {r : α} (h : Ev g r) : ∃ k, g k = some r := h.rounds

-- evtools
theorem ev_ite {α : Type} {c : Prop} [Decidable c] {g f : Nat → Option α} {r : α} (h : c → Ev g r) (k : ¬ c → Ev f r) : Ev (fun n => if c then g n else f n) r := by
  by_cases hc : c
  · exact Ev.congr (fun n => by rw [if_pos hc]) (h hc)
  · exact Ev.congr (fun n => by rw [if_neg hc]) (k hc)
theorem ev_pos {α : Type} {c : Prop} [Decidable c] {g f : Nat → Option α} {r : α} (hc : c) (h : Ev g r) : Ev (fun n => if c then g n else f n) r := Ev.congr (fun n => by rw [if_pos hc]) h
theorem ev_neg {α : Type} {c : Prop} [Decidable c] {g f : Nat → Option α} {r : α} (hc : ¬ c) (h : Ev f r) : Ev (fun n => if c then g n else f n) r := Ev.congr (fun n => by rw [if_neg hc]) h
theorem ev_some {α : Type} {x r : α} (h : x = r) : Ev (fun _ => some x) r := by rw [h]; exact Ev.now _
theorem ev_eq {α : Type} {x : Option α} {r : α} (h : x = some r) : Ev (fun _ => x) r := by rw [h]; exact Ev.now _
theorem ev_succ {α : Type} {g : Nat → Option α} {r : α} (h : Ev (fun k => g (k + 1)) r) : Ev g r := Ev.step (fun _ => rfl) h
theorem ev_to {α : Type} {g : Nat → Option α} {r r' : α} (h : Ev g r) (e : r = r') : Ev g r' := e ▸ h

-- lists
theorem set_mid {α : Type} (p : List α) (x y : α) (r : List α) (i : Nat) (h : p.length = i) : (p ++ x :: r).set i y = p ++ y :: r := by
  subst h
  simp
theorem drop_at {α : Type} (l : List α) (z : α) (i : Nat) (h : i < l.length) : l.drop i = l.getD i z :: l.drop (i + 1) := by
  rw [List.drop_eq_getElem_cons h, List.getD_eq_getElem?_getD, List.getElem?_eq_getElem h]
  rfl
theorem sz_left {n : Int} {len : Nat} {t : Int} (ht : t = if n < (len : Int) then -1 else n - len) (h : ¬ t < 0) (hn : n ≤ 1048576) (hn0 : 0 ≤ n) : len ≤ 1048576 ∧ 0 ≤ t ∧ t ≤ 1048576 ∧ t = n - len := by
  by_cases hc : n < (len : Int)
  · rw [if_pos hc] at ht; omega
  · rw [if_neg hc] at ht; omega

-- toNear
/-! Near: lists -/
def toNear1 (x : S121) : S99 := ⟨x.f0, x.f1⟩
def toNearL (l : List S121) : List S99 := l.map toNear1
theorem toNearL_len (l : List S121) : (toNearL l).length = l.length := by simp [toNearL]
theorem laws_toNearS_l0_ev (l : List S121) (hl : l.length ≤ 9223372036854775807) (d : Nat) : ∀ i : Nat, i + d = l.length →
    Ev (fun k => laws_toNearS.l0 k l ((toNearL l).take i ++ List.replicate d z99) i) (toNearL l) := by
  induction d with
  | zero =>
    intro i hi
    apply ev_succ
    simp only [laws_toNearS.l0]
    refine ev_neg (by omega) (ev_some ?_)
    rw [List.take_of_length_le (by rw [toNearL_len]; omega)]
    simp
  | succ d ih =>
    intro i hi
    have hr := ih (i + 1) (by omega)
    have hlt : i < (toNearL l).length := by rw [toNearL_len]; omega
    apply ev_succ
    simp only [laws_toNearS.l0, laws_toNear.f, Option.bind_some]
    have hset : ((toNearL l).take i ++ List.replicate (d + 1) z99).set ((i : Int).toNat) (⟨(rd_T121 l i).f0, (rd_T121 l i).f1⟩ : S99) = (toNearL l).take (i + 1) ++ List.replicate d z99 := by
      rw [List.replicate_succ, set_mid _ _ _ _ _ (by rw [List.length_take]; omega), List.take_succ_eq_append_getElem hlt]
      rw [List.append_assoc]
      congr 1
      simp only [List.singleton_append]
      congr 1
      have hli : i < l.length := by omega
      simp [toNearL, toNear1, rd_T121, List.getD_eq_getElem?_getD, hli]
    rw [hset, w64 (by omega) (by omega)]
    refine ev_pos (by omega) (ev_pos (by omega) (ev_pos ?_ hr))
    simp only [List.length_append, List.length_take, List.length_replicate, toNearL_len]
    omega
theorem laws_toNearS_ev (l : List S121) (hl : l.length ≤ 1048576) : Ev (fun k => laws_toNearS.f k l) (toNearL l) := by
  unfold laws_toNearS.f
  refine ev_pos (by omega) (ev_pos (by omega) ?_)
  exact laws_toNearS_l0_ev l (by omega) l.length 0 (by omega)

-- szNear
theorem laws_szNearS_eq (l : List S121) (hl : l.length ≤ 9223372036854775807) (n : Int) (h0 : 0 ≤ n) (h1 : n ≤ 1048576) : laws_szNearS.f l n = some (if n < (l.length : Int) then -1 else n - l.length) := by
  unfold laws_szNearS.f
  rw [w64 (by omega) (by omega)]
  by_cases h : n < (l.length : Int)
  · rw [if_pos (by omega), if_pos h]
  · rw [if_neg (by omega), if_neg h]

-- toRecord
theorem laws_toRecord_ev (a b c d e : Int) (l : List S121) (f : Int) (g : Bool) (hl : l.length ≤ 1048576) : Ev (fun k => laws_toRecord.f k a b c d e l f g) (a, b, c, d, e, toNearL l, f, g) := by
  unfold laws_toRecord.f
  exact Ev.bind (laws_toNearS_ev l hl) (Ev.now _)
theorem laws_szRecord_eq (a b c d e : Int) (l : List S121) (f : Int) (g : Bool) (hl : l.length ≤ 9223372036854775807) (n : Int) (h0 : 0 ≤ n) (h1 : n ≤ 1048576) :
    laws_szRecord.f a b c d e l f g n = some (if n < (l.length : Int) then -1 else n - l.length) := by
  unfold laws_szRecord.f
  rw [laws_szNearS_eq l hl n h0 h1, Option.bind_some]
  by_cases h : n < (l.length : Int)
  · rw [if_pos h, if_pos (by omega)]
  · rw [if_neg h, if_neg (by omega)]

-- eqNear
theorem laws_eqNear_refl (a b : Int) : laws_eqNear.f a b a b = some true := by
  unfold laws_eqNear.f
  simp
theorem laws_eqNearS_l0_ev (l : List S99) (hl : l.length ≤ 9223372036854775807) (d : Nat) : ∀ i : Nat, i + d = l.length → Ev (fun k => laws_eqNearS.l0 k l l i) true := by
  induction d with
  | zero =>
    intro i hi
    apply ev_succ
    simp only [laws_eqNearS.l0]
    exact ev_neg (by omega) (Ev.now _)
  | succ d ih =>
    intro i hi
    apply ev_succ
    simp only [laws_eqNearS.l0, laws_eqNear_refl, if_true, Option.bind_some]
    rw [w64 (by omega) (by omega)]
    exact ev_pos (by omega) (ev_pos (by omega) (ev_pos (by omega) (ih (i + 1) (by omega))))
theorem laws_eqNearS_refl (l : List S99) (hl : l.length ≤ 9223372036854775807) : Ev (fun k => laws_eqNearS.f k l l) true := by
  unfold laws_eqNearS.f
  exact ev_pos rfl (laws_eqNearS_l0_ev l hl l.length 0 (by omega))

-- eqRecord
theorem laws_eqRecord_refl (a b c d e : Int) (l : List S99) (f : Int) (g : Bool) (hl : l.length ≤ 9223372036854775807) : Ev (fun k => laws_eqRecord.f k a b c d e l f g a b c d e l f g) true := by
  unfold laws_eqRecord.f
  simp only [if_true]
  refine Ev.bind (laws_eqNearS_refl l hl) ?_
  simp
  exact Ev.now _

-- recs
def toRec1 (x : S46) : S52 := ⟨x.f0, x.f1, x.f2, x.f3, x.f4, toNearL x.f5, x.f6, x.f7⟩
def toRecL (l : List S46) : List S52 := l.map toRec1
theorem toRecL_len (l : List S46) : (toRecL l).length = l.length := by simp [toRecL]
/-- No list of a record is longer than can be counted. -/
def Lens (s : List S52) : Prop := s.length ≤ 9223372036854775000 ∧ ∀ x ∈ s, x.f5.length ≤ 9223372036854775000
theorem toRecL_lens (l : List S46) (hl : l.length ≤ 1048576) (hx : ∀ x ∈ l, x.f5.length ≤ 1048576) : Lens (toRecL l) := by
  refine ⟨by rw [toRecL_len]; omega, fun x h => ?_⟩
  obtain ⟨y, hy, rfl⟩ := List.mem_map.1 h
  have := hx y hy
  simp only [toRec1, toNearL_len]
  omega
theorem getD_mem {α : Type} (l : List α) (z : α) (i : Nat) (h : i < l.length) : l.getD i z ∈ l := by
  rw [List.getD_eq_getElem?_getD, List.getElem?_eq_getElem h]
  exact List.getElem_mem h
theorem laws_toRecordS_l0_ev (l : List S46) (hl : l.length ≤ 9223372036854775000) (hx : ∀ x ∈ l, x.f5.length ≤ 1048576) (d : Nat) : ∀ i : Nat, i + d = l.length →
    Ev (fun k => laws_toRecordS.l0 k l ((toRecL l).take i ++ List.replicate d z52) i) (toRecL l) := by
  induction d with
  | zero =>
    intro i hi
    apply ev_succ
    simp only [laws_toRecordS.l0]
    refine ev_neg (by omega) (ev_some ?_)
    rw [List.take_of_length_le (by rw [toRecL_len]; omega)]
    simp
  | succ d ih =>
    intro i hi
    have hr := ih (i + 1) (by omega)
    have hli : i < l.length := by omega
    have hlt : i < (toRecL l).length := by rw [toRecL_len]; omega
    obtain ⟨x, hxe⟩ : ∃ x, rd_T46 l (i : Int) = x := ⟨_, rfl⟩
    have hx2 : l.getD i z46 = x := hxe
    have hm : x ∈ l := by rw [← hx2]; exact getD_mem l _ i hli
    apply ev_succ
    simp only [laws_toRecordS.l0, hxe]
    have hset : ((toRecL l).take i ++ List.replicate (d + 1) z52).set ((i : Int).toNat) (toRec1 x) = (toRecL l).take (i + 1) ++ List.replicate d z52 := by
      rw [List.replicate_succ, set_mid _ _ _ _ _ (by rw [List.length_take]; omega), List.take_succ_eq_append_getElem hlt]
      rw [List.append_assoc]
      congr 1
      simp only [List.singleton_append]
      congr 1
      rw [← hx2]
      simp [toRecL, List.getD_eq_getElem?_getD, hli]
    refine ev_pos (by omega) (ev_pos (by omega) (Ev.bind (laws_toRecord_ev x.f0 x.f1 x.f2 x.f3 x.f4 x.f5 x.f6 x.f7 (hx x hm)) (ev_pos ?_ ?_)))
    · simp only [List.length_append, List.length_take, List.length_replicate, toRecL_len]
      omega
    · have hset' : ((toRecL l).take i ++ List.replicate (d + 1) z52).set ((i : Int).toNat) (⟨x.f0, x.f1, x.f2, x.f3, x.f4, toNearL x.f5, x.f6, x.f7⟩ : S52) = (toRecL l).take (i + 1) ++ List.replicate d z52 := hset
      simp only [hset']
      rw [w64 (by omega) (by omega)]
      exact hr
theorem laws_toRecordS_ev (l : List S46) (hl : l.length ≤ 1048576) (hx : ∀ x ∈ l, x.f5.length ≤ 1048576) : Ev (fun k => laws_toRecordS.f k l) (toRecL l) := by
  unfold laws_toRecordS.f
  refine ev_pos (by omega) (ev_pos (by omega) ?_)
  exact laws_toRecordS_l0_ev l (by omega) hx l.length 0 (by omega)
theorem laws_szRecordS_l0 (l : List S46) (hl : l.length ≤ 9223372036854775000) (hx : ∀ x ∈ l, x.f5.length ≤ 9223372036854775807) (d : Nat) : ∀ (i : Nat) (n : Int), i + d = l.length → 0 ≤ n → n ≤ 1048576 →
    (Ev (fun k => laws_szRecordS.l0 k l n i) (-1)) ∨ (∃ t, Ev (fun k => laws_szRecordS.l0 k l n i) t ∧ 0 ≤ t ∧ t ≤ n ∧ ∀ x ∈ l.drop i, x.f5.length ≤ 1048576) := by
  induction d with
  | zero =>
    intro i n hi h0 h1
    refine .inr ⟨n, ?_, h0, by omega, by rw [List.drop_eq_nil_of_le (by omega)]; simp⟩
    apply ev_succ
    simp only [laws_szRecordS.l0]
    exact ev_neg (by omega) (Ev.now _)
  | succ d ih =>
    intro i n hi h0 h1
    have hli : i < l.length := by omega
    obtain ⟨x, hxe⟩ : ∃ x, rd_T46 l (i : Int) = x := ⟨_, rfl⟩
    have hx2 : l.getD i z46 = x := hxe
    have hm : x ∈ l := by rw [← hx2]; exact getD_mem l _ i hli
    have key : ∀ r, (n < (x.f5.length : Int) → r = -1) → (¬ n < (x.f5.length : Int) → Ev (fun k => laws_szRecordS.l0 k l (n - x.f5.length) ((i : Int) + 1)) r) → Ev (fun k => laws_szRecordS.l0 k l n i) r := by
      intro r ha hb
      apply ev_succ
      simp only [laws_szRecordS.l0, hxe]
      rw [laws_szRecord_eq x.f0 x.f1 x.f2 x.f3 x.f4 x.f5 x.f6 x.f7 (hx x hm) n h0 h1, w64 (by omega) (by omega)]
      simp only [Option.bind_some]
      refine ev_pos (by omega) (ev_pos (by omega) ?_)
      by_cases hc : n < (x.f5.length : Int)
      · rw [if_pos hc]
        rw [ha hc]
        exact ev_pos (by omega) (Ev.now _)
      · rw [if_neg hc]
        exact ev_neg (by omega) (hb hc)
    by_cases hc : n < (x.f5.length : Int)
    · exact .inl (key _ (fun _ => rfl) (fun h => absurd hc h))
    · rcases ih (i + 1) (n - x.f5.length) (by omega) (by omega) (by omega) with h | ⟨t, h, h2, h3, h4⟩
      · exact .inl (key _ (fun h => absurd h hc) (fun _ => h))
      · refine .inr ⟨t, key _ (fun h => absurd h hc) (fun _ => h), h2, by omega, fun y hy => ?_⟩
        rw [drop_at l z46 i hli, hx2] at hy
        rcases List.mem_cons.1 hy with rfl | hy
        · omega
        · exact h4 y hy
theorem laws_szRecordS_cases (l : List S46) (hl : l.length ≤ 9223372036854775807) (hx : ∀ x ∈ l, x.f5.length ≤ 9223372036854775807) (n : Int) (h0 : 0 ≤ n) (h1 : n ≤ 1048576) :
    (Ev (fun k => laws_szRecordS.f k l n) (-1)) ∨ (∃ t, Ev (fun k => laws_szRecordS.f k l n) t ∧ 0 ≤ t ∧ t ≤ n ∧ l.length ≤ 1048576 ∧ ∀ x ∈ l, x.f5.length ≤ 1048576) := by
  unfold laws_szRecordS.f
  rw [w64 (by omega) (by omega)]
  by_cases hc : n < (l.length : Int)
  · exact .inl (ev_pos (by omega) (Ev.now _))
  · rcases laws_szRecordS_l0 l (by omega) hx l.length 0 (n - l.length) (by omega) (by omega) (by omega) with h | ⟨t, h, h2, h3, h4⟩
    · exact .inl (ev_neg (by omega) h)
    · exact .inr ⟨t, ev_neg (by omega) h, h2, by omega, by omega, fun x hm => h4 x (by simpa using hm)⟩
theorem laws_eqRecordS_l0_ev (l : List S52) (hl : Lens l) (d : Nat) : ∀ i : Nat, i + d = l.length → Ev (fun k => laws_eqRecordS.l0 k l l i) true := by
  induction d with
  | zero =>
    intro i hi
    apply ev_succ
    simp only [laws_eqRecordS.l0]
    exact ev_neg (by omega) (Ev.now _)
  | succ d ih =>
    intro i hi
    have h1 := hl.1
    obtain ⟨x, hxe⟩ : ∃ x, rd_T52 l (i : Int) = x := ⟨_, rfl⟩
    have hx2 : l.getD i z52 = x := hxe
    have hm : x ∈ l := by rw [← hx2]; exact getD_mem l _ i (by omega)
    have h2 := hl.2 x hm
    apply ev_succ
    simp only [laws_eqRecordS.l0, hxe]
    rw [w64 (by omega) (by omega)]
    refine ev_pos (by omega) (ev_pos (by omega) (ev_pos (by omega) (Ev.bind (laws_eqRecord_refl _ _ _ _ _ _ _ _ (by omega)) (ev_pos rfl (ih (i + 1) (by omega))))))
theorem laws_eqRecordS_refl (l : List S52) (hl : Lens l) : Ev (fun k => laws_eqRecordS.f k l l) true := by
  unfold laws_eqRecordS.f
  exact ev_pos rfl (laws_eqRecordS_l0_ev l hl l.length 0 (by omega))

-- keys
def sameKey (a b : S52) : Bool := decide (a.f0 = b.f0 ∧ a.f1 = b.f1 ∧ a.f2 = b.f2 ∧ a.f3 = b.f3)
def beforeB (a b : S52) : Bool := decide (a.f0 < b.f0 ∨ a.f0 = b.f0 ∧ (a.f1 < b.f1 ∨ a.f1 = b.f1 ∧ (a.f2 < b.f2 ∨ a.f2 = b.f2 ∧ a.f3 < b.f3)))
/-- The place of a key from place i on, -1 without one. -/
def keyGo (r : S52) : List S52 → Int → Int
  | [], _ => -1
  | x :: xs, i => if sameKey x r = true then i else keyGo r xs (i + 1)
def keyB (s : List S52) (r : S52) : Int := keyGo r s 0
theorem keyGo_cases (r : S52) (xs : List S52) : ∀ i : Int, (keyGo r xs i = -1 ∧ ∀ x ∈ xs, sameKey x r = false) ∨ (∃ j : Nat, j < xs.length ∧ keyGo r xs i = i + j ∧ sameKey (xs.getD j z52) r = true ∧ ∀ q : Nat, q < j → sameKey (xs.getD q z52) r = false) := by
  induction xs with
  | nil => intro i; exact .inl ⟨rfl, by simp⟩
  | cons x xs ih =>
    intro i
    by_cases h : sameKey x r = true
    · refine .inr ⟨0, by simp, ?_, h, fun q hq => by omega⟩
      rw [keyGo, if_pos h]; omega
    · rw [keyGo, if_neg h]
      rcases ih (i + 1) with ⟨h1, h2⟩ | ⟨j, h1, h2, h3, h4⟩
      · refine .inl ⟨h1, fun y hy => ?_⟩
        rcases List.mem_cons.1 hy with rfl | hy
        · simpa using h
        · exact h2 y hy
      · refine .inr ⟨j + 1, by simp only [List.length_cons]; omega, by rw [h2]; omega, h3, fun q hq => ?_⟩
        cases q with
        | zero => simpa using h
        | succ q => exact h4 q (by omega)
theorem keyB_cases (s : List S52) (r : S52) : (keyB s r = -1 ∧ ∀ x ∈ s, sameKey x r = false) ∨ (∃ j : Nat, j < s.length ∧ keyB s r = j ∧ sameKey (s.getD j z52) r = true ∧ ∀ q : Nat, q < j → sameKey (s.getD q z52) r = false) := by
  rcases keyGo_cases r s 0 with h | ⟨j, h1, h2, h3⟩
  · exact .inl h
  · exact .inr ⟨j, h1, by rw [keyB, h2]; omega, h3⟩

-- impl_SameKey
theorem impl_SameKey_eq (a b : S52) : impl_SameKey.f a.f0 a.f1 a.f2 a.f3 a.f4 a.f5 a.f6 a.f7 b.f0 b.f1 b.f2 b.f3 b.f4 b.f5 b.f6 b.f7 = some (sameKey a b) := by
  unfold impl_SameKey.f sameKey
  by_cases h0 : a.f0 = b.f0
  · by_cases h1 : a.f1 = b.f1
    · by_cases h2 : a.f2 = b.f2
      · rw [if_pos h0, if_pos h1, if_pos h2]
        congr 1
        rw [Bool.eq_iff_iff]
        simp [h0, h1, h2]
      · rw [if_pos h0, if_pos h1, if_neg h2, decide_eq_false (by omega)]
    · rw [if_pos h0, if_neg h1, decide_eq_false (by omega)]
  · rw [if_neg h0, decide_eq_false (by omega)]

-- impl_keyAt
theorem impl_keyAt_l0_ev (r : S52) (l : List S52) (hl : l.length ≤ 9223372036854775000) (d : Nat) : ∀ i : Nat, i + d = l.length →
    Ev (fun k => impl_keyAt.l0 k l (l.length : Int) i r.f0 r.f1 r.f2 r.f3 r.f4 r.f5 r.f6 r.f7) (keyGo r (l.drop i) i) := by
  induction d with
  | zero =>
    intro i hi
    rw [List.drop_eq_nil_of_le (by omega)]
    apply ev_succ
    simp only [impl_keyAt.l0]
    exact ev_neg (by omega) (ev_some rfl)
  | succ d ih =>
    intro i hi
    have hr := ih (i + 1) (by omega)
    have hr' := hr
    obtain ⟨x, hx⟩ : ∃ x, rd_T52 l (i : Int) = x := ⟨_, rfl⟩
    have hx2 : l.getD i z52 = x := hx
    rw [drop_at l z52 i (by omega), hx2]
    apply ev_succ
    simp only [impl_keyAt.l0, hx, impl_SameKey_eq, Option.bind_some]
    rw [w64 (by omega) (by omega), keyGo]
    refine ev_pos (by omega) (ev_pos (by omega) (ev_pos (by omega) ?_))
    refine ev_ite (fun h => ev_some (by rw [if_pos h])) (fun h => ?_)
    rw [if_neg h]
    exact hr
theorem impl_keyAt_ev (l : List S52) (r : S52) (hl : l.length ≤ 9223372036854775000) : Ev (fun k => impl_keyAt.f k l r.f0 r.f1 r.f2 r.f3 r.f4 r.f5 r.f6 r.f7) (keyB l r) :=
  impl_keyAt_l0_ev r l hl l.length 0 (by omega)

-- spec_SameKey
theorem spec_SameKey_eq (a b : S52) : spec_SameKey.f a.f0 a.f1 a.f2 a.f3 a.f4 a.f5 a.f6 a.f7 b.f0 b.f1 b.f2 b.f3 b.f4 b.f5 b.f6 b.f7 = some (sameKey a b) := by
  unfold spec_SameKey.f sameKey
  by_cases h0 : a.f0 = b.f0
  · by_cases h1 : a.f1 = b.f1
    · by_cases h2 : a.f2 = b.f2
      · rw [if_pos h0, if_pos h1, if_pos h2]
        congr 1
        rw [Bool.eq_iff_iff]
        simp [h0, h1, h2]
      · rw [if_pos h0, if_pos h1, if_neg h2, decide_eq_false (by omega)]
    · rw [if_pos h0, if_neg h1, decide_eq_false (by omega)]
  · rw [if_neg h0, decide_eq_false (by omega)]

-- spec_l05At
theorem spec_l05At_l0_ev (r : S52) (l : List S52) (hl : l.length ≤ 9223372036854775000) (d : Nat) : ∀ i : Nat, i + d = l.length →
    Ev (fun k => spec_l05At.l0 k l i r.f0 r.f1 r.f2 r.f3 r.f4 r.f5 r.f6 r.f7) (keyGo r (l.drop i) i) := by
  induction d with
  | zero =>
    intro i hi
    rw [List.drop_eq_nil_of_le (by omega)]
    apply ev_succ
    simp only [spec_l05At.l0]
    exact ev_neg (by omega) (ev_some rfl)
  | succ d ih =>
    intro i hi
    have hr := ih (i + 1) (by omega)
    have hr' := hr
    obtain ⟨x, hx⟩ : ∃ x, rd_T52 l (i : Int) = x := ⟨_, rfl⟩
    have hx2 : l.getD i z52 = x := hx
    rw [drop_at l z52 i (by omega), hx2]
    apply ev_succ
    simp only [spec_l05At.l0, hx, spec_SameKey_eq, Option.bind_some]
    rw [w64 (by omega) (by omega), keyGo]
    refine ev_pos (by omega) (ev_pos (by omega) ?_)
    refine ev_ite (fun h => ev_some (by rw [if_pos h])) (fun h => ?_)
    rw [if_neg h]
    exact hr
theorem spec_l05At_ev (l : List S52) (r : S52) (hl : l.length ≤ 9223372036854775000) : Ev (fun k => spec_l05At.f k l r.f0 r.f1 r.f2 r.f3 r.f4 r.f5 r.f6 r.f7) (keyB l r) :=
  spec_l05At_l0_ev r l hl l.length 0 (by omega)

-- FnExactLinked
def nearC (b : Int) : List S99 → Int
  | [] => 0
  | x :: xs => if x.f0 = b then x.f1 else nearC b xs
def nodeK (ar a : Int) : S52 := ⟨ar, 1, a, 0, 0, [], 0, false⟩
def nearsB (s : List S52) (ar a : Int) : List S99 := if keyB s (nodeK ar a) < 0 then [] else (s.getD (keyB s (nodeK ar a)).toNat z52).f5
def toldB (s : List S52) (ar a b : Int) : Int := nearC b (nearsB s ar a)
def linkedB (s : List S52) (ar a b : Int) : Int := if toldB s ar b a = 0 then 0 else toldB s ar a b
theorem keyB_lt (t : List S52) (x : S52) : keyB t x < (t.length : Int) := by
  rcases keyB_cases t x with ⟨h, _⟩ | ⟨j, h1, h2, _⟩
  · omega
  · omega
theorem nearsB_len (s : List S52) (ar a : Int) (hs : Lens s) : (nearsB s ar a).length ≤ 9223372036854775000 := by
  unfold nearsB
  split
  · simp
  · have := keyB_lt s (nodeK ar a)
    exact hs.2 _ (getD_mem _ _ _ (by omega))
theorem impl_told_l0_ev (b : Int) (l : List S99) (hl : l.length ≤ 9223372036854775000) (d : Nat) : ∀ i : Nat, i + d = l.length →
    Ev (fun k => impl_told.l0 k b l (l.length : Int) i) (nearC b (l.drop i)) := by
  induction d with
  | zero =>
    intro i hi
    rw [List.drop_eq_nil_of_le (by omega)]
    apply ev_succ
    simp only [impl_told.l0]
    exact ev_neg (by omega) (Ev.now _)
  | succ d ih =>
    intro i hi
    have hr := ih (i + 1) (by omega)
    obtain ⟨x, hx⟩ : ∃ x, rd_T99 l (i : Int) = x := ⟨_, rfl⟩
    have hx2 : l.getD i z99 = x := hx
    rw [drop_at l z99 i (by omega), hx2]
    apply ev_succ
    simp only [impl_told.l0, hx, nearC]
    rw [w64 (x := (i : Int) + 1) (by omega) (by omega)]
    refine ev_pos (by omega) (ev_pos (by omega) (ev_pos (by omega) (ev_ite (fun h1 => ?_) (fun h1 => ?_))))
    · rw [if_pos h1]; exact Ev.now _
    · rw [if_neg h1]; exact hr
theorem impl_told_ev (s : List S52) (ar a b : Int) (hs : Lens s) : Ev (fun k => impl_told.f k s ar a b) (toldB s ar a b) := by
  have hk := keyB_lt s (nodeK ar a)
  have hn := nearsB_len s ar a hs
  unfold impl_told.f
  refine Ev.bind (impl_keyAt_ev s (nodeK ar a) hs.1) ?_
  unfold toldB nearsB at *
  refine ev_ite (fun h => ?_) (fun h => ev_pos (by omega) (ev_pos hk ?_))
  · rw [if_pos h]; exact Ev.now _
  · rw [if_neg h] at hn ⊢
    exact impl_told_l0_ev b (s.getD (keyB s (nodeK ar a)).toNat z52).f5 hn (s.getD (keyB s (nodeK ar a)).toNat z52).f5.length 0 (by omega)
theorem spec_l06Tells_l0_ev (b r0 r1 r2 r3 r4 r6 : Int) (r7 : Bool) (l : List S99) (hl : l.length ≤ 9223372036854775000) (d : Nat) : ∀ i : Nat, i + d = l.length →
    Ev (fun k => spec_l06Tells.l0 k b i r0 r1 r2 r3 r4 l r6 r7) (nearC b (l.drop i)) := by
  induction d with
  | zero =>
    intro i hi
    rw [List.drop_eq_nil_of_le (by omega)]
    apply ev_succ
    simp only [spec_l06Tells.l0]
    exact ev_neg (by omega) (Ev.now _)
  | succ d ih =>
    intro i hi
    have hr := ih (i + 1) (by omega)
    obtain ⟨x, hx⟩ : ∃ x, rd_T99 l (i : Int) = x := ⟨_, rfl⟩
    have hx2 : l.getD i z99 = x := hx
    rw [drop_at l z99 i (by omega), hx2]
    apply ev_succ
    simp only [spec_l06Tells.l0, hx, nearC]
    rw [w64 (x := (i : Int) + 1) (by omega) (by omega)]
    refine ev_pos (by omega) (ev_pos (by omega) (ev_ite (fun h1 => ?_) (fun h1 => ?_)))
    · rw [if_pos h1]; exact Ev.now _
    · rw [if_neg h1]; exact hr
theorem spec_l06Tells_ev (s : List S52) (ar a b : Int) (hs : Lens s) : Ev (fun k => spec_l06Tells.f k s ar a b) (toldB s ar a b) := by
  have hk := keyB_lt s (nodeK ar a)
  have hn := nearsB_len s ar a hs
  unfold spec_l06Tells.f
  by_cases h : keyB s (nodeK ar a) < 0
  · have e : Ev (fun k => spec_l06Node.f k s ar a) (0, 0, 0, 0, 0, [], 0, false, false) := by
      unfold spec_l06Node.f
      exact Ev.bind (spec_l05At_ev s (nodeK ar a) hs.1) (ev_pos h (Ev.now _))
    refine Ev.bind e ?_
    have t : toldB s ar a b = nearC b (([] : List S99).drop 0) := by unfold toldB nearsB; rw [if_pos h]; rfl
    rw [t]
    exact spec_l06Tells_l0_ev b 0 0 0 0 0 0 false [] (by simp) 0 0 rfl
  · obtain ⟨x, hx⟩ : ∃ x, s.getD (keyB s (nodeK ar a)).toNat z52 = x := ⟨_, rfl⟩
    have hx2 : rd_T52 s (keyB s (nodeK ar a)) = x := hx
    have e : Ev (fun k => spec_l06Node.f k s ar a) (x.f0, x.f1, x.f2, x.f3, x.f4, x.f5, x.f6, x.f7, true) := by
      unfold spec_l06Node.f
      refine Ev.bind (spec_l05At_ev s (nodeK ar a) hs.1) (ev_neg h (ev_pos (by omega) (ev_pos hk ?_)))
      simp only [hx2]
      exact Ev.now _
    refine Ev.bind e ?_
    have t : toldB s ar a b = nearC b (x.f5.drop 0) := by unfold toldB nearsB; rw [if_neg h, hx]; rfl
    have hl : x.f5.length ≤ 9223372036854775000 := by
      unfold nearsB at hn
      rw [if_neg h, hx] at hn
      exact hn
    rw [t]
    exact spec_l06Tells_l0_ev b _ _ _ _ _ _ _ x.f5 hl x.f5.length 0 (by omega)
theorem impl_Linked_ev (s : List S52) (ar a b : Int) (hs : Lens s) : Ev (fun k => impl_Linked.f k s ar a b) (linkedB s ar a b) := by
  unfold impl_Linked.f linkedB
  refine Ev.bind (impl_told_ev s ar b a hs) (ev_ite (fun h => ?_) (fun h => ?_))
  · rw [if_pos h]; exact Ev.now _
  · rw [if_neg h]; exact Ev.bind (impl_told_ev s ar a b hs) (Ev.now _)
theorem spec_Linked_ev (s : List S52) (ar a b : Int) (hs : Lens s) : Ev (fun k => spec_Linked.f k s ar a b) (linkedB s ar a b) := by
  unfold spec_Linked.f linkedB
  refine Ev.bind (spec_l06Tells_ev s ar b a hs) (ev_ite (fun h => ?_) (fun h => ?_))
  · rw [if_pos h]; exact Ev.now _
  · rw [if_neg h]; exact Ev.bind (spec_l06Tells_ev s ar a b hs) (Ev.now _)
theorem FnExactLinked : ∀ (l0 : List (S46)) (a1 : Int) (a2 : Int) (a3 : Int), (l0.length ≤ 9223372036854775807) → (∀ x ∈ l0, x.f5.length ≤ 9223372036854775807) → ∃ k, laws_FnExactLinked.f k l0 a1 a2 a3 = some true := by
  intro l ar a b hl hx
  refine ev_ex ?_
  unfold laws_FnExactLinked.f
  rcases laws_szRecordS_cases l hl hx 1048576 (by omega) (by omega) with h | ⟨t, h, h1, h2, h3, h4⟩
  · exact Ev.bind h (ev_pos (by omega) (Ev.now _))
  · refine Ev.bind h (ev_neg (by omega) ?_)
    have T := laws_toRecordS_ev l h3 h4
    have hL := toRecL_lens l h3 h4
    refine Ev.bind T (Ev.bind (spec_Linked_ev _ ar a b hL) (Ev.bind T (Ev.bind (impl_Linked_ev _ ar a b hL) (ev_pos rfl ?_))))
    exact Ev.bind T (Ev.bind (laws_eqRecordS_refl _ hL) (ev_pos rfl (Ev.now _)))

end Go.Proofs.Ytjkjhaiemephdab.Pure
