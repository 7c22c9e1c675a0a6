/- Proved: for every text that the row lets in, the law FnExactUnhex returns true; there are no other conditions. -/
import Derived.Test.YtbdepabelielfaaQlawsFnExactUnhex
set_option linter.unusedVariables false
set_option linter.unusedSimpArgs false
namespace Go.Proofs.Ytbdepabelielfaa.Pure
open Go.RowKit Go.Proofs.Ytbdepabelielfaa.Q Go.Proofs.YtbdepabelielfaaW.PrintWords Go.Proofs.YtbdepabelielfaaW.PrintLast

-- base
theorem w64 {x : Int} (h0 : -9223372036854775808 ≤ x) (h1 : x ≤ 9223372036854775807) : wrap64 x = x := by unfold wrap64; omega
theorem bt_b (s : ByteArray) (i : Int) : 0 ≤ bt s i ∧ bt s i < 256 := by have := bt_range s i; omega
theorem wbt (s : ByteArray) (i : Int) : wrap64 (bt s i) = bt s i := by have := bt_range s i; exact w64 (by omega) (by omega)
theorem tmodp {x m : Int} (h : 0 ≤ x) : Int.tmod x m = x % m := Int.tmod_eq_emod_of_nonneg h
theorem tdivp {x m : Int} (h : 0 ≤ x) : Int.tdiv x m = x / m := Int.tdiv_eq_ediv_of_nonneg h
/-- The bytes of a text, as numbers. -/
def B (s : ByteArray) : List Int := s.data.toList.map fun u => (u.toNat : Int)
def Byt (xs : List Int) : Prop := ∀ x ∈ xs, 0 ≤ x ∧ x < 256
theorem B_len (s : ByteArray) : (B s).length = s.size := by simp [B]
theorem B_byt (s : ByteArray) : Byt (B s) := by
  intro x hx
  obtain ⟨u, _, rfl⟩ := List.mem_map.1 hx
  have := u.toNat_lt
  omega
theorem B_str (xs : List Int) (h : Byt xs) : B (strOfNums xs) = xs := by
  simp only [B, strOfNums, List.map_map]
  conv => rhs; rw [← List.map_id xs]
  apply List.map_congr_left
  intro x hx
  have := h x hx
  simp only [Function.comp, UInt8.toNat_ofNat', id]
  omega
theorem str_B (s : ByteArray) : strOfNums (B s) = s := by
  apply Go.WideShapes.bytes_inj
  simp only [B, strOfNums, List.map_map]
  conv => rhs; rw [← List.map_id s.data.toList]
  apply List.map_congr_left
  intro x hx
  simp [Function.comp]
theorem B_inj {s t : ByteArray} (h : B s = B t) : s = t := by rw [← str_B s, ← str_B t, h]
theorem B_append (s t : ByteArray) : B (s ++ t) = B s ++ B t := by simp [B, ByteArray.data_append]
theorem B_extract (s : ByteArray) (a b : Nat) : B (s.extract a b) = ((B s).take b).drop a := by
  simp only [B, ByteArray.data_extract, Array.toList_extract, List.extract_eq_take_drop]
  rw [← List.map_take, ← List.map_drop, List.drop_take]
theorem B_bt (s : ByteArray) (i : Nat) (h : i < s.size) : (B s)[i]? = some (bt s i) := by
  have h' : i < s.data.toList.length := by rw [Array.length_toList]; exact h
  rw [B, List.getElem?_map, List.getElem?_eq_getElem h']
  simp [bt, h, ByteArray.getElem_eq_getElem_data]
theorem B_nil : B (⟨#[]⟩ : ByteArray) = [] := rfl
theorem tl_iff (s t : ByteArray) : s.toList = t.toList ↔ B s = B t := by
  rw [ByteArray.toList_eq, ByteArray.toList_eq]
  constructor
  · intro h; simp [B, h]
  · intro h; rw [B_inj h]
theorem byt_app {xs ys : List Int} (h : Byt xs) (k : Byt ys) : Byt (xs ++ ys) := by
  intro x hx
  rcases List.mem_append.1 hx with hx | hx
  · exact h x hx
  · exact k x hx
theorem wf_u32 {x : Int} (h : (Lit.int .u32 x).wf = true) : 0 ≤ x ∧ x < 4294967296 := by
  simp only [Lit.wf, IntKind.min, IntKind.max, IntKind.signed, IntKind.bits, Bool.and_eq_true, decide_eq_true_eq] at h
  simp at h
  omega
theorem wf_i64 {x : Int} (h : (Lit.int .i64 x).wf = true) : -9223372036854775808 ≤ x ∧ x ≤ 9223372036854775807 := by
  simp only [Lit.wf, IntKind.min, IntKind.max, IntKind.signed, IntKind.bits, Bool.and_eq_true, decide_eq_true_eq] at h
  simp at h
  omega
theorem ev_ex {α : Type} {g : Nat → Option α} {r : α} (h : Ev g r) : ∃ k, g k = some r := h.rounds

-- evtools
theorem ev_ite {α : Type} {c : Prop} [Decidable c] {g f : Nat → Option α} {r : α} (h : c → Ev g r) (k : ¬ c → Ev f r) : Ev (fun n => if c then g n else f n) r := by
  by_cases hc : c
  · exact Ev.congr (fun n => by rw [if_pos hc]) (h hc)
  · exact Ev.congr (fun n => by rw [if_neg hc]) (k hc)
theorem ev_pos {α : Type} {c : Prop} [Decidable c] {g f : Nat → Option α} {r : α} (hc : c) (h : Ev g r) : Ev (fun n => if c then g n else f n) r := Ev.congr (fun n => by rw [if_pos hc]) h
theorem ev_neg {α : Type} {c : Prop} [Decidable c] {g f : Nat → Option α} {r : α} (hc : ¬ c) (h : Ev f r) : Ev (fun n => if c then g n else f n) r := Ev.congr (fun n => by rw [if_neg hc]) h
theorem ev_some {α : Type} {x r : α} (h : x = r) : Ev (fun _ => some x) r := by rw [h]; exact Ev.now _
theorem ev_eq {α : Type} {x : Option α} {r : α} (h : x = some r) : Ev (fun _ => x) r := by rw [h]; exact Ev.now _
theorem ev_succ {α : Type} {g : Nat → Option α} {r : α} (h : Ev (fun k => g (k + 1)) r) : Ev g r := Ev.step (fun _ => rfl) h
theorem ev_to {α : Type} {g : Nat → Option α} {r r' : α} (h : Ev g r) (e : r = r') : Ev g r' := e ▸ h

-- FnExactUnhex
def valH (c : Int) : Int := if 48 ≤ c ∧ c ≤ 57 then c - 48 else if 97 ≤ c ∧ c ≤ 102 then c - 87 else -1
theorem idx_val : ∀ n : Nat, n < 256 → Lib.indexByte (⟨#[48, 49, 50, 51, 52, 53, 54, 55, 56, 57, 97, 98, 99, 100, 101, 102]⟩ : ByteArray).data.toList n.toUInt8 = valH n := by decide +kernel
theorem strings_IndexByte_eq (s : ByteArray) (i : Int) : strings_IndexByte.f (⟨#[48, 49, 50, 51, 52, 53, 54, 55, 56, 57, 97, 98, 99, 100, 101, 102]⟩ : ByteArray) (bt s i) = some (valH (bt s i)) := by
  have h := bt_b s i
  unfold strings_IndexByte.f
  rw [idx_val (bt s i).toNat (by omega), Int.toNat_of_nonneg h.1]
theorem valH_le (c : Int) : -1 ≤ valH c ∧ valH c ≤ 15 := by
  unfold valH
  split
  · omega
  · split <;> omega
theorem spec_l01Value_ev (c : Int) (h : 0 ≤ c ∧ c < 256) : Ev (fun k => spec_l01Value.f k c) (valH c) := by
  have hj : ∀ x : Bool, (x = true → 48 ≤ c ∧ c ≤ 57) → (x = false → ¬ (48 ≤ c ∧ c ≤ 57)) → Ev (fun k => spec_l01Value.j0 k c x) (valH c) := by
    intro x h1 h2
    apply ev_succ
    simp only [spec_l01Value.j0]
    unfold valH
    refine ev_ite (fun h3 => ?_) (fun h3 => ?_)
    · have := h1 h3
      rw [if_pos this, w64 (x := c) (by omega) (by omega)]
      exact ev_some (w64 (by omega) (by omega))
    · rw [if_neg (h2 (by simpa using h3))]
      refine ev_ite (fun h4 => ev_ite (fun h5 => ?_) (fun h5 => ?_)) (fun h4 => ?_)
      · rw [if_pos (by omega), w64 (x := c) (by omega) (by omega), w64 (x := c - 97) (by omega) (by omega)]
        exact ev_some (by rw [w64 (by omega) (by omega)]; omega)
      · rw [if_neg (by omega)]; exact Ev.now _
      · rw [if_neg (by omega)]; exact Ev.now _
  unfold spec_l01Value.f
  refine ev_ite (fun h1 => hj _ (fun h2 => ⟨h1, of_decide_eq_true h2⟩) (fun h2 h3 => of_decide_eq_false h2 h3.2)) (fun h1 => hj _ (fun h2 => by cases h2) (fun _ h3 => h1 h3.1))
theorem unhex_l0 (s : ByteArray) (hs : s.size ≤ 40000) (he : s.size % 2 = 0) (d : Nat) : ∀ (i : Nat) (acc : List Int), i + 2 * d = s.size → acc.length ≤ i →
    ∃ r, Ev (fun k => spec_Unhex.l0 k s acc i) r ∧ Ev (fun k => impl_Unhex.l0 k s acc i) r := by
  induction d with
  | zero =>
    intro i acc hi ha
    refine ⟨(strOfNums acc, true), ?_, ?_⟩
    · apply ev_succ
      simp only [spec_Unhex.l0]
      exact ev_neg (by omega) (Ev.now _)
    · apply ev_succ
      simp only [impl_Unhex.l0]
      exact ev_neg (by omega) (Ev.now _)
  | succ d ih =>
    intro i acc hi ha
    have hw1 : wrap64 ((i : Int) + 1) = (i : Int) + 1 := w64 (by omega) (by omega)
    have hw2 : wrap64 ((i : Int) + 2) = (i : Int) + 2 := w64 (by omega) (by omega)
    have hb0 := bt_b s i
    have hb1 := bt_b s ((i : Int) + 1)
    by_cases h1 : valH (bt s i) < 0
    · refine ⟨(⟨#[]⟩, false), ?_, ?_⟩
      · apply ev_succ
        simp only [spec_Unhex.l0, hw1]
        exact ev_pos (by omega) (ev_pos (by omega) (Ev.bind (spec_l01Value_ev _ hb0) (ev_pos (by omega) (ev_pos (by omega) (Ev.bind (spec_l01Value_ev _ hb1) (ev_pos h1 (Ev.now _)))))))
      · apply ev_succ
        simp only [impl_Unhex.l0, hw1, strings_IndexByte_eq, Option.bind_some]
        exact ev_pos (by omega) (ev_pos (by omega) (ev_pos (by omega) (ev_pos (by omega) (ev_pos h1 (Ev.now _)))))
    · by_cases h2 : valH (bt s ((i : Int) + 1)) < 0
      · refine ⟨(⟨#[]⟩, false), ?_, ?_⟩
        · apply ev_succ
          simp only [spec_Unhex.l0, hw1]
          exact ev_pos (by omega) (ev_pos (by omega) (Ev.bind (spec_l01Value_ev _ hb0) (ev_pos (by omega) (ev_pos (by omega) (Ev.bind (spec_l01Value_ev _ hb1) (ev_neg h1 (ev_pos h2 (Ev.now _))))))))
        · apply ev_succ
          simp only [impl_Unhex.l0, hw1, strings_IndexByte_eq, Option.bind_some]
          exact ev_pos (by omega) (ev_pos (by omega) (ev_pos (by omega) (ev_pos (by omega) (ev_neg h1 (ev_pos h2 (Ev.now _))))))
      · obtain ⟨r, hr1, hr2⟩ := ih (i + 2) (acc ++ [(wrap64 ((wrap64 (16 * valH (bt s i))) + valH (bt s ((i : Int) + 1)))) % 256]) (by omega) (by simp; omega)
        refine ⟨r, ?_, ?_⟩
        · apply ev_succ
          simp only [spec_Unhex.l0, hw1, hw2]
          exact ev_pos (by omega) (ev_pos (by omega) (Ev.bind (spec_l01Value_ev _ hb0) (ev_pos (by omega) (ev_pos (by omega) (Ev.bind (spec_l01Value_ev _ hb1) (ev_neg h1 (ev_neg h2 (ev_pos (by omega) hr1))))))))
        · apply ev_succ
          simp only [impl_Unhex.l0, hw1, hw2, strings_IndexByte_eq, Option.bind_some]
          exact ev_pos (by omega) (ev_pos (by omega) (ev_pos (by omega) (ev_pos (by omega) (ev_neg h1 (ev_neg h2 (ev_pos (by omega) hr2))))))
theorem unhex_j0 (s : ByteArray) (x : Bool) (h : x = false → s.size ≤ 40000 ∧ s.size % 2 = 0) : ∃ r, Ev (fun k => spec_Unhex.j0 k s x) r ∧ Ev (fun k => impl_Unhex.j0 k s x) r := by
  by_cases hx : x = true
  · refine ⟨(⟨#[]⟩, false), ?_, ?_⟩
    · apply ev_succ
      simp only [spec_Unhex.j0]
      exact ev_pos hx (Ev.now _)
    · apply ev_succ
      simp only [impl_Unhex.j0]
      exact ev_pos hx (Ev.now _)
  · have h' := h (by simpa using hx)
    obtain ⟨r, h1, h2⟩ := unhex_l0 s h'.1 h'.2 (s.size / 2) 0 [] (by omega) (by simp)
    refine ⟨r, ?_, ?_⟩
    · apply ev_succ
      simp only [spec_Unhex.j0]
      exact ev_neg hx h1
    · apply ev_succ
      simp only [impl_Unhex.j0]
      exact ev_neg hx h2
theorem unhex_ev (s : ByteArray) : ∃ r, Ev (fun k => spec_Unhex.f k s) r ∧ Ev (fun k => impl_Unhex.f k s) r := by
  unfold spec_Unhex.f impl_Unhex.f
  by_cases h1 : (s.size : Int) > 40000
  · obtain ⟨r, a, b⟩ := unhex_j0 s true (fun h => by cases h)
    refine ⟨r, ev_pos h1 a, ?_⟩
    rw [decide_eq_true h1]
    exact ev_ite (fun _ => b) (fun _ => b)
  · by_cases h2 : (s.size : Int) % 2 = 0
    · obtain ⟨r, a, b⟩ := unhex_j0 s false (fun _ => ⟨by omega, by omega⟩)
      refine ⟨r, ev_neg h1 ?_, ev_pos h2 ?_⟩
      · rw [show ((s.size : Int) % 2 != 0) = false by simp [h2]]; exact a
      · rw [decide_eq_false h1]; exact b
    · obtain ⟨r, a, b⟩ := unhex_j0 s true (fun h => by cases h)
      refine ⟨r, ev_neg h1 ?_, ev_neg h2 b⟩
      rw [show ((s.size : Int) % 2 != 0) = true by simp [h2]]; exact a
theorem FnExactUnhex : laws_FnExactUnhex.Pure := by
  intro s hs
  refine ev_ex ?_
  unfold laws_FnExactUnhex.f
  obtain ⟨r, h1, h2⟩ := unhex_ev s
  refine ev_ite (fun _ => Ev.now _) (fun _ => Ev.bind h1 (Ev.bind h2 ?_))
  simp
  exact Ev.now _

end Go.Proofs.Ytbdepabelielfaa.Pure
