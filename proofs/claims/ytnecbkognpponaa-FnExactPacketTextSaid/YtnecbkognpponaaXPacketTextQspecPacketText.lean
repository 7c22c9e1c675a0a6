import Derived.Test.YtnecbkognpponaaXPacketTextQlawstoNearS
import Derived.Test.YtnecbkognpponaaXPacketTextQspecPacketOk
import Derived.Test.YtnecbkognpponaaXPacketTextQspecSealed
/- A Go function as a Lean function, and its contract: for every input the Go code comes to what the Lean function tells. -/







namespace Go.Proofs.Ytnecbkognpponaa.Q
open Go.RowKit Go.Proofs.YtnecbkognpponaaW.PrintWords Go.Proofs.YtnecbkognpponaaW.PrintLast Go.Proofs.YtnecbkognpponaaW.PrintMore
attribute [local go_sem] max2_int min2_int max_two min_two max_three min_three max_four min_four   -- for this text's walks alone
set_option linter.unusedVariables false
set_option linter.unusedSimpArgs false

/-! ### spec_PacketText: function 15 -/
mutual
def spec_PacketText.l0 : Nat → List Int → Int → Int → Int → Int → Int → List Int → List (S24) → Option (ByteArray × Bool)
 | 0, _, _, _, _, _, _, _, _ => none
 | k + 1, x4, x5, x551000, x551001, x551002, x551003, x551004, x551005 => if x5 < (x551004.length : Int) then (if 0 ≤ x5 then (if x4.length < 140737488355328 then (spec_PacketText.l0 k (x4 ++ [(rd x551004 x5) % 256]) (wrap64 (x5 + 1)) x551000 x551001 x551002 x551003 x551004 x551005) else (none)) else (none)) else ((spec_l01Var.f k (x551005.length : Int)).bind fun t564 => (if x4.length + t564.size < 140737488355328 then (spec_PacketText.l1 k (x4 ++ bytesOf t564) 0 x551000 x551001 x551002 x551003 x551004 x551005) else (none)))
def spec_PacketText.l1 : Nat → List Int → Int → Int → Int → Int → Int → List Int → List (S24) → Option (ByteArray × Bool)
 | 0, _, _, _, _, _, _, _, _ => none
 | k + 1, x4, x6, x551000, x551001, x551002, x551003, x551004, x551005 => if x6 < (x551005.length : Int) then (if 0 ≤ x6 then ((spec_RecordText.f k ((rd_T24 x551005 x6).f0) ((rd_T24 x551005 x6).f1) ((rd_T24 x551005 x6).f2) ((rd_T24 x551005 x6).f3) ((rd_T24 x551005 x6).f4) ((rd_T24 x551005 x6).f5) ((rd_T24 x551005 x6).f6) ((rd_T24 x551005 x6).f7)).bind fun bt569 => ((spec_l04Short.f k bt569.1).bind fun t571 => (if x4.length + t571.size < 140737488355328 then (spec_PacketText.l1 k (x4 ++ bytesOf t571) (wrap64 (x6 + 1)) x551000 x551001 x551002 x551003 x551004 x551005) else (none)))) else (none)) else (if (wrap64 ((x4.length : Int) + 4)) > 20000 then (some ((⟨#[]⟩ : ByteArray), false)) else ((spec_Sealed.f k (strOfNums x4)).bind fun bt575 => (some (bt575.1, bt575.2))))
end
def spec_PacketText.f (k : Nat) (a0_0 : Int) (a0_1 : Int) (a0_2 : Int) (a0_3 : Int) (l0_4 : List Int) (l0_5 : List (S24)) : Option (ByteArray × Bool) := (spec_PacketOk.f k a0_0 a0_1 a0_2 a0_3 l0_4 l0_5).bind fun t551 => (if t551 = true then ((spec_l04Byte.f a0_0).bind fun t552 => ((spec_l04Byte.f a0_1).bind fun t553 => (if t552.size + t553.size ≤ 9223372036854775807 then ((spec_l04Byte.f a0_2).bind fun t554 => (if (t552 ++ t553).size + t554.size ≤ 9223372036854775807 then ((spec_l04Byte.f a0_3).bind fun t555 => (if ((t552 ++ t553) ++ t554).size + t555.size ≤ 9223372036854775807 then ((spec_l01Var.f k (l0_4.length : Int)).bind fun t556 => (if (((t552 ++ t553) ++ t554) ++ t555).size + t556.size ≤ 9223372036854775807 then (if ((((t552 ++ t553) ++ t554) ++ t555) ++ t556).size ≤ 140737488355328 then (spec_PacketText.l0 k (bytesOf ((((t552 ++ t553) ++ t554) ++ t555) ++ t556)) 0 a0_0 a0_1 a0_2 a0_3 l0_4 l0_5) else (none)) else (none))) else (none))) else (none))) else (none)))) else (some ((⟨#[]⟩ : ByteArray), false)))
theorem spec_PacketText.mono_l : ∀ k, (∀ y0 y1 y2 y3 y4 y5 y6 y7, LeO (spec_PacketText.l0 k y0 y1 y2 y3 y4 y5 y6 y7) (spec_PacketText.l0 (k + 1) y0 y1 y2 y3 y4 y5 y6 y7)) ∧ (∀ y0 y1 y2 y3 y4 y5 y6 y7, LeO (spec_PacketText.l1 k y0 y1 y2 y3 y4 y5 y6 y7) (spec_PacketText.l1 (k + 1) y0 y1 y2 y3 y4 y5 y6 y7))
 | 0 => ⟨fun _ _ _ _ _ _ _ _ r h => by simp [spec_PacketText.l0] at h, fun _ _ _ _ _ _ _ _ r h => by simp [spec_PacketText.l1] at h⟩
 | k + 1 => by
  obtain ⟨ih0, ih1⟩ := spec_PacketText.mono_l k
  refine ⟨?_, ?_⟩
  ·intro y0 y1 y2 y3 y4 y5 y6 y7
   unfold spec_PacketText.l0
   repeat' first
   | (with_reducible exact ih0 _ _ _ _ _ _ _ _)
   | (with_reducible exact ih1 _ _ _ _ _ _ _ _)
   | (with_reducible exact spec_PacketOk.mono _ _ _ _ _ _ _)
   | (with_reducible exact spec_RecordText.mono _ _ _ _ _ _ _ _ _)
   | (with_reducible exact spec_Sealed.mono _ _)
   | (with_reducible exact spec_l01Var.mono _ _)
   | (with_reducible exact spec_l04Short.mono _ _)
   | (with_reducible exact LeO.refl _)
   | (with_reducible exact LeO.none _)
   | (with_reducible refine LeO.ite ?_ ?_)
   | (with_reducible refine LeO.bind ?_ (fun _ => ?_))
   | exact ih0 _ _ _ _ _ _ _ _
   | exact ih1 _ _ _ _ _ _ _ _
   | exact spec_PacketOk.mono _ _ _ _ _ _ _
   | exact spec_RecordText.mono _ _ _ _ _ _ _ _ _
   | exact spec_Sealed.mono _ _
   | exact spec_l01Var.mono _ _
   | exact spec_l04Short.mono _ _
   | exact LeO.none _
   | refine LeO.ite ?_ ?_
   | refine LeO.bind ?_ (fun _ => ?_)
  ·intro y0 y1 y2 y3 y4 y5 y6 y7
   unfold spec_PacketText.l1
   repeat' first
   | (with_reducible exact ih0 _ _ _ _ _ _ _ _)
   | (with_reducible exact ih1 _ _ _ _ _ _ _ _)
   | (with_reducible exact spec_PacketOk.mono _ _ _ _ _ _ _)
   | (with_reducible exact spec_RecordText.mono _ _ _ _ _ _ _ _ _)
   | (with_reducible exact spec_Sealed.mono _ _)
   | (with_reducible exact spec_l01Var.mono _ _)
   | (with_reducible exact spec_l04Short.mono _ _)
   | (with_reducible exact LeO.refl _)
   | (with_reducible exact LeO.none _)
   | (with_reducible refine LeO.ite ?_ ?_)
   | (with_reducible refine LeO.bind ?_ (fun _ => ?_))
   | exact ih0 _ _ _ _ _ _ _ _
   | exact ih1 _ _ _ _ _ _ _ _
   | exact spec_PacketOk.mono _ _ _ _ _ _ _
   | exact spec_RecordText.mono _ _ _ _ _ _ _ _ _
   | exact spec_Sealed.mono _ _
   | exact spec_l01Var.mono _ _
   | exact spec_l04Short.mono _ _
   | exact LeO.none _
   | refine LeO.ite ?_ ?_
   | refine LeO.bind ?_ (fun _ => ?_)
theorem spec_PacketText.mono : ∀ a0 a1 a2 a3 a4 a5 k, LeO (spec_PacketText.f k a0 a1 a2 a3 a4 a5) (spec_PacketText.f (k + 1) a0 a1 a2 a3 a4 a5) := by
 intro a0 a1 a2 a3 a4 a5 k
 obtain ⟨ih0, ih1⟩ := spec_PacketText.mono_l k
 unfold spec_PacketText.f
 repeat' first
   | (with_reducible exact ih0 _ _ _ _ _ _ _ _)
   | (with_reducible exact ih1 _ _ _ _ _ _ _ _)
   | (with_reducible exact spec_PacketOk.mono _ _ _ _ _ _ _)
   | (with_reducible exact spec_RecordText.mono _ _ _ _ _ _ _ _ _)
   | (with_reducible exact spec_Sealed.mono _ _)
   | (with_reducible exact spec_l01Var.mono _ _)
   | (with_reducible exact spec_l04Short.mono _ _)
   | (with_reducible exact LeO.refl _)
   | (with_reducible exact LeO.none _)
   | (with_reducible refine LeO.ite ?_ ?_)
   | (with_reducible refine LeO.bind ?_ (fun _ => ?_))
   | exact ih0 _ _ _ _ _ _ _ _
   | exact ih1 _ _ _ _ _ _ _ _
   | exact spec_PacketOk.mono _ _ _ _ _ _ _
   | exact spec_RecordText.mono _ _ _ _ _ _ _ _ _
   | exact spec_Sealed.mono _ _
   | exact spec_l01Var.mono _ _
   | exact spec_l04Short.mono _ _
   | exact LeO.none _
   | refine LeO.ite ?_ ?_
   | refine LeO.bind ?_ (fun _ => ?_)
def spec_PacketText.T3 : Bool × List (List Nat × List Nat) := (true, [([], []), ([0], [0]), ([1], [1]), ([], []), ([3], [3]), ([4, 2], [4]), ([2, 5], [2, 5]), ([], []), ([7], [7]), ([8, 5], [8]), ([6, 9], [6, 9]), ([], []), ([11], [11]), ([12, 9], [12]), ([10, 13], [10, 13]), ([], []), ([15], [15]), ([16], [16]), ([17, 13], [17]), ([14, 18], [14, 18]), ([19], [19]), ([20, 18, 0, 1, 2, 3, 4, 5, 6, 7, 8, 9, 10, 11, 12, 13, 14, 15, 16, 17, 18, 19, 20], [20])])
def spec_PacketText.B3 : List Nat := [0, 1, 3, 0, 8, 31, 63, 0, 128, 447, 1023, 0, 2048, 7103, 16383, 0, 32768, 98304, 244671, 524287, 1048575, 2097151]
theorem spec_PacketText.tab3 : rtab .any (opsOf Try.f15 3) = spec_PacketText.T3 := by kernel_rfl
theorem spec_PacketText.bits3 : waitsOk spec_PacketText.T3.2 spec_PacketText.B3 = true := by kernel_rfl
/-! ### bytes of the call's own in a row that may bear the mark of a conversion, and that is appended to -/
/-- v's row has xs; nothing of it is frozen (a conversion's mark stands behind its cells). -/
def BRw (e : TypeId) (w : World) (base : Nat) (v : Value) (xs : List Int) : Prop :=
  ∃ (g cap : Nat) (cur : Array Value) (fz : Nat × Nat), v = .slice (some ⟨g, 0, none⟩) xs.length cap ∧ base ≤ g ∧ w.heap[g]? = some (.cells cur e fz) ∧ (∀ j, j < cur.size → ¬ (fz.1 ≤ j ∧ j < fz.2)) ∧ xs.length ≤ cap ∧ cap ≤ 9223372036854775807 ∧ cur.size = cap ∧ cur.toList.take xs.length = nums .u8 xs
section
variable {e : TypeId} {w w1 : World} {base : Nat} {v : Value} {xs : List Int}
theorem BRw.step (h : BRw e w base v xs) (hm : ∀ k, v.ownBlock = some k → k < w.heap.size → w1.heap[k]? = w.heap[k]?) : BRw e w1 base v xs := by
  obtain ⟨g, cap, cur, fz, rfl, hb, hg, rest⟩ := h
  exact ⟨g, cap, cur, fz, rfl, hb, (hm g rfl (Array.getElem?_eq_some_iff.1 hg).1).trans hg, rest⟩
theorem BRw.below (h : BRw e w base v xs) (hb : Below w.heap.size w w1) : BRw e w1 base v xs := h.step (fun k _ hk => hb.block k hk)
theorem BRw.drew (h : BRw e w base v xs) : BRw e w.drew base v xs := h
theorem BRw.lower {base' : Nat} (h : BRw e w base v xs) (hb : base' ≤ base) : BRw e w base' v xs := by
  obtain ⟨g, cap, cur, fz, rfl, h0, rest⟩ := h
  exact ⟨g, cap, cur, fz, rfl, Nat.le_trans hb h0, rest⟩
theorem BRw.alloc (h : BRw e w base v xs) (o : Obj) : BRw e (w.alloc o) base v xs := h.step (fun k _ hk => heap_alloc_old w o hk)
theorem BRw.ne (h : BRw e w base v xs) {g t : Nat} {cells : Array Value} (hb : w.heap[g]? = some (.cells cells t (0, 0))) (ht : e ≠ t) : some g ≠ v.ownBlock := by
  obtain ⟨g', cap, cur, fz, rfl, _, hg, _⟩ := h
  intro he
  have : g = g' := by simpa [Value.ownBlock] using he
  subst this; rw [hg] at hb
  injection hb with hb
  injection hb with _ hb
  exact ht hb
theorem BRw.slice (h : BRw e w base v xs) : ∃ A c, v = .slice A xs.length c := by
  obtain ⟨g, cap, _, _, rfl, _⟩ := h
  exact ⟨_, _, rfl⟩
theorem BRw.from_ (h : BRw e w base v xs) (k : Nat) (hk : v.ownBlock = some k) : base ≤ k := by
  obtain ⟨g, cap, _, _, rfl, hb, _⟩ := h
  have : g = k := by simpa [Value.ownBlock] using hk
  omega
theorem BRw.cell (h : BRw e w base v xs) : ∃ g cap, v = .slice (some ⟨g, 0, none⟩) xs.length cap ∧ ∀ j u, (nums .u8 xs)[j]? = some u → w.cell? ⟨g, j, none⟩ = some u := by
  obtain ⟨g, cap, cur, fz, rfl, _, hg, _, _, _, _, ht⟩ := h
  refine ⟨g, cap, rfl, fun j u hu => ?_⟩
  rw [cell_of_row w g j cur e fz hg]
  rw [← ht, List.getElem?_take] at hu
  split at hu
  · simpa using hu
  · cases hu
theorem BRw.string {P : Program} {src dst e1 : TypeId} (hs : P.underlying src = some (.slice e1)) (he : P.underlying e1 = some (.int .u8)) (hd : P.underlying dst = some .string) (h : BRw e w base v xs) : (convert src dst v).run P w = .ok (.string (strOfNums xs)) w := by
  obtain ⟨g, cap, rfl, hc⟩ := h.cell
  refine run_convert_bytes_arg w src e1 hs he g 0 xs.length cap xs rfl (fun i hi => ?_) dst hd
  rw [Nat.zero_add]
  exact hc i (.int .u8 (xs.getD i 0)) (by simp [nums, List.getElem?_eq_getElem hi, List.getD_eq_getElem?_getD])
end
theorem BRw.conv (W : World) (e : TypeId) (s : ByteArray) (hs : s.size ≤ 9223372036854775807) : BRw e (Lib.bytesWorld W e s) W.heap.size (.slice (some ⟨W.heap.size, 0, none⟩) (bytesOf s).length (grownCap W s.size 0 e)) (bytesOf s) := by
  have hge := grownCap_ge W s.size 0 e
  have hle := grownCap_le_maxLen W s.size 0 e (by simp only [maxLen]; omega)
  simp only [maxLen] at hle
  have hz : (Lib.bytesCells W e s).size = grownCap W s.size 0 e := by
    simp only [Lib.bytesCells, Array.size_append, Array.size_map, Array.size_replicate]
    have : s.data.size = s.size := rfl
    omega
  refine ⟨W.heap.size, _, Lib.bytesCells W e s, _, rfl, Nat.le_refl _, Lib.bytesWorld_at_new W e s, ?_, by rw [bytesOf_length]; exact hge, by omega, hz, ?_⟩
  · intro j hj h
    have := h.1
    simp only at this
    omega
  · have hl : (bytesOf s).length = ((Array.map (fun b : UInt8 => Value.int .u8 (b.toNat : Int)) s.data).toList).length := by rw [bytesOf_length]; simp
    simp only [Lib.bytesCells, Array.toList_append]
    rw [hl, List.take_left]
    simp [nums, bytesOf]
theorem run_storeCells_B (P : Program) (g o : Nat) (t : TypeId) (fz : Nat × Nat) : ∀ (vs : List Value) (i : Nat) (cur : Array Value) (w : World), w.heap[g]? = some (.cells cur t fz) → (∀ j, j < cur.size → ¬ (fz.1 ≤ j ∧ j < fz.2)) → o + i + vs.length ≤ cur.size → (∀ u ∈ vs, u.oneCell' = true) →
    (storeCells ⟨g, o, none⟩ vs i).run P w = .ok () (w.setRow g (cur.toList.take (o + i) ++ vs ++ cur.toList.drop (o + i + vs.length)).toArray) := by
  intro vs
  induction vs with
  | nil =>
    intro i cur w hg _ _ _
    simp only [storeCells, List.append_nil, List.length_nil, Nat.add_zero, List.take_append_drop, Array.toArray_toList]
    rw [setRow_self w g cur t fz hg]
    rfl
  | cons v rest ih =>
    intro i cur w hg hfz hl h1
    have hi : o + i < cur.size := by simp only [List.length_cons] at hl; omega
    have hadd : (⟨g, o, none⟩ : Addr).add i = ⟨g, o + i, none⟩ := by unfold Addr.add; split <;> simp_all
    have hcell : w.cell? ⟨g, o + i, none⟩ = some cur[o + i] := by simp [World.cell?, hg, hi]
    have hfro : w.frozen? ⟨g, o + i, none⟩ = false := by
      have h := hfz (o + i) hi; obtain ⟨lo, hi'⟩ := fz
      simp only [World.frozen?, hg]
      simp only at h
      by_cases h2 : lo ≤ o + i
      · have h3 : ¬ (o + i < hi') := fun h3 => h ⟨h2, h3⟩
        simp [h3]
      · simp [h2]
    have hst : (store ((⟨g, o, none⟩ : Addr).add i) v).run P w = .ok () (w.setRow g (cur.setIfInBounds (o + i) v)) := by
      rw [hadd, run_store P w _ v _ (h1 v (by simp)), hcell]
      simp [hfro, setCell_eq_setRow w g (o + i) cur t fz v hg]
    have k := ih (i + 1) (cur.setIfInBounds (o + i) v) (w.setRow g (cur.setIfInBounds (o + i) v)) (setRow_heap w g cur _ t _ hg) (by simpa using hfz) (by simp only [List.length_cons, Array.size_setIfInBounds] at hl ⊢; omega) (fun x hx => h1 x (by simp [hx]))
    simp only [storeCells, Sem.run_bind, hst, Result.andThen_ok, k, setRow_setRow]
    congr 3
    have q := list_seg_step cur.toList (o + i) v rest (by simp only [List.length_cons, Array.length_toList] at hl ⊢; omega)
    simpa [Array.toList_setIfInBounds, Nat.add_assoc] using q
theorem run_append_B {P : Program} (w : World) (base : Nat) (t ty e : TypeId) (i : TypeInfo) (ht : P.underlying t = some (.slice e)) (hi : P.info? e = some i) (hz : i.zero = some (.int .u8 0)) (hsize : i.size = 1) (hby : i.bytes = 1)
    (v : Value) (xs : List Int) (hown : BRw e w base v xs) (a : Addr) (c : Nat) (ys : List Int) (hnews : ∀ j u, (nums .u8 ys)[j]? = some u → w.cell? (a.add j) = some u)
    (hl : xs.length + ys.length ≤ 140737488355328) (hbase : base ≤ w.heap.size) :
    ∃ v' w', (Builtin.append_ #[t, t] ty #[v, .slice (some a) ys.length c]).run P w = .ok v' w' ∧ BRw e w' base v' (xs ++ ys) ∧ w.grownBy w' v.ownBlock := by
  have h1 : ∀ u ∈ nums .u8 ys, u.oneCell' = true := by
    intro u hu
    obtain ⟨x, _, rfl⟩ := List.mem_map.1 hu
    rfl
  have hyl : (nums .u8 ys).length = ys.length := nums_length _ _
  have hxl : (nums .u8 xs).length = xs.length := nums_length _ _
  have hc := hown.cell; obtain ⟨g, cap, cur, fz, rfl, hbg, hg, hfz, hnc, hcm, hcs, htake⟩ := hown
  by_cases hroom : xs.length + ys.length ≤ cap
  · have hf := run_firstCells_some (P := P) w 1 ys.length a ys.length c (nums .u8 ys) (by rw [hyl, Nat.mul_one]) hnews
    have hst := run_storeCells_B P g xs.length e fz (nums .u8 ys) 0 cur w hg hfz (by rw [hyl, Nat.add_zero, hcs]; exact hroom) h1
    simp only [Nat.add_zero] at hst
    refine ⟨.slice (some ⟨g, 0, none⟩) (xs.length + ys.length) cap, w.setRow g (cur.toList.take xs.length ++ nums .u8 ys ++ cur.toList.drop (xs.length + (nums .u8 ys).length)).toArray, ?_, ?_, ?_⟩
    · simp [Builtin.append_, run_underlying ht, sizeOf, typeInfo, hi, hsize, Builtin.lenOf, hroom, hf, Addr.add_lit, hst]
    · refine ⟨g, cap, _, fz, by rw [List.length_append], hbg, setRow_heap w g cur _ e _ hg, ?_, by rw [List.length_append]; exact hroom, hcm, ?_, ?_⟩
      · intro j hj
        refine hfz j ?_
        simp only [List.size_toArray, List.length_append, List.length_take, List.length_drop, Array.length_toList, hyl] at hj
        omega
      · simp only [List.size_toArray, List.length_append, List.length_take, List.length_drop, Array.length_toList, hyl]
        omega
      · rw [htake, nums_append, List.length_append, ← hxl, ← hyl, ← List.length_append]
        exact List.take_left
    · exact ⟨rfl, rfl, rfl, by simp, fun k _ hk => setRow_other w g k _ (fun e => hk (by simp [Value.ownBlock, e]))⟩
  · have holds : ∀ j u, (nums .u8 xs)[j]? = some u → w.cell? ((⟨g, 0, none⟩ : Addr).add j) = some u := by
      obtain ⟨g', cap', hv, hcell⟩ := hc
      injection hv with ha _ _
      injection ha with ha
      injection ha with ha _ _
      subst ha
      intro j u hu
      have hadd : (⟨g, 0, none⟩ : Addr).add j = ⟨g, j, none⟩ := by unfold Addr.add; split <;> simp_all
      rw [hadd]
      exact hcell j u hu
    have hr := run_append_grow (P := P) w t ty e i (.int .u8 0) ht hi hz ⟨g, 0, none⟩ xs.length cap (nums .u8 xs) (by rw [hsize, hxl, Nat.mul_one]) holds a ys.length c (nums .u8 ys) (by rw [hsize, hyl, Nat.mul_one]) hnews (by omega) (by omega) (by rw [hby]; exact growslice_fits (by omega) (by omega))
    have hge := grownCap_ge w (xs.length + ys.length) cap e
    have hcm2 := grownCap_le_maxLen w (xs.length + ys.length) cap e (by simp only [maxLen]; omega)
    simp only [maxLen] at hcm2
    refine ⟨_, _, hr, ⟨w.heap.size, _, _, (0, 0), by rw [List.length_append], hbase, heap_alloc_new w.drew _, ?_, by rw [List.length_append]; exact hge, by omega, ?_, ?_⟩, ⟨rfl, rfl, rfl, by simp, fun k hk _ => heap_alloc_old w.drew _ hk⟩⟩
    · intro j _ h
      exact absurd h.2 (Nat.not_lt_zero j)
    · have hz1 : (Value.int IntKind.u8 0).cells.size = 1 := rfl
      simp only [Array.size_append, List.size_toArray, size_zeroCells, hz1, hxl, hyl]
      omega
    · simp only [Array.toList_append, List.append_assoc]
      rw [nums_append, List.length_append, ← hxl, ← hyl, ← List.length_append, ← List.append_assoc]
      exact List.take_left
section
variable {P : Program} {ops : Array Oper} {rest : List Oper} {o : Oper} {a : Act} {Q : Exit → Act → World → Prop}
/-- append(v, x..), x a row of bytes that is read. -/
theorem BRw.append_rows {w0 W : World} (base : Nat) (hgd : o.guard = none) (s x : Operand) (t e : TypeId)
    (ho : o.op = .call { callee := .builtin .append, args := #[s, x], argTypes := #[t, t] })
    (ht : P.underlying t = some (.slice e)) (hinfo : (P.info? e).map (fun i => (i.zero, i.size, i.bytes)) = some (some (.int .u8 0), 1, 1))
    (v : Value) (xs ys : List Int) (g c : Nat) (hs : a.eval s = v) (hx : a.eval x = .slice (some ⟨g, 0, none⟩) ys.length c)
    (hnews : ∀ j, j < ys.length → W.cell? ⟨g, j, none⟩ = some (.int .u8 (ys.getD j 0)))
    (HO : BRw e W base v xs) (HB : Below base w0 W) (hbase : base ≤ W.heap.size) (hl : xs.length + ys.length ≤ 140737488355328)
    (h : ∀ v1 w1, BRw e w1 base v1 (xs ++ ys) → Below base w0 w1 → W.grownBy w1 v.ownBlock → wpList P ops Q rest (a.put o.dst v1) w1) : wpList P ops Q (o :: rest) a W := by
  obtain ⟨i0, hi, hzz⟩ := Option.map_eq_some_iff.1 hinfo
  simp only [Prod.mk.injEq] at hzz
  obtain ⟨hz0, hz1, hz2⟩ := hzz
  refine wpList_plain hgd fun K hK => ?_
  obtain ⟨v', w', hr, h2, h3⟩ := run_append_B (P := P) W base t o.type e i0 ht hi hz0 hz1 hz2 v xs HO ⟨g, 0, none⟩ c ys (by
    intro j u hu
    have hadd : (⟨g, 0, none⟩ : Addr).add j = ⟨g, j, none⟩ := by unfold Addr.add; split <;> simp_all
    have hj : j < ys.length := by
      have := (List.getElem?_eq_some_iff.1 hu).1
      rwa [nums_length] at this
    rw [hadd, hnews j hj]
    rw [← hu]
    simp [nums, List.getElem?_eq_getElem hj, List.getD_eq_getElem?_getD]) hl hbase
  unfold Oper.wp execOp
  simp only [ho, resolve, invoke, builtin, Sem.run_bind, Sem.run_pure, Result.andThen_ok, List.map_toArray, List.map_cons, List.map_nil, hs, hx, hr]
  exact hK _ _ (h v' w' h2 (HB.grown h3 hbase HO.from_) h3)
/-- append(v, p), behind 'at_builtin': the goal's world has the variadic's box. -/
theorem BRw.append_one {w0 W : World} (base : Nat) (hgd : o.guard = none) (s x : Operand) (t e : TypeId)
    (ho : o.op = .call { callee := .builtin .append, args := #[s, x], argTypes := #[t, t] })
    (ht : P.underlying t = some (.slice e)) (hinfo : (P.info? e).map (fun i => (i.zero, i.size, i.bytes)) = some (some (.int .u8 0), 1, 1))
    (v : Value) (xs : List Int) (p : Int) (hs : a.eval s = v) (hx : a.eval x = .slice (some ⟨W.heap.size, 0, none⟩) 1 1)
    (HO : BRw e W base v xs) (HB : Below base w0 W) (hbase : base ≤ W.heap.size) (hl : xs.length + 1 ≤ 140737488355328)
    (h : ∀ v1 w1, BRw e w1 base v1 (xs ++ [p]) → Below base w0 w1 → W.grownBy w1 v.ownBlock → wpList P ops Q rest (a.put o.dst v1) w1) : wpList P ops Q (o :: rest) a (W.alloc (.cells #[.int .u8 p] e)) := by
  have hn := heap_alloc_new W (.cells #[Value.int .u8 p] e)
  have hg0 : W.grownBy (W.alloc (.cells #[Value.int .u8 p] e)) v.ownBlock := World.grownBy_alloc W _ _
  refine BRw.append_rows (w0 := w0) base hgd s x t e ho ht hinfo v xs [p] W.heap.size 1 hs hx ?_ (HO.alloc _) (HB.grown hg0 hbase HO.from_) (Nat.le_trans hbase hg0.size) hl ?_
  · intro j hj
    have h0 : j = 0 := by simp only [List.length_singleton] at hj; omega
    subst h0
    rw [cell_of_row _ _ 0 _ _ _ hn]
    rfl
  · intro v1 w1 h1 h2 h3
    refine h v1 w1 h1 h2 ⟨h3.os.trans hg0.os, h3.tape.trans hg0.tape, h3.output.trans hg0.output, Nat.le_trans hg0.size h3.size, fun k hk hne => (h3.block k (Nat.lt_of_lt_of_le hk hg0.size) hne).trans (hg0.block k hk hne)⟩
end
theorem BRw.at_ {e : TypeId} {w : World} {base g n c : Nat} {ys : List Int} (h : BRw e w base (.slice (some ⟨g, 0, none⟩) n c) ys) : ∀ j, j < ys.length → w.cell? ⟨g, j, none⟩ = some (.int .u8 (ys.getD j 0)) := by
  obtain ⟨g', cap', hv, hc⟩ := h.cell
  injection hv with ha _ _
  injection ha with ha
  injection ha with ha _ _
  subst ha
  intro j hj
  exact hc j (.int .u8 (ys.getD j 0)) (by simp [nums, List.getElem?_eq_getElem hj, List.getD_eq_getElem?_getD])
section
variable {P : Program} {ops : Array Oper} {rest : List Oper} {o : Oper} {a : Act} {Q : Exit → Act → World → Prop}
/-- '[]byte(s)', an event. -/
theorem BRw.conv_event {W : World} (hgd : o.guard = none) {N : Tmp} (hd : o.dst = some N) (src dst e : TypeId) (x : Operand) (ho : o.op = .convert src dst x) (s : ByteArray) (hx : a.eval x = .string s) (hz : s.size ≤ 9223372036854775807) {u : TypeDesc}
    (hs : P.underlying src = some u) (hd' : P.underlying dst = some (.slice e)) (he : P.underlying e = some (.int .u8))
    (h : ∀ (g c : Nat) (w1 : World), BRw e w1 W.heap.size (.slice (some ⟨g, 0, none⟩) (bytesOf s).length c) (bytesOf s) → Below W.heap.size W w1 → wpList P ops Q rest (a.put o.dst (.slice (some ⟨g, 0, none⟩) (bytesOf s).length c)) w1) : wpList P ops Q (o :: rest) a W := by
  have hr := print_bytes (P := P) src dst e hs hd' he s W
  refine Kd.event_run hgd (w1 := Lib.bytesWorld W e s) (v := .slice (some ⟨W.heap.size, 0, none⟩) s.size (grownCap W s.size 0 e)) ?_ ?_
  · simp [execOp, ho, hx, hr]
  · have h2 := h W.heap.size (grownCap W s.size 0 e) (Lib.bytesWorld W e s) (BRw.conv W e s hz) (bytes_below (Below.refl _ _) (Nat.le_refl _) e s)
    rw [bytesOf_length] at h2
    exact h2
variable {Kc : Act → World → Prop}
/-- '[]byte(s)', a step of a region that draws. -/
theorem BRw.conv_step {W : World} (hw : Region.wanted o (yielded ops a.tmps) = true) {N : Tmp} (hd : o.dst = some N) (src dst e : TypeId) (x : Operand) (ho : o.op = .convert src dst x) (s : ByteArray) (hx : a.eval x = .string s) (hz : s.size ≤ 9223372036854775807) {u : TypeDesc}
    (hs : P.underlying src = some u) (hd' : P.underlying dst = some (.slice e)) (he : P.underlying e = some (.int .u8))
    (h : ∀ (v1 : Value) (w1 : World), BRw e w1 W.heap.size v1 (bytesOf s) → Below W.heap.size W w1 → Kc (a.put o.dst v1) w1) : if Region.wanted o (yielded ops a.tmps) = true then Oper.wp P o a W Kc Q else Kc (a.put o.dst undef) W := by
  have hr := print_bytes (P := P) src dst e hs hd' he s W
  have hrun : (execOp a.eval o).run P W = .ok (.value (.slice (some ⟨W.heap.size, 0, none⟩) s.size (grownCap W s.size 0 e))) (Lib.bytesWorld W e s) := by simp [execOp, ho, hx, hr]
  rw [if_pos hw]
  unfold Oper.wp
  rw [hrun]
  have h2 := h _ (Lib.bytesWorld W e s) (BRw.conv W e s hz) (bytes_below (Below.refl _ _) (Nat.le_refl _) e s); rw [bytesOf_length] at h2
  exact h2
end
theorem brw_q {p q : Prop} (h : Aside0 p) (hq : p → q := by intro h; (with_reducible repeat (first | apply BRw.alloc | apply BRw.drew)); exact h) : q := hq h.out
set_option maxHeartbeats 8000000 in
set_option maxRecDepth 100000 in
theorem spec_PacketText.calls (k : Nat) (a0_0 : Int) (a0_1 : Int) (a0_2 : Int) (a0_3 : Int) (A0_4 : Option Addr) (c0_4 : Nat) (l0_4 : List Int) (A0_5 : Option Addr) (c0_5 : Nat) (l0_5 : List (S24)) (r1 : ByteArray) (r2 : Bool) (w : World) (hr0_4 : Kd.C (Kd.int .i64) w A0_4 l0_4.length l0_4) (hc0_4 : l0_4.length ≤ c0_4) (hr0_5 : Kd.C k24 w A0_5 l0_5.length l0_5) (hc0_5 : l0_5.length ≤ c0_5) (h : spec_PacketText.f k a0_0 a0_1 a0_2 a0_3 l0_4 l0_5 = some (r1, r2)) :
  Calls Try.prog 15 #[.agg #[.int .i64 a0_0, .int .i64 a0_1, .int .i64 a0_2, .int .i64 a0_3, .slice A0_4 l0_4.length c0_4, .slice A0_5 l0_5.length c0_5]] w fun e w' => e = .returned (.tuple #[.string r1, .bool r2]) ∧ Below w.heap.size w w' := by
 have hu39 := Try.underlying39; have hu24 := Try.underlying24; have HR0_4 := Aside0.mk hr0_4; have HC0_4 := Aside0.mk hc0_4; clear hr0_4 hc0_4; have HR0_5 := Aside0.mk hr0_5; have HC0_5 := Aside0.mk hc0_5; clear hr0_5 hc0_5; have HB := Aside0.mk (Below.refl w.heap.size w)
 have H : ((spec_PacketOk.f k a0_0 a0_1 a0_2 a0_3 l0_4 l0_5).bind fun t551 => (if t551 = true then ((spec_l04Byte.f a0_0).bind fun t552 => ((spec_l04Byte.f a0_1).bind fun t553 => (if t552.size + t553.size ≤ 9223372036854775807 then ((spec_l04Byte.f a0_2).bind fun t554 => (if (t552 ++ t553).size + t554.size ≤ 9223372036854775807 then ((spec_l04Byte.f a0_3).bind fun t555 => (if ((t552 ++ t553) ++ t554).size + t555.size ≤ 9223372036854775807 then ((spec_l01Var.f k (l0_4.length : Int)).bind fun t556 => (if (((t552 ++ t553) ++ t554) ++ t555).size + t556.size ≤ 9223372036854775807 then (if ((((t552 ++ t553) ++ t554) ++ t555) ++ t556).size ≤ 140737488355328 then (spec_PacketText.l0 k (bytesOf ((((t552 ++ t553) ++ t554) ++ t555) ++ t556)) 0 a0_0 a0_1 a0_2 a0_3 l0_4 l0_5) else (none)) else (none))) else (none))) else (none))) else (none)))) else (some ((⟨#[]⟩ : ByteArray), false)))) = some (r1, r2) := h
 clear h; replace H := Option.bind_eq_some_iff.mp H; obtain ⟨t551, A20, H⟩ := H
 replace H : (if t551 = true then ((spec_l04Byte.f a0_0).bind fun t552 => ((spec_l04Byte.f a0_1).bind fun t553 => (if t552.size + t553.size ≤ 9223372036854775807 then ((spec_l04Byte.f a0_2).bind fun t554 => (if (t552 ++ t553).size + t554.size ≤ 9223372036854775807 then ((spec_l04Byte.f a0_3).bind fun t555 => (if ((t552 ++ t553) ++ t554).size + t555.size ≤ 9223372036854775807 then ((spec_l01Var.f k (l0_4.length : Int)).bind fun t556 => (if (((t552 ++ t553) ++ t554) ++ t555).size + t556.size ≤ 9223372036854775807 then (if ((((t552 ++ t553) ++ t554) ++ t555) ++ t556).size ≤ 140737488355328 then (spec_PacketText.l0 k (bytesOf ((((t552 ++ t553) ++ t554) ++ t555) ++ t556)) 0 a0_0 a0_1 a0_2 a0_3 l0_4 l0_5) else (none)) else (none))) else (none))) else (none))) else (none)))) else (some ((⟨#[]⟩ : ByteArray), false))) = some (r1, r2) := H
 have A2 := Aside0.mk A20; clear A20; have HC3 := Aside0.mk H; clear H
 go_enter Try.func15, Try.ntmps15
 go_upto_if 11 with (first | ((with_reducible refine gate_dst (N := 1) rfl ?_); refine box_q 1 #[.int .i64 a0_0, .int .i64 a0_1, .int .i64 a0_2, .int .i64 a0_3, .slice A0_4 l0_4.length c0_4, .slice A0_5 l0_5.length c0_5] 39 ?_; intro gb550 hg w4 hbox hb; have BK550 := Aside0.mk (hbox); have GW550 := Aside0.mk ((by rw [hg]; exact (below_size (bw_q HB)) : w.heap.size ≤ gb550)); have GE550 := Aside0.mk ((by rw [hg]; exact (below_size (bw_q HB)) : w.heap.size ≤ gb550)); replace HB := Aside0.mk (below_step (bw_q HB) hb); clear hb hbox hg; have hcz5_0 : w4.cell? ⟨gb550, 0, none⟩ = some (.int .i64 a0_0) := (blk_cell BK550.out 0).trans rfl; have hcz5_1 : w4.cell? ⟨gb550, 1, none⟩ = some (.int .i64 a0_1) := (blk_cell BK550.out 1).trans rfl; have hcz5_2 : w4.cell? ⟨gb550, 2, none⟩ = some (.int .i64 a0_2) := (blk_cell BK550.out 2).trans rfl; have hcz5_3 : w4.cell? ⟨gb550, 3, none⟩ = some (.int .i64 a0_3) := (blk_cell BK550.out 3).trans rfl; have hcz5_4 : w4.cell? ⟨gb550, 4, none⟩ = some (.slice A0_4 l0_4.length c0_4) := (blk_cell BK550.out 4).trans rfl; have hcz5_5 : w4.cell? ⟨gb550, 5, none⟩ = some (.slice A0_5 l0_5.length c0_5) := (blk_cell BK550.out 5).trans rfl; have hfz5_0 := blk_frozen BK550.out 0; have hfz5_1 := blk_frozen BK550.out 1; have hfz5_2 := blk_frozen BK550.out 2; have hfz5_3 := blk_frozen BK550.out 3; have hfz5_4 := blk_frozen BK550.out 4; have hfz5_5 := blk_frozen BK550.out 5) | ((with_reducible refine gate_callee (f := 30) rfl ?_); refine goesL_ (some 10) rfl rfl Try.func30 (by kernel_rfl) rfl #[.agg #[.int .i64 a0_0, .int .i64 a0_1, .int .i64 a0_2, .int .i64 a0_3, .slice A0_4 l0_4.length c0_4, .slice A0_5 l0_5.length c0_5]] rfl mp_q ?_; (with_reducible refine (spec_PacketOk.calls k a0_0 a0_1 a0_2 a0_3 _ _ l0_4 _ _ l0_5 t551 _ ?side1 ?side2 ?side3 ?side4 A2.out).mono ?_); (case side1 => exact cs_q (Kd.C_below HR0_4.out HB.out)); (case side2 => exact HC0_4.out); (case side3 => exact cs_q (Kd.C_below HR0_5.out HB.out)); (case side4 => exact HC0_5.out); rintro e w6 ⟨rfl, hb⟩; refine ⟨_, rfl, ?_⟩; replace BK550 := Aside0.mk (blk_below (g := gb550) (bk_q BK550) hb); replace HB := Aside0.mk (below_step (bw_q HB) hb); (try clear hb); (try clear hb2); (try clear hk); (try clear hi)))
 have H := HC3.out; clear HC3
 by_cases c7 : t551 = true
 ·subst c7
  replace H : ((spec_l04Byte.f a0_0).bind fun t552 => ((spec_l04Byte.f a0_1).bind fun t553 => (if t552.size + t553.size ≤ 9223372036854775807 then ((spec_l04Byte.f a0_2).bind fun t554 => (if (t552 ++ t553).size + t554.size ≤ 9223372036854775807 then ((spec_l04Byte.f a0_3).bind fun t555 => (if ((t552 ++ t553) ++ t554).size + t555.size ≤ 9223372036854775807 then ((spec_l01Var.f k (l0_4.length : Int)).bind fun t556 => (if (((t552 ++ t553) ++ t554) ++ t555).size + t556.size ≤ 9223372036854775807 then (if ((((t552 ++ t553) ++ t554) ++ t555) ++ t556).size ≤ 140737488355328 then (spec_PacketText.l0 k (bytesOf ((((t552 ++ t553) ++ t554) ++ t555) ++ t556)) 0 a0_0 a0_1 a0_2 a0_3 l0_4 l0_5) else (none)) else (none))) else (none))) else (none))) else (none)))) = some (r1, r2) := by rw [if_pos rfl] at H; exact H
  replace H := Option.bind_eq_some_iff.mp H; obtain ⟨t552, A80, H⟩ := H
  replace H : ((spec_l04Byte.f a0_1).bind fun t553 => (if t552.size + t553.size ≤ 9223372036854775807 then ((spec_l04Byte.f a0_2).bind fun t554 => (if (t552 ++ t553).size + t554.size ≤ 9223372036854775807 then ((spec_l04Byte.f a0_3).bind fun t555 => (if ((t552 ++ t553) ++ t554).size + t555.size ≤ 9223372036854775807 then ((spec_l01Var.f k (l0_4.length : Int)).bind fun t556 => (if (((t552 ++ t553) ++ t554) ++ t555).size + t556.size ≤ 9223372036854775807 then (if ((((t552 ++ t553) ++ t554) ++ t555) ++ t556).size ≤ 140737488355328 then (spec_PacketText.l0 k (bytesOf ((((t552 ++ t553) ++ t554) ++ t555) ++ t556)) 0 a0_0 a0_1 a0_2 a0_3 l0_4 l0_5) else (none)) else (none))) else (none))) else (none))) else (none))) = some (r1, r2) := H
  have A8 := Aside0.mk A80; clear A80; replace H := Option.bind_eq_some_iff.mp H; obtain ⟨t553, A90, H⟩ := H
  replace H : (if t552.size + t553.size ≤ 9223372036854775807 then ((spec_l04Byte.f a0_2).bind fun t554 => (if (t552 ++ t553).size + t554.size ≤ 9223372036854775807 then ((spec_l04Byte.f a0_3).bind fun t555 => (if ((t552 ++ t553) ++ t554).size + t555.size ≤ 9223372036854775807 then ((spec_l01Var.f k (l0_4.length : Int)).bind fun t556 => (if (((t552 ++ t553) ++ t554) ++ t555).size + t556.size ≤ 9223372036854775807 then (if ((((t552 ++ t553) ++ t554) ++ t555) ++ t556).size ≤ 140737488355328 then (spec_PacketText.l0 k (bytesOf ((((t552 ++ t553) ++ t554) ++ t555) ++ t556)) 0 a0_0 a0_1 a0_2 a0_3 l0_4 l0_5) else (none)) else (none))) else (none))) else (none))) else (none)) = some (r1, r2) := H
  have A9 := Aside0.mk A90; clear A90
  by_cases c10 : t552.size + t553.size ≤ 9223372036854775807
  ·rw [if_pos c10] at H; have c10b0 := eq_true c10
   have c10b1 : decide (t552.size + t553.size ≤ 9223372036854775807) = true := decide_eq_true c10
   try have c10b2 : (9223372036854775807 < t552.size + t553.size) = False := eq_false (Nat.not_lt.2 c10)
   try (have c10b3 := c10b2; simp only [ByteArray.size_append] at c10b3)
   replace H := Option.bind_eq_some_iff.mp H; obtain ⟨t554, A110, H⟩ := H
   replace H : (if (t552 ++ t553).size + t554.size ≤ 9223372036854775807 then ((spec_l04Byte.f a0_3).bind fun t555 => (if ((t552 ++ t553) ++ t554).size + t555.size ≤ 9223372036854775807 then ((spec_l01Var.f k (l0_4.length : Int)).bind fun t556 => (if (((t552 ++ t553) ++ t554) ++ t555).size + t556.size ≤ 9223372036854775807 then (if ((((t552 ++ t553) ++ t554) ++ t555) ++ t556).size ≤ 140737488355328 then (spec_PacketText.l0 k (bytesOf ((((t552 ++ t553) ++ t554) ++ t555) ++ t556)) 0 a0_0 a0_1 a0_2 a0_3 l0_4 l0_5) else (none)) else (none))) else (none))) else (none)) = some (r1, r2) := H
   have A11 := Aside0.mk A110; clear A110
   by_cases c12 : (t552 ++ t553).size + t554.size ≤ 9223372036854775807
   ·rw [if_pos c12] at H; have c12b0 := eq_true c12
    have c12b1 : decide ((t552 ++ t553).size + t554.size ≤ 9223372036854775807) = true := decide_eq_true c12
    try have c12b2 : (9223372036854775807 < (t552 ++ t553).size + t554.size) = False := eq_false (Nat.not_lt.2 c12)
    try (have c12b3 := c12b2; simp only [ByteArray.size_append] at c12b3)
    replace H := Option.bind_eq_some_iff.mp H; obtain ⟨t555, A130, H⟩ := H
    replace H : (if ((t552 ++ t553) ++ t554).size + t555.size ≤ 9223372036854775807 then ((spec_l01Var.f k (l0_4.length : Int)).bind fun t556 => (if (((t552 ++ t553) ++ t554) ++ t555).size + t556.size ≤ 9223372036854775807 then (if ((((t552 ++ t553) ++ t554) ++ t555) ++ t556).size ≤ 140737488355328 then (spec_PacketText.l0 k (bytesOf ((((t552 ++ t553) ++ t554) ++ t555) ++ t556)) 0 a0_0 a0_1 a0_2 a0_3 l0_4 l0_5) else (none)) else (none))) else (none)) = some (r1, r2) := H
    have A13 := Aside0.mk A130; clear A130
    by_cases c14 : ((t552 ++ t553) ++ t554).size + t555.size ≤ 9223372036854775807
    ·rw [if_pos c14] at H; have c14b0 := eq_true c14
     have c14b1 : decide (((t552 ++ t553) ++ t554).size + t555.size ≤ 9223372036854775807) = true := decide_eq_true c14
     try have c14b2 : (9223372036854775807 < ((t552 ++ t553) ++ t554).size + t555.size) = False := eq_false (Nat.not_lt.2 c14)
     try (have c14b3 := c14b2; simp only [ByteArray.size_append] at c14b3)
     replace H := Option.bind_eq_some_iff.mp H; obtain ⟨t556, A150, H⟩ := H
     replace H : (if (((t552 ++ t553) ++ t554) ++ t555).size + t556.size ≤ 9223372036854775807 then (if ((((t552 ++ t553) ++ t554) ++ t555) ++ t556).size ≤ 140737488355328 then (spec_PacketText.l0 k (bytesOf ((((t552 ++ t553) ++ t554) ++ t555) ++ t556)) 0 a0_0 a0_1 a0_2 a0_3 l0_4 l0_5) else (none)) else (none)) = some (r1, r2) := H
     have A15 := Aside0.mk A150; clear A150
     by_cases c16 : (((t552 ++ t553) ++ t554) ++ t555).size + t556.size ≤ 9223372036854775807
     ·rw [if_pos c16] at H; have c16b0 := eq_true c16
      have c16b1 : decide ((((t552 ++ t553) ++ t554) ++ t555).size + t556.size ≤ 9223372036854775807) = true := decide_eq_true c16
      try have c16b2 : (9223372036854775807 < (((t552 ++ t553) ++ t554) ++ t555).size + t556.size) = False := eq_false (Nat.not_lt.2 c16)
      try (have c16b3 := c16b2; simp only [ByteArray.size_append] at c16b3)
      by_cases c17 : ((((t552 ++ t553) ++ t554) ++ t555) ++ t556).size ≤ 140737488355328
      ·rw [if_pos c17] at H; have c17b0 := eq_true c17
       have c17b1 : decide (((((t552 ++ t553) ++ t554) ++ t555) ++ t556).size ≤ 140737488355328) = true := decide_eq_true c17
       clear c17; obtain ⟨y557, hy557⟩ : ∃ y_ : List Int, y_ = (bytesOf ((((t552 ++ t553) ++ t554) ++ t555) ++ t556)) := ⟨_, rfl⟩
       replace H : (spec_PacketText.l0 k y557 0 a0_0 a0_1 a0_2 a0_3 l0_4 l0_5) = some (r1, r2) := by first | (rw [hy557]; with_reducible exact H) | (have H2_ := (Option.bind_some _ _).symm.trans H; rw [hy557]; with_reducible exact H2_) | (have H2_ := (Option.bind_some _ _).symm.trans H; with_reducible exact H2_) | with_reducible exact H | (rw [hy557]; exact H) | exact H
       have Ny557 := Aside0.mk hy557; clear hy557; have H' := Aside0.mk H; clear H
       try go_wp2
       replace BK550 := Aside0.mk (blk_drew BK550.out); replace HB := Aside0.mk (below_drew1 HB.out)
       refine start_ (n := 22) (S := fun w' => w'.cell? ⟨gb550, 0, none⟩ = some (.int .i64 a0_0) ∧ w'.cell? ⟨gb550, 1, none⟩ = some (.int .i64 a0_1) ∧ w'.cell? ⟨gb550, 2, none⟩ = some (.int .i64 a0_2) ∧ w'.cell? ⟨gb550, 3, none⟩ = some (.int .i64 a0_3) ∧ w'.cell? ⟨gb550, 4, none⟩ = some (.slice A0_4 l0_4.length c0_4) ∧ w'.cell? ⟨gb550, 5, none⟩ = some (.slice A0_5 l0_5.length c0_5)) (ds := []) (bL 22 0) (by kernel_rfl) rfl rfl ⟨(blk_cell BK550.out 0).trans rfl, (blk_cell BK550.out 1).trans rfl, (blk_cell BK550.out 2).trans rfl, (blk_cell BK550.out 3).trans rfl, (blk_cell BK550.out 4).trans rfl, (blk_cell BK550.out 5).trans rfl⟩ (fun hHeld => ?_); refine with_tabW spec_PacketText.tab3 spec_PacketText.bits3 (fun HT_ HW_ => ?_)
       generalize w6.drew = w18 at BK550 HB hHeld ⊢
       refine pq_ 0 12 (bL 22 1) HT_.out rfl rfl ?_
       refine pq_ 3 15 (bL 22 9) HT_.out rfl rfl ?_
       refine pq_ 7 19 (bL 22 137) HT_.out rfl rfl ?_
       refine pq_ 11 23 (bL 22 2185) HT_.out rfl rfl ?_
       refine pq_ 15 27 (bL 22 34953) HT_.out rfl rfl ?_
       refine take_ (i := 1) (N := some 13) (v := ?_) (a' := ?_) (bL 22 34955) rfl rfl (take_ofW HT_.out HW_.out (by kernel_rfl)) (fun _ _ _ h => h) (Or.inl ⟨by rfl, ?_⟩) hHeld ?_ ?_; rotate_left; (rintro w' ⟨s0, s1, s2, s3, s4, s5⟩; go_simp; with_reducible rfl); rotate_left; (exact put_q)
       refine take_ (i := 4) (N := some 16) (v := ?_) (a' := ?_) (bL 22 34971) rfl rfl (take_ofW HT_.out HW_.out (by kernel_rfl)) (fun _ _ _ h => h) (Or.inl ⟨by rfl, ?_⟩) hHeld ?_ ?_; rotate_left; (rintro w' ⟨s0, s1, s2, s3, s4, s5⟩; go_simp; with_reducible rfl); rotate_left; (exact put_q)
       refine take_ (i := 8) (N := some 20) (v := ?_) (a' := ?_) (bL 22 35227) rfl rfl (take_ofW HT_.out HW_.out (by kernel_rfl)) (fun _ _ _ h => h) (Or.inl ⟨by rfl, ?_⟩) hHeld ?_ ?_; rotate_left; (rintro w' ⟨s0, s1, s2, s3, s4, s5⟩; go_simp; with_reducible rfl); rotate_left; (exact put_q)
       refine take_ (i := 12) (N := some 24) (v := ?_) (a' := ?_) (bL 22 39323) rfl rfl (take_ofW HT_.out HW_.out (by kernel_rfl)) (fun _ _ _ h => h) (Or.inl ⟨by rfl, ?_⟩) hHeld ?_ ?_; rotate_left; (rintro w' ⟨s0, s1, s2, s3, s4, s5⟩; go_simp; with_reducible rfl); rotate_left; (exact put_q)
       refine take_ (i := 16) (N := some 28) (v := ?_) (a' := ?_) (bL 22 104859) rfl rfl (take_ofW HT_.out HW_.out (by kernel_rfl)) (fun _ _ _ h => h) (Or.inl ⟨by rfl, ?_⟩) hHeld ?_ ?_; rotate_left; (rintro w' ⟨s0, s1, s2, s3, s4, s5⟩; go_simp; with_reducible rfl); rotate_left; (exact put_q)
       refine pq_ 17 29 (bL 22 235931) HT_.out rfl rfl ?_
       refine one_ (i := 2) (N := some 14) (bL 22 235935) rfl rfl (one_of HT_.out (by kernel_rfl)) (by decide) (fun K hK => ?_)
       refine goes_ Try.func48 (by kernel_rfl) rfl #[.int .i64 a0_0] (by rfl) rfl rfl mp_q ?_
       with_reducible refine (spec_l04Byte.calls a0_0 t552 _ A8.out).mono ?_
       rintro e w19 ⟨rfl, hb⟩
       refine ⟨_, rfl, ?_⟩
       replace BK550 := Aside0.mk (blk_below (g := gb550) (bk_q BK550) hb); replace HB := Aside0.mk (below_step (bw_q HB) hb); (try clear hb); (try clear hb2); (try clear hk); (try clear hi)
       refine hK.out _ _ ⟨(blk_cell BK550.out 0).trans rfl, (blk_cell BK550.out 1).trans rfl, (blk_cell BK550.out 2).trans rfl, (blk_cell BK550.out 3).trans rfl, (blk_cell BK550.out 4).trans rfl, (blk_cell BK550.out 5).trans rfl⟩ (fun hHeld => ?_)
       clear hK K
       refine norm_ (a' := ?_) ?_ ?_; rotate_left; (show Act.put _ (some 14) _ = _; simp only [Act.put, List.setIfInBounds_toArray, List.set_cons_zero, List.set_cons_succ, i64_w, i32_w]; rfl)
       refine one_ (i := 5) (N := some 17) (bL 22 235967) rfl rfl (one_of HT_.out (by kernel_rfl)) (by decide) (fun K hK => ?_)
       refine goes_ Try.func48 (by kernel_rfl) rfl #[.int .i64 a0_1] (by rfl) rfl rfl mp_q ?_
       with_reducible refine (spec_l04Byte.calls a0_1 t553 _ A9.out).mono ?_
       rintro e w20 ⟨rfl, hb⟩
       refine ⟨_, rfl, ?_⟩
       replace BK550 := Aside0.mk (blk_below (g := gb550) (bk_q BK550) hb); replace HB := Aside0.mk (below_step (bw_q HB) hb); (try clear hb); (try clear hb2); (try clear hk); (try clear hi)
       refine hK.out _ _ ⟨(blk_cell BK550.out 0).trans rfl, (blk_cell BK550.out 1).trans rfl, (blk_cell BK550.out 2).trans rfl, (blk_cell BK550.out 3).trans rfl, (blk_cell BK550.out 4).trans rfl, (blk_cell BK550.out 5).trans rfl⟩ (fun hHeld => ?_)
       clear hK K
       refine norm_ (a' := ?_) ?_ ?_; rotate_left; (show Act.put _ (some 17) _ = _; simp only [Act.put, List.setIfInBounds_toArray, List.set_cons_zero, List.set_cons_succ, i64_w, i32_w]; rfl)
       refine pq_ 6 18 (bL 22 236031) HT_.out rfl rfl ?_
       refine one_ (i := 9) (N := some 21) (bL 22 236543) rfl rfl (one_of HT_.out (by kernel_rfl)) (by decide) (fun K hK => ?_)
       refine goes_ Try.func48 (by kernel_rfl) rfl #[.int .i64 a0_2] (by rfl) rfl rfl mp_q ?_
       with_reducible refine (spec_l04Byte.calls a0_2 t554 _ A11.out).mono ?_
       rintro e w21 ⟨rfl, hb⟩
       refine ⟨_, rfl, ?_⟩
       replace BK550 := Aside0.mk (blk_below (g := gb550) (bk_q BK550) hb); replace HB := Aside0.mk (below_step (bw_q HB) hb); (try clear hb); (try clear hb2); (try clear hk); (try clear hi)
       refine hK.out _ _ ⟨(blk_cell BK550.out 0).trans rfl, (blk_cell BK550.out 1).trans rfl, (blk_cell BK550.out 2).trans rfl, (blk_cell BK550.out 3).trans rfl, (blk_cell BK550.out 4).trans rfl, (blk_cell BK550.out 5).trans rfl⟩ (fun hHeld => ?_)
       clear hK K
       refine norm_ (a' := ?_) ?_ ?_; rotate_left; (show Act.put _ (some 21) _ = _; simp only [Act.put, List.setIfInBounds_toArray, List.set_cons_zero, List.set_cons_succ, i64_w, i32_w]; rfl)
       refine pq_ 10 22 (bL 22 237567) HT_.out rfl rfl ?_
       refine one_ (i := 13) (N := some 25) (bL 22 245759) rfl rfl (one_of HT_.out (by kernel_rfl)) (by decide) (fun K hK => ?_)
       refine goes_ Try.func48 (by kernel_rfl) rfl #[.int .i64 a0_3] (by rfl) rfl rfl mp_q ?_
       with_reducible refine (spec_l04Byte.calls a0_3 t555 _ A13.out).mono ?_
       rintro e w22 ⟨rfl, hb⟩
       refine ⟨_, rfl, ?_⟩
       replace BK550 := Aside0.mk (blk_below (g := gb550) (bk_q BK550) hb); replace HB := Aside0.mk (below_step (bw_q HB) hb); (try clear hb); (try clear hb2); (try clear hk); (try clear hi)
       refine hK.out _ _ ⟨(blk_cell BK550.out 0).trans rfl, (blk_cell BK550.out 1).trans rfl, (blk_cell BK550.out 2).trans rfl, (blk_cell BK550.out 3).trans rfl, (blk_cell BK550.out 4).trans rfl, (blk_cell BK550.out 5).trans rfl⟩ (fun hHeld => ?_)
       clear hK K
       refine norm_ (a' := ?_) ?_ ?_; rotate_left; (show Act.put _ (some 25) _ = _; simp only [Act.put, List.setIfInBounds_toArray, List.set_cons_zero, List.set_cons_succ, i64_w, i32_w]; rfl)
       refine pq_ 14 26 (bL 22 262143) HT_.out rfl rfl ?_
       refine one_ (i := 18) (N := some 30) (bL 22 524287) rfl rfl (one_of HT_.out (by kernel_rfl)) (by decide) (fun K hK => ?_)
       refine goes_ Try.func49 (by kernel_rfl) rfl #[.int .i64 (l0_4.length : Int)] (by rfl) rfl rfl mp_q ?_
       with_reducible refine (spec_l01Var.calls k (l0_4.length : Int) t556 _ A15.out).mono ?_
       rintro e w23 ⟨rfl, hb⟩
       refine ⟨_, rfl, ?_⟩
       replace BK550 := Aside0.mk (blk_below (g := gb550) (bk_q BK550) hb); replace HB := Aside0.mk (below_step (bw_q HB) hb); (try clear hb); (try clear hb2); (try clear hk); (try clear hi)
       refine hK.out _ _ ⟨(blk_cell BK550.out 0).trans rfl, (blk_cell BK550.out 1).trans rfl, (blk_cell BK550.out 2).trans rfl, (blk_cell BK550.out 3).trans rfl, (blk_cell BK550.out 4).trans rfl, (blk_cell BK550.out 5).trans rfl⟩ (fun hHeld => ?_)
       clear hK K
       refine norm_ (a' := ?_) ?_ ?_; rotate_left; (show Act.put _ (some 30) _ = _; simp only [Act.put, List.setIfInBounds_toArray, List.set_cons_zero, List.set_cons_succ, i64_w, i32_w]; rfl)
       refine pq_ 19 31 (bL 22 1048575) HT_.out rfl rfl ?_
       refine one_ (i := 20) (N := some 32) (bL 22 2097151) rfl rfl (one_of HT_.out (by kernel_rfl)) (by decide) (fun K hK => ?_)
       refine BRw.conv_step (P := Try.prog) (by rfl) (N := 32) rfl 9 46 5 _ rfl ((((t552 ++ t553) ++ t554) ++ t555) ++ t556) rfl (by have := of_eq_true c17b0; omega) Try.underlying9 Try.underlying46 Try.underlying5 ?_
       intro v558 w24 ho25 hb
       rw [← Ny557.out] at ho25; have HO559 := Aside0.mk (BRw.lower ho25 (below_size (bw_q HB))); replace BK550 := Aside0.mk (blk_below (g := gb550) (bk_q BK550) hb); replace HB := Aside0.mk (below_step (bw_q HB) hb); clear hb ho25
       refine hK.out _ _ ⟨(blk_cell BK550.out 0).trans rfl, (blk_cell BK550.out 1).trans rfl, (blk_cell BK550.out 2).trans rfl, (blk_cell BK550.out 3).trans rfl, (blk_cell BK550.out 4).trans rfl, (blk_cell BK550.out 5).trans rfl⟩ (fun hHeld => ?_)
       clear hK K
       refine norm_ (a' := ?_) ?_ ?_; rotate_left; (show Act.put _ (some 32) _ = _; simp only [Act.put, List.setIfInBounds_toArray, List.set_cons_zero, List.set_cons_succ, i64_w, i32_w]; rfl)
       refine pq_ 21 4 (bL 22 4194303) HT_.out rfl rfl ?_
       refine done_ (done_of HT_.out (by kernel_rfl)) ?_
       try go_wp2
       go_loopg [4, 5] k (fun kq v4 v5 w' => ∃ (x4_1 : List Int) (x5_1 : Int), v5 = .int .i64 x5_1 ∧ Aside0 (spec_PacketText.l0 kq x4_1 x5_1 a0_0 a0_1 a0_2 a0_3 l0_4 l0_5 = some (r1, r2)) ∧ Aside0 (kq ≤ k) ∧ Aside0 (BRw 5 w' w.heap.size v4 x4_1) ∧ Aside0 (w'.heap[gb550]? = some (.cells #[.int .i64 a0_0, .int .i64 a0_1, .int .i64 a0_2, .int .i64 a0_3, (.slice A0_4 l0_4.length c0_4), (.slice A0_5 l0_5.length c0_5)] 39 (0, 0))) ∧ Aside0 (Below w.heap.size w w'))
       case atStart => exact ⟨(y557), (0), (by first | rfl | (simp; done) | (simp [*]; done)), H', ⟨Nat.le_refl _⟩, ⟨by (with_reducible repeat (first | apply BRw.alloc | apply BRw.drew)); exact HO559.out⟩, ⟨by refine bz_ ?_; exact BK550.out⟩, ⟨bw_q HB⟩⟩
       case round =>
        clear H'; (try clear c1); (try clear p2); (try clear c3); (try clear c4); (try clear c7); (try clear c10); (try clear c10b0); (try clear c10b1); (try clear c10b2); (try clear c12); (try clear c12b0); (try clear c12b1); (try clear c12b2); (try clear c14); (try clear c14b0); (try clear c14b1); (try clear c14b2); (try clear c15); (try clear c16); (try clear c16b0); (try clear c16b1); (try clear c16b2); (try clear c17); (try clear c17b0); (try clear c17b1); (try clear hcz5_0); (try clear hcz5_1); (try clear hcz5_2); (try clear hcz5_3); (try clear hcz5_4); (try clear hcz5_5); (try clear hfz5_0); (try clear hfz5_1); (try clear hfz5_2); (try clear hfz5_3); (try clear hfz5_4); (try clear hfz5_5); obtain ⟨x4_1, x5_1, rfl, HA, HK1, HO_4, BK550, HB⟩ := hrel
        cases gk with
        | zero => exact absurd HA.out (by simp [spec_PacketText.l0])
        | succ k1 =>
         have H := HA.out; clear HA
         simp only [spec_PacketText.l0] at H
         by_cases c26 : x5_1 < (l0_4.length : Int)
         ·rw [if_pos c26] at H
          have c26b0 : decide (x5_1 < (l0_4.length : Int)) = true := decide_eq_true c26
          clear c26
          (first | rw [c26b0] | rw [c26b1] | (simp only [i64_w, i32_w]; first | rw [c26b0] | rw [c26b1]) | skip)
          by_cases c27 : 0 ≤ x5_1
          ·rw [if_pos c27] at H
           have c27b0 : decide (0 ≤ x5_1) = true := decide_eq_true c27
           clear c27
           by_cases c28 : x4_1.length < 140737488355328
           ·rw [if_pos c28] at H; have LMc28 := Aside0.mk c28; clear c28; obtain ⟨y561, hy561⟩ : ∃ y_ : List Int, y_ = (x4_1 ++ [(rd l0_4 x5_1) % 256]) := ⟨_, rfl⟩
            replace H : (spec_PacketText.l0 k1 y561 (wrap64 (x5_1 + 1)) a0_0 a0_1 a0_2 a0_3 l0_4 l0_5) = some (r1, r2) := by first | (rw [hy561]; with_reducible exact H) | (have H2_ := (Option.bind_some _ _).symm.trans H; rw [hy561]; with_reducible exact H2_) | (have H2_ := (Option.bind_some _ _).symm.trans H; with_reducible exact H2_) | with_reducible exact H | (rw [hy561]; exact H) | exact H
            have Ny561 := Aside0.mk hy561; clear hy561; have H' := Aside0.mk H; clear H
            have hcz29_0 : wr.cell? ⟨gb550, 0, none⟩ = some (.int .i64 a0_0) := (blk_cell BK550.out 0).trans rfl
            have hcz29_1 : wr.cell? ⟨gb550, 1, none⟩ = some (.int .i64 a0_1) := (blk_cell BK550.out 1).trans rfl
            have hcz29_2 : wr.cell? ⟨gb550, 2, none⟩ = some (.int .i64 a0_2) := (blk_cell BK550.out 2).trans rfl
            have hcz29_3 : wr.cell? ⟨gb550, 3, none⟩ = some (.int .i64 a0_3) := (blk_cell BK550.out 3).trans rfl
            have hcz29_4 : wr.cell? ⟨gb550, 4, none⟩ = some (.slice A0_4 l0_4.length c0_4) := (blk_cell BK550.out 4).trans rfl
            have hcz29_5 : wr.cell? ⟨gb550, 5, none⟩ = some (.slice A0_5 l0_5.length c0_5) := (blk_cell BK550.out 5).trans rfl
            have hfz29_0 := blk_frozen BK550.out 0; have hfz29_1 := blk_frozen BK550.out 1; have hfz29_2 := blk_frozen BK550.out 2; have hfz29_3 := blk_frozen BK550.out 3; have hfz29_4 := blk_frozen BK550.out 4; have hfz29_5 := blk_frozen BK550.out 5
            have p560 : 0 ≤ (x5_1 : Int) := of_decide_eq_true as_q
            have q560 : x5_1 < (l0_4.length : Int) := of_decide_eq_true as_q
            obtain ⟨ad560, e560, hx560_0⟩ := Kd.at_int HR0_4.out x5_1 p560 q560
            cases e560
            replace hx560_0 := (HB.out.cell (World.block_lt_of_cell? w _ hx560_0)).trans hx560_0
            replace p560 := eq_true p560; replace q560 := eq_true q560
            go_wp2_with (first | ((with_reducible refine gate_builtin (b := .append) (xs := #[.tmp 40, .tmp 47]) rfl ?_); at_builtin; refine BRw.append_one (P := Try.prog) (w0 := w) w.heap.size rfl (.tmp 40) (.tmp 47) 46 5 rfl Try.underlying46 info5 u4 x4_1 ((rd l0_4 x5_1) % 256) rfl rfl ?aO ?aB ?aS ?aL ?_; (case aB => exact (bw_q HB)); (case aO => exact (brw_q HO_4)); (case aS => exact (below_size (bw_q HB))); (case aL => have := LMc28.out; omega); intro v562 w30 ho hb hg; have hat := True.intro; rw [← Ny561.out] at ho; replace BK550 := Aside0.mk (blk_grown (g := gb550) (o := .cells #[.int .i64 a0_0, .int .i64 a0_1, .int .i64 a0_2, .int .i64 a0_3, .slice (some ad560) l0_4.length c0_4, .slice A0_5 l0_5.length c0_5] 39 (0, 0)) (bk_q BK550) hg (BRw.ne HO_4.out BK550.out (by decide))); replace HB := Aside0.mk (hb); have HO563 := Aside0.mk (ho); clear HO_4; clear ho hb hg hat))
            go_roundg k1
            case measure => have := HK1.out; omega
            case rel => exact ⟨(y561), (wrap64 (x5_1 + 1)), (by first | rfl | (simp; done) | (simp [*]; done)), H', ⟨by have := HK1.out; omega⟩, ⟨by (with_reducible repeat (first | apply BRw.alloc | apply BRw.drew)); exact HO563.out⟩, ⟨by refine bz_ ?_; exact BK550.out⟩, ⟨bw_q HB⟩⟩
           ·rw [if_neg c28] at H
            exact absurd H (by simp)
          ·rw [if_neg c27] at H
           exact absurd H (by simp)
         ·rw [if_neg c26] at H
          have c26b0 : decide (x5_1 < (l0_4.length : Int)) = false := decide_eq_false c26
          clear c26
          (first | rw [c26b0] | rw [c26b1] | (simp only [i64_w, i32_w]; first | rw [c26b0] | rw [c26b1]) | skip)
          replace H := Option.bind_eq_some_iff.mp H; obtain ⟨t564, A310, H⟩ := H
          replace H : (if x4_1.length + t564.size < 140737488355328 then (spec_PacketText.l1 k1 (x4_1 ++ bytesOf t564) 0 a0_0 a0_1 a0_2 a0_3 l0_4 l0_5) else (none)) = some (r1, r2) := H
          have A31 := Aside0.mk A310; clear A310
          by_cases c32 : x4_1.length + t564.size < 140737488355328
          ·rw [if_pos c32] at H; have LMc32 := Aside0.mk c32; clear c32; obtain ⟨y565, hy565⟩ : ∃ y_ : List Int, y_ = (x4_1 ++ bytesOf t564) := ⟨_, rfl⟩
           replace H : (spec_PacketText.l1 k1 y565 0 a0_0 a0_1 a0_2 a0_3 l0_4 l0_5) = some (r1, r2) := by first | (rw [hy565]; with_reducible exact H) | (have H2_ := (Option.bind_some _ _).symm.trans H; rw [hy565]; with_reducible exact H2_) | (have H2_ := (Option.bind_some _ _).symm.trans H; with_reducible exact H2_) | with_reducible exact H | (rw [hy565]; exact H) | exact H
           have Ny565 := Aside0.mk hy565; clear hy565; have H' := Aside0.mk H; clear H
           have hcz33_0 : wr.cell? ⟨gb550, 0, none⟩ = some (.int .i64 a0_0) := (blk_cell BK550.out 0).trans rfl
           have hcz33_1 : wr.cell? ⟨gb550, 1, none⟩ = some (.int .i64 a0_1) := (blk_cell BK550.out 1).trans rfl
           have hcz33_2 : wr.cell? ⟨gb550, 2, none⟩ = some (.int .i64 a0_2) := (blk_cell BK550.out 2).trans rfl
           have hcz33_3 : wr.cell? ⟨gb550, 3, none⟩ = some (.int .i64 a0_3) := (blk_cell BK550.out 3).trans rfl
           have hcz33_4 : wr.cell? ⟨gb550, 4, none⟩ = some (.slice A0_4 l0_4.length c0_4) := (blk_cell BK550.out 4).trans rfl
           have hcz33_5 : wr.cell? ⟨gb550, 5, none⟩ = some (.slice A0_5 l0_5.length c0_5) := (blk_cell BK550.out 5).trans rfl
           have hfz33_0 := blk_frozen BK550.out 0; have hfz33_1 := blk_frozen BK550.out 1; have hfz33_2 := blk_frozen BK550.out 2; have hfz33_3 := blk_frozen BK550.out 3; have hfz33_4 := blk_frozen BK550.out 4; have hfz33_5 := blk_frozen BK550.out 5
           go_wp2_with (first | ((with_reducible refine gate_callee (f := 49) rfl ?_); refine goesL_ (some 53) rfl rfl Try.func49 (by kernel_rfl) rfl #[.int .i64 (l0_5.length : Int)] rfl mp_q ?_; (with_reducible refine (spec_l01Var.calls k1 (l0_5.length : Int) t564 _ A31.out).mono ?_); rintro e w34 ⟨rfl, hb⟩; refine ⟨_, rfl, ?_⟩; replace HO_4 := Aside0.mk (BRw.below (brw_q HO_4) hb); replace BK550 := Aside0.mk (blk_below (g := gb550) (bk_q BK550) hb); replace HB := Aside0.mk (below_step (bw_q HB) hb); (try clear hb); (try clear hb2); (try clear hk); (try clear hi)) | (refine BRw.conv_event (P := Try.prog) rfl (N := 54) rfl 9 46 5 (.tmp 53) rfl t564 rfl (by have := LMc32.out; omega) Try.underlying9 Try.underlying46 Try.underlying5 ?_; intro g54 c54 wc hbr hb; replace HO_4 := Aside0.mk (BRw.below (brw_q HO_4) hb); have HN := Aside0.mk hbr; replace BK550 := Aside0.mk (blk_below (g := gb550) (bk_q BK550) hb); replace HB := Aside0.mk (below_step (bw_q HB) hb); clear hb hbr) | (at_builtin; refine BRw.append_rows (P := Try.prog) (w0 := w) w.heap.size rfl (.tmp 49) (.tmp 54) 46 5 rfl Try.underlying46 info5 u4 x4_1 (bytesOf t564) g54 c54 rfl rfl (BRw.at_ HN.out) ?aO ?aB ?aS ?aL ?_; (case aB => exact (bw_q HB)); (case aO => exact (brw_q HO_4)); (case aS => exact (below_size (bw_q HB))); (case aL => have := LMc32.out; rw [bytesOf_length]; omega); intro v566 w35 ho hb hg; have hat := True.intro; rw [← Ny565.out] at ho; replace BK550 := Aside0.mk (blk_grown (g := gb550) (o := .cells #[.int .i64 a0_0, .int .i64 a0_1, .int .i64 a0_2, .int .i64 a0_3, .slice A0_4 l0_4.length c0_4, .slice A0_5 l0_5.length c0_5] 39 (0, 0)) (bk_q BK550) hg (BRw.ne HO_4.out BK550.out (by decide))); replace HB := Aside0.mk (hb); have HO567 := Aside0.mk (ho); clear HO_4; clear ho hb hg hat))
           go_loopg [4, 6] k1 (fun kq v4 v6 w' => ∃ (x4_2 : List Int) (x6_2 : Int), v6 = .int .i64 x6_2 ∧ Aside0 (spec_PacketText.l1 kq x4_2 x6_2 a0_0 a0_1 a0_2 a0_3 l0_4 l0_5 = some (r1, r2)) ∧ Aside0 (kq ≤ k1) ∧ Aside0 (BRw 5 w' w.heap.size v4 x4_2) ∧ Aside0 (w'.heap[gb550]? = some (.cells #[.int .i64 a0_0, .int .i64 a0_1, .int .i64 a0_2, .int .i64 a0_3, (.slice A0_4 l0_4.length c0_4), (.slice A0_5 l0_5.length c0_5)] 39 (0, 0))) ∧ Aside0 (Below w.heap.size w w'))
           case atStart => exact ⟨(y565), (0), (by first | rfl | (simp; done) | (simp [*]; done)), H', ⟨Nat.le_refl _⟩, ⟨by (with_reducible repeat (first | apply BRw.alloc | apply BRw.drew)); exact HO567.out⟩, ⟨by refine bz_ ?_; exact BK550.out⟩, ⟨bw_q HB⟩⟩
           case round =>
            clear H'; (try clear c1); (try clear c2); (try clear p2); (try clear c3); (try clear c4); (try clear p5); (try clear q5); (try clear hx5); (try clear p6); (try clear c7); (try clear c10); (try clear c10b0); (try clear c10b1); (try clear c10b2); (try clear c12); (try clear c12b0); (try clear c12b1); (try clear c12b2); (try clear c14); (try clear c14b0); (try clear c14b1); (try clear c14b2); (try clear c15); (try clear c16); (try clear c16b0); (try clear c16b1); (try clear c16b2); (try clear c17); (try clear c17b0); (try clear c17b1); (try clear c26); (try clear c26b0); (try clear c26b1); (try clear c27); (try clear c27b0); (try clear c28); (try clear c30); (try clear c32); (try clear hcz29_0); (try clear hcz29_1); (try clear hcz29_2); (try clear hcz29_3); (try clear hcz29_4); (try clear hcz29_5); (try clear hcz33_0); (try clear hcz33_1); (try clear hcz33_2); (try clear hcz33_3); (try clear hcz33_4); (try clear hcz33_5); (try clear hcz5_0); (try clear hcz5_1); (try clear hcz5_2); (try clear hcz5_3); (try clear hcz5_4); (try clear hcz5_5); (try clear hfz29_0); (try clear hfz29_1); (try clear hfz29_2); (try clear hfz29_3); (try clear hfz29_4); (try clear hfz29_5); (try clear hfz33_0); (try clear hfz33_1); (try clear hfz33_2); (try clear hfz33_3); (try clear hfz33_4); (try clear hfz33_5); (try clear hfz5_0); (try clear hfz5_1); (try clear hfz5_2); (try clear hfz5_3); (try clear hfz5_4); (try clear hfz5_5); (try clear hx560_0); (try clear p2); (try clear p560); (try clear q560); obtain ⟨x4_2, x6_2, rfl, HA, HK2, HO_4, BK550, HB⟩ := hrel
            cases gk with
            | zero => exact absurd HA.out (by simp [spec_PacketText.l1])
            | succ k2 =>
             have H := HA.out; clear HA
             simp only [spec_PacketText.l1] at H
             by_cases c36 : x6_2 < (l0_5.length : Int)
             ·rw [if_pos c36] at H
              have c36b0 : decide (x6_2 < (l0_5.length : Int)) = true := decide_eq_true c36
              clear c36
              by_cases c37 : 0 ≤ x6_2
              ·rw [if_pos c37] at H
               have c37b0 : decide (0 ≤ x6_2) = true := decide_eq_true c37
               clear c37; replace H := Option.bind_eq_some_iff.mp H; obtain ⟨⟨t569, t570⟩, A380, H⟩ := H
               replace H : ((spec_l04Short.f k2 t569).bind fun t571 => (if x4_2.length + t571.size < 140737488355328 then (spec_PacketText.l1 k2 (x4_2 ++ bytesOf t571) (wrap64 (x6_2 + 1)) a0_0 a0_1 a0_2 a0_3 l0_4 l0_5) else (none))) = some (r1, r2) := H
               have A38 := Aside0.mk A380; clear A380; replace H := Option.bind_eq_some_iff.mp H; obtain ⟨t571, A390, H⟩ := H
               replace H : (if x4_2.length + t571.size < 140737488355328 then (spec_PacketText.l1 k2 (x4_2 ++ bytesOf t571) (wrap64 (x6_2 + 1)) a0_0 a0_1 a0_2 a0_3 l0_4 l0_5) else (none)) = some (r1, r2) := H
               have A39 := Aside0.mk A390; clear A390
               by_cases c40 : x4_2.length + t571.size < 140737488355328
               ·rw [if_pos c40] at H; have LMc40 := Aside0.mk c40; clear c40; obtain ⟨y572, hy572⟩ : ∃ y_ : List Int, y_ = (x4_2 ++ bytesOf t571) := ⟨_, rfl⟩
                replace H : (spec_PacketText.l1 k2 y572 (wrap64 (x6_2 + 1)) a0_0 a0_1 a0_2 a0_3 l0_4 l0_5) = some (r1, r2) := by first | (rw [hy572]; with_reducible exact H) | (have H2_ := (Option.bind_some _ _).symm.trans H; rw [hy572]; with_reducible exact H2_) | (have H2_ := (Option.bind_some _ _).symm.trans H; with_reducible exact H2_) | with_reducible exact H | (rw [hy572]; exact H) | exact H
                have Ny572 := Aside0.mk hy572; clear hy572; have H' := Aside0.mk H; clear H
                have hcz41_0 : wr.cell? ⟨gb550, 0, none⟩ = some (.int .i64 a0_0) := (blk_cell BK550.out 0).trans rfl
                have hcz41_1 : wr.cell? ⟨gb550, 1, none⟩ = some (.int .i64 a0_1) := (blk_cell BK550.out 1).trans rfl
                have hcz41_2 : wr.cell? ⟨gb550, 2, none⟩ = some (.int .i64 a0_2) := (blk_cell BK550.out 2).trans rfl
                have hcz41_3 : wr.cell? ⟨gb550, 3, none⟩ = some (.int .i64 a0_3) := (blk_cell BK550.out 3).trans rfl
                have hcz41_4 : wr.cell? ⟨gb550, 4, none⟩ = some (.slice A0_4 l0_4.length c0_4) := (blk_cell BK550.out 4).trans rfl
                have hcz41_5 : wr.cell? ⟨gb550, 5, none⟩ = some (.slice A0_5 l0_5.length c0_5) := (blk_cell BK550.out 5).trans rfl
                have hfz41_0 := blk_frozen BK550.out 0; have hfz41_1 := blk_frozen BK550.out 1; have hfz41_2 := blk_frozen BK550.out 2; have hfz41_3 := blk_frozen BK550.out 3; have hfz41_4 := blk_frozen BK550.out 4; have hfz41_5 := blk_frozen BK550.out 5
                have p568 : 0 ≤ (x6_2 : Int) := of_decide_eq_true as_q
                have q568 : x6_2 < (l0_5.length : Int) := of_decide_eq_true as_q
                obtain ⟨ad568, A568_5, c568_5, e568, hx568_0, hx568_1, hx568_2, hx568_3, hx568_4, hx568_5, hx568_6, hx568_7, hl568_5, hi568_5⟩ := at_T24 HR0_5.out x6_2 p568 q568
                cases e568
                replace hx568_0 := (HB.out.cell (World.block_lt_of_cell? w _ hx568_0)).trans hx568_0
                replace hx568_1 := (HB.out.cell (World.block_lt_of_cell? w _ hx568_1)).trans hx568_1
                replace hx568_2 := (HB.out.cell (World.block_lt_of_cell? w _ hx568_2)).trans hx568_2
                replace hx568_3 := (HB.out.cell (World.block_lt_of_cell? w _ hx568_3)).trans hx568_3
                replace hx568_4 := (HB.out.cell (World.block_lt_of_cell? w _ hx568_4)).trans hx568_4
                replace hx568_5 := (HB.out.cell (World.block_lt_of_cell? w _ hx568_5)).trans hx568_5
                replace hx568_6 := (HB.out.cell (World.block_lt_of_cell? w _ hx568_6)).trans hx568_6
                replace hx568_7 := (HB.out.cell (World.block_lt_of_cell? w _ hx568_7)).trans hx568_7
                have HR568_5 := Aside0.mk hi568_5; have HC568_5 := Aside0.mk hl568_5; clear hi568_5 hl568_5; replace p568 := eq_true p568; replace q568 := eq_true q568
                go_wp2_with (first | ((with_reducible refine gate_callee (f := 40) rfl ?_); refine goesL_ (some 69) rfl rfl Try.func40 (by kernel_rfl) rfl #[.agg #[.int .i64 ((rd_T24 l0_5 x6_2).f0), .int .i64 ((rd_T24 l0_5 x6_2).f1), .int .i64 ((rd_T24 l0_5 x6_2).f2), .int .i64 ((rd_T24 l0_5 x6_2).f3), .int .i64 ((rd_T24 l0_5 x6_2).f4), .slice A568_5 ((rd_T24 l0_5 x6_2).f5).length c568_5, .int .i64 ((rd_T24 l0_5 x6_2).f6), .bool ((rd_T24 l0_5 x6_2).f7)]] rfl mp_q ?_; (with_reducible refine (spec_RecordText.calls k2 ((rd_T24 l0_5 x6_2).f0) ((rd_T24 l0_5 x6_2).f1) ((rd_T24 l0_5 x6_2).f2) ((rd_T24 l0_5 x6_2).f3) ((rd_T24 l0_5 x6_2).f4) _ _ ((rd_T24 l0_5 x6_2).f5) ((rd_T24 l0_5 x6_2).f6) ((rd_T24 l0_5 x6_2).f7) t569 t570 _ ?side1 ?side2 A38.out).mono ?_); (case side1 => exact cs_q (Kd.C_below HR568_5.out HB.out)); (case side2 => exact HC568_5.out); rintro e w42 ⟨rfl, hb⟩; refine ⟨_, rfl, ?_⟩; replace HO_4 := Aside0.mk (BRw.below (brw_q HO_4) hb); replace BK550 := Aside0.mk (blk_below (g := gb550) (bk_q BK550) hb); replace HB := Aside0.mk (below_step (bw_q HB) hb); (try clear hb); (try clear hb2); (try clear hk); (try clear hi)) | ((with_reducible refine gate_callee (f := 50) rfl ?_); refine goesL_ (some 74) rfl rfl Try.func50 (by kernel_rfl) rfl #[.string t569] rfl mp_q ?_; (with_reducible refine (spec_l04Short.calls k2 t569 t571 _ A39.out).mono ?_); rintro e w43 ⟨rfl, hb⟩; refine ⟨_, rfl, ?_⟩; replace HO_4 := Aside0.mk (BRw.below (brw_q HO_4) hb); replace BK550 := Aside0.mk (blk_below (g := gb550) (bk_q BK550) hb); replace HB := Aside0.mk (below_step (bw_q HB) hb); (try clear hb); (try clear hb2); (try clear hk); (try clear hi)) | (refine BRw.conv_event (P := Try.prog) rfl (N := 75) rfl 9 46 5 (.tmp 74) rfl t571 rfl (by have := LMc40.out; omega) Try.underlying9 Try.underlying46 Try.underlying5 ?_; intro g75 c75 wc hbr hb; replace HO_4 := Aside0.mk (BRw.below (brw_q HO_4) hb); have HN := Aside0.mk hbr; replace BK550 := Aside0.mk (blk_below (g := gb550) (bk_q BK550) hb); replace HB := Aside0.mk (below_step (bw_q HB) hb); clear hb hbr) | (at_builtin; refine BRw.append_rows (P := Try.prog) (w0 := w) w.heap.size rfl (.tmp 72) (.tmp 75) 46 5 rfl Try.underlying46 info5 u4 x4_2 (bytesOf t571) g75 c75 rfl rfl (BRw.at_ HN.out) ?aO ?aB ?aS ?aL ?_; (case aB => exact (bw_q HB)); (case aO => exact (brw_q HO_4)); (case aS => exact (below_size (bw_q HB))); (case aL => have := LMc40.out; rw [bytesOf_length]; omega); intro v573 w44 ho hb hg; have hat := True.intro; rw [← Ny572.out] at ho; replace BK550 := Aside0.mk (blk_grown (g := gb550) (o := .cells #[.int .i64 a0_0, .int .i64 a0_1, .int .i64 a0_2, .int .i64 a0_3, .slice A0_4 l0_4.length c0_4, .slice (some ad568) l0_5.length c0_5] 39 (0, 0)) (bk_q BK550) hg (BRw.ne HO_4.out BK550.out (by decide))); replace HB := Aside0.mk (hb); have HO574 := Aside0.mk (ho); clear HO_4; clear ho hb hg hat))
                go_roundg k2
                case measure => have := HK1.out; have := HK2.out; omega
                case rel => exact ⟨(y572), (wrap64 (x6_2 + 1)), (by first | rfl | (simp; done) | (simp [*]; done)), H', ⟨by have := HK1.out; have := HK2.out; omega⟩, ⟨by (with_reducible repeat (first | apply BRw.alloc | apply BRw.drew)); exact HO574.out⟩, ⟨by refine bz_ ?_; exact BK550.out⟩, ⟨bw_q HB⟩⟩
               ·rw [if_neg c40] at H
                exact absurd H (by simp)
              ·rw [if_neg c37] at H
               exact absurd H (by simp)
             ·rw [if_neg c36] at H
              have c36b0 : decide (x6_2 < (l0_5.length : Int)) = false := decide_eq_false c36
              clear c36
              by_cases c45 : (wrap64 ((x4_2.length : Int) + 4)) > 20000
              ·rw [if_pos c45] at H
               have c45b0 : decide (20000 < (wrap64 ((x4_2.length : Int) + 4))) = true := decide_eq_true c45
               clear c45
               simp only [Option.some.injEq, Prod.mk.injEq] at H
               obtain ⟨rfl, rfl⟩ := H
               have hcz46_0 : wr.cell? ⟨gb550, 0, none⟩ = some (.int .i64 a0_0) := (blk_cell BK550.out 0).trans rfl
               have hcz46_1 : wr.cell? ⟨gb550, 1, none⟩ = some (.int .i64 a0_1) := (blk_cell BK550.out 1).trans rfl
               have hcz46_2 : wr.cell? ⟨gb550, 2, none⟩ = some (.int .i64 a0_2) := (blk_cell BK550.out 2).trans rfl
               have hcz46_3 : wr.cell? ⟨gb550, 3, none⟩ = some (.int .i64 a0_3) := (blk_cell BK550.out 3).trans rfl
               have hcz46_4 : wr.cell? ⟨gb550, 4, none⟩ = some (.slice A0_4 l0_4.length c0_4) := (blk_cell BK550.out 4).trans rfl
               have hcz46_5 : wr.cell? ⟨gb550, 5, none⟩ = some (.slice A0_5 l0_5.length c0_5) := (blk_cell BK550.out 5).trans rfl
               have hfz46_0 := blk_frozen BK550.out 0; have hfz46_1 := blk_frozen BK550.out 1; have hfz46_2 := blk_frozen BK550.out 2; have hfz46_3 := blk_frozen BK550.out 3; have hfz46_4 := blk_frozen BK550.out 4; have hfz46_5 := blk_frozen BK550.out 5; obtain ⟨Ao47, co47, eo47⟩ := BRw.slice HO_4.out; subst eo47
               go_wp2
               go_ret2
               exact ⟨er_q, bw_q HB⟩
              ·rw [if_neg c45] at H
               have c45b0 : decide (20000 < (wrap64 ((x4_2.length : Int) + 4))) = false := decide_eq_false c45
               clear c45; replace H := Option.bind_eq_some_iff.mp H; obtain ⟨⟨t575, t576⟩, A480, H⟩ := H
               replace H : (some (t575, t576)) = some (r1, r2) := H
               have A48 := Aside0.mk A480; clear A480
               simp only [Option.some.injEq, Prod.mk.injEq] at H
               obtain ⟨rfl, rfl⟩ := H
               have hcz49_0 : wr.cell? ⟨gb550, 0, none⟩ = some (.int .i64 a0_0) := (blk_cell BK550.out 0).trans rfl
               have hcz49_1 : wr.cell? ⟨gb550, 1, none⟩ = some (.int .i64 a0_1) := (blk_cell BK550.out 1).trans rfl
               have hcz49_2 : wr.cell? ⟨gb550, 2, none⟩ = some (.int .i64 a0_2) := (blk_cell BK550.out 2).trans rfl
               have hcz49_3 : wr.cell? ⟨gb550, 3, none⟩ = some (.int .i64 a0_3) := (blk_cell BK550.out 3).trans rfl
               have hcz49_4 : wr.cell? ⟨gb550, 4, none⟩ = some (.slice A0_4 l0_4.length c0_4) := (blk_cell BK550.out 4).trans rfl
               have hcz49_5 : wr.cell? ⟨gb550, 5, none⟩ = some (.slice A0_5 l0_5.length c0_5) := (blk_cell BK550.out 5).trans rfl
               have hfz49_0 := blk_frozen BK550.out 0; have hfz49_1 := blk_frozen BK550.out 1; have hfz49_2 := blk_frozen BK550.out 2; have hfz49_3 := blk_frozen BK550.out 3; have hfz49_4 := blk_frozen BK550.out 4; have hfz49_5 := blk_frozen BK550.out 5; obtain ⟨Ao50, co50, eo50⟩ := BRw.slice HO_4.out; subst eo50; have hcv51 := BRw.string (P := Try.prog) Try.underlying46 Try.underlying5 Try.underlying9 HO_4.out
               go_wp2_with (first | ((with_reducible refine gate_callee (f := 51) rfl ?_); refine goesL_ (some 83) rfl rfl Try.func51 (by kernel_rfl) rfl #[.string (strOfNums x4_2)] rfl mp_q ?_; (with_reducible refine (spec_Sealed.calls k2 (strOfNums x4_2) t575 t576 _ A48.out).mono ?_); rintro e w52 ⟨rfl, hb⟩; refine ⟨_, rfl, ?_⟩; replace HO_4 := Aside0.mk (BRw.below (brw_q HO_4) hb); replace BK550 := Aside0.mk (blk_below (g := gb550) (bk_q BK550) hb); replace HB := Aside0.mk (below_step (bw_q HB) hb); (try clear hb); (try clear hb2); (try clear hk); (try clear hi)))
               go_ret2
               exact ⟨er_q, bw_q HB⟩
          ·rw [if_neg c32] at H
           exact absurd H (by simp)
      ·rw [if_neg c17] at H
       exact absurd H (by simp)
     ·rw [if_neg c16] at H
      exact absurd H (by simp)
    ·rw [if_neg c14] at H
     exact absurd H (by simp)
   ·rw [if_neg c12] at H
    exact absurd H (by simp)
  ·rw [if_neg c10] at H
   exact absurd H (by simp)
 ·replace c7 := Bool.eq_false_iff.mpr c7; subst c7
  replace H : (some ((⟨#[]⟩ : ByteArray), false)) = some (r1, r2) := by rw [if_neg (show ¬ (false = true) by decide)] at H; exact H
  simp only [Option.some.injEq, Prod.mk.injEq] at H
  obtain ⟨rfl, rfl⟩ := H
  go_wp2
  go_ret2
  exact ⟨er_q, bw_q HB⟩

end Go.Proofs.Ytnecbkognpponaa.Q
