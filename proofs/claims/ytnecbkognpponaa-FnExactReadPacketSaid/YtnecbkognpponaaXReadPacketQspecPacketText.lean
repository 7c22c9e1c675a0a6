import Derived.Test.YtnecbkognpponaaXReadPacketQx45
import Derived.Test.YtnecbkognpponaaXReadPacketQspecPacketOk
import Derived.Test.YtnecbkognpponaaXReadPacketQspecRecordText
import Derived.Test.YtnecbkognpponaaXReadPacketQspecSealed
/- The contract of a Go function. -/







namespace Go.Proofs.Ytnecbkognpponaa.Q
open Go.RowKit Go.Proofs.YtnecbkognpponaaW.PrintWords Go.Proofs.YtnecbkognpponaaW.PrintLast Go.Proofs.YtnecbkognpponaaW.PrintMore
attribute [local go_sem] max2_int min2_int max_two min_two max_three min_three max_four min_four   -- for this text's walks alone
set_option linter.unusedVariables false
set_option linter.unusedSimpArgs false

/-! ### spec_PacketText: function 15 -/
mutual
def spec_PacketText.l0 : Nat → List Int → Int → Int → Int → Int → Int → List Int → List (S24) → Option (ByteArray × Bool)
 | 0, _, _, _, _, _, _, _, _ => none
 | k + 1, i, j, c, d, e, g, a, b => if j < (a.length : Int) then (if 0 ≤ j then (if i.length < 140737488355328 then (spec_PacketText.l0 k (i ++ [(rd a j) % 256]) (wrap64 (j + 1)) c d e g a b) else (none)) else (none)) else ((spec_l01Var.f k (b.length : Int)).bind fun h => (if i.length + h.size < 140737488355328 then (spec_PacketText.l1 k (i ++ bytesOf h) 0 c d e g a b) else (none)))
def spec_PacketText.l1 : Nat → List Int → Int → Int → Int → Int → Int → List Int → List (S24) → Option (ByteArray × Bool)
 | 0, _, _, _, _, _, _, _, _ => none
 | k + 1, l, b, d, e, g, h, i, a => if b < (a.length : Int) then (if 0 ≤ b then ((spec_RecordText.f k ((rd_T24 a b).f0) ((rd_T24 a b).f1) ((rd_T24 a b).f2) ((rd_T24 a b).f3) ((rd_T24 a b).f4) ((rd_T24 a b).f5) ((rd_T24 a b).f6) ((rd_T24 a b).f7)).bind fun m => ((spec_l04Short.f k m.1).bind fun j => (if l.length + j.size < 140737488355328 then (spec_PacketText.l1 k (l ++ bytesOf j) (wrap64 (b + 1)) d e g h i a) else (none)))) else (none)) else (if (wrap64 ((l.length : Int) + 4)) > 20000 then (some ((⟨#[]⟩ : ByteArray), false)) else ((spec_Sealed.f k (strOfNums l)).bind fun c => (some (c.1, c.2))))
end
def spec_PacketText.f (k : Nat) (h : Int) (i : Int) (j : Int) (l : Int) (m : List Int) (n : List (S24)) : Option (ByteArray × Bool) := (spec_PacketOk.f k h i j l m n).bind fun g => (if g = true then ((spec_l04Byte.f h).bind fun a => ((spec_l04Byte.f i).bind fun b => (if a.size + b.size ≤ 9223372036854775807 then ((spec_l04Byte.f j).bind fun c => (if (a ++ b).size + c.size ≤ 9223372036854775807 then ((spec_l04Byte.f l).bind fun d => (if ((a ++ b) ++ c).size + d.size ≤ 9223372036854775807 then ((spec_l01Var.f k (m.length : Int)).bind fun e => (if (((a ++ b) ++ c) ++ d).size + e.size ≤ 9223372036854775807 then (if ((((a ++ b) ++ c) ++ d) ++ e).size ≤ 140737488355328 then (spec_PacketText.l0 k (bytesOf ((((a ++ b) ++ c) ++ d) ++ e)) 0 h i j l m n) else (none)) else (none))) else (none))) else (none))) else (none)))) else (some ((⟨#[]⟩ : ByteArray), false)))
theorem spec_PacketText.mono_l : ∀ k, (∀ y0 y1 y2 y3 y4 y5 y6 y7, LeO (spec_PacketText.l0 k y0 y1 y2 y3 y4 y5 y6 y7) (spec_PacketText.l0 (k + 1) y0 y1 y2 y3 y4 y5 y6 y7)) ∧ (∀ y0 y1 y2 y3 y4 y5 y6 y7, LeO (spec_PacketText.l1 k y0 y1 y2 y3 y4 y5 y6 y7) (spec_PacketText.l1 (k + 1) y0 y1 y2 y3 y4 y5 y6 y7))
 | 0 => ⟨fun _ _ _ _ _ _ _ _ r h => by simp [spec_PacketText.l0] at h, fun _ _ _ _ _ _ _ _ r h => by simp [spec_PacketText.l1] at h⟩
 | k + 1 => by
  obtain ⟨ih0, ih1⟩ := spec_PacketText.mono_l k
  refine ⟨?_, ?_⟩
  ·intro y0 y1 y2 y3 y4 y5 y6 y7
   unfold spec_PacketText.l0
   with_reducible repeat' (first | apply ih0 | apply ih1 | apply spec_PacketOk.mono | apply spec_RecordText.mono | apply spec_Sealed.mono | apply spec_l01Var.mono | apply spec_l04Short.mono | exact LeO.refl _ | exact LeO.none _ | refine LeO.ite ?_ ?_ | refine LeO.bind ?_ (fun _ => ?_))
  ·intro y0 y1 y2 y3 y4 y5 y6 y7
   unfold spec_PacketText.l1
   with_reducible repeat' (first | apply ih0 | apply ih1 | apply spec_PacketOk.mono | apply spec_RecordText.mono | apply spec_Sealed.mono | apply spec_l01Var.mono | apply spec_l04Short.mono | exact LeO.refl _ | exact LeO.none _ | refine LeO.ite ?_ ?_ | refine LeO.bind ?_ (fun _ => ?_))
theorem spec_PacketText.mono : ∀ a0 a1 a2 a3 a4 a5 k, LeO (spec_PacketText.f k a0 a1 a2 a3 a4 a5) (spec_PacketText.f (k + 1) a0 a1 a2 a3 a4 a5) := by
 intro a0 a1 a2 a3 a4 a5 k
 obtain ⟨ih0, ih1⟩ := spec_PacketText.mono_l k
 unfold spec_PacketText.f
 with_reducible repeat' (first | apply ih0 | apply ih1 | apply spec_PacketOk.mono | apply spec_RecordText.mono | apply spec_Sealed.mono | apply spec_l01Var.mono | apply spec_l04Short.mono | exact LeO.refl _ | exact LeO.none _ | refine LeO.ite ?_ ?_ | refine LeO.bind ?_ (fun _ => ?_))
def spec_PacketText.T3 : Bool × List (List Nat × List Nat) := (true, [([], []), ([0], [0]), ([1], [1]), ([], []), ([3], [3]), ([4, 2], [4]), ([2, 5], [2, 5]), ([], []), ([7], [7]), ([8, 5], [8]), ([6, 9], [6, 9]), ([], []), ([11], [11]), ([12, 9], [12]), ([10, 13], [10, 13]), ([], []), ([15], [15]), ([16], [16]), ([17, 13], [17]), ([14, 18], [14, 18]), ([19], [19]), ([20, 18, 0, 1, 2, 3, 4, 5, 6, 7, 8, 9, 10, 11, 12, 13, 14, 15, 16, 17, 18, 19, 20], [20])])
def spec_PacketText.B3 : List Nat := [0, 1, 3, 0, 8, 31, 63, 0, 128, 447, 1023, 0, 2048, 7103, 16383, 0, 32768, 98304, 244671, 524287, 1048575, 2097151]
theorem spec_PacketText.tab3 : rtab .any (opsOf Try.f15 3) = spec_PacketText.T3 := by kernel_rfl
theorem spec_PacketText.bits3 : waitsOk spec_PacketText.T3.2 spec_PacketText.B3 = true := by kernel_rfl
/-! ### bytes of the call's own in a row that may bear the mark of a conversion, and that is appended to -/
/-- v's row has xs; nothing of it is frozen (a conversion's mark stands behind its cells). -/
def BRw (e : TypeId) (w : World) (base : Nat) (v : Value) (xs : List Int) : Prop :=
  ∃ (g cap : Nat) (cur : Array Value) (fz : Nat × Nat), v = .slice (some ⟨g, 0, none⟩) xs.length cap ∧ base ≤ g ∧ w.heap[g]? = some (.cells cur e fz) ∧ (∀ j, j < cur.size → ¬ (fz.1 ≤ j ∧ j < fz.2)) ∧ xs.length ≤ cap ∧ cap ≤ 9223372036854775807 ∧ cur.size = cap ∧ cur.toList.take xs.length = nums .u8 xs
section
variable {e : TypeId} {w w1 : World} {base : Nat} {v : Value} {xs : List Int}
theorem BRw.step (h : BRw e w base v xs) (hm : ∀ k, v.ownBlock = some k → k < w.heap.size → w1.heap[k]? = w.heap[k]?) : BRw e w1 base v xs := by
  obtain ⟨g, cap, cur, fz, rfl, hb, hg, rest⟩ := h
  exact ⟨g, cap, cur, fz, rfl, hb, (hm g rfl (Array.getElem?_eq_some_iff.1 hg).1).trans hg, rest⟩
theorem BRw.below (h : BRw e w base v xs) (hb : Below w.heap.size w w1) : BRw e w1 base v xs := h.step (fun k _ hk => hb.block k hk)
theorem BRw.drew (h : BRw e w base v xs) : BRw e w.drew base v xs := h
theorem BRw.lower {base' : Nat} (h : BRw e w base v xs) (hb : base' ≤ base) : BRw e w base' v xs := by
  obtain ⟨g, cap, cur, fz, rfl, h0, rest⟩ := h
  exact ⟨g, cap, cur, fz, rfl, Nat.le_trans hb h0, rest⟩
theorem BRw.alloc (h : BRw e w base v xs) (o : Obj) : BRw e (w.alloc o) base v xs := h.step (fun k _ hk => heap_alloc_old w o hk)
theorem BRw.ne (h : BRw e w base v xs) {g t : Nat} {cells : Array Value} (hb : w.heap[g]? = some (.cells cells t (0, 0))) (ht : e ≠ t) : some g ≠ v.ownBlock := by
  obtain ⟨g', cap, cur, fz, rfl, _, hg, _⟩ := h
  intro he
  have : g = g' := by simpa [Value.ownBlock] using he
  subst this; rw [hg] at hb
  injection hb with hb
  injection hb with _ hb
  exact ht hb
theorem BRw.slice (h : BRw e w base v xs) : ∃ A c, v = .slice A xs.length c := by
  obtain ⟨g, cap, _, _, rfl, _⟩ := h
  exact ⟨_, _, rfl⟩
theorem BRw.from_ (h : BRw e w base v xs) (k : Nat) (hk : v.ownBlock = some k) : base ≤ k := by
  obtain ⟨g, cap, _, _, rfl, hb, _⟩ := h
  have : g = k := by simpa [Value.ownBlock] using hk
  omega
theorem BRw.cell (h : BRw e w base v xs) : ∃ g cap, v = .slice (some ⟨g, 0, none⟩) xs.length cap ∧ ∀ j u, (nums .u8 xs)[j]? = some u → w.cell? ⟨g, j, none⟩ = some u := by
  obtain ⟨g, cap, cur, fz, rfl, _, hg, _, _, _, _, ht⟩ := h
  refine ⟨g, cap, rfl, fun j u hu => ?_⟩
  rw [cell_of_row w g j cur e fz hg]
  rw [← ht, List.getElem?_take] at hu
  split at hu
  · simpa using hu
  · cases hu
theorem BRw.string {P : Program} {src dst e1 : TypeId} (hs : P.underlying src = some (.slice e1)) (he : P.underlying e1 = some (.int .u8)) (hd : P.underlying dst = some .string) (h : BRw e w base v xs) : (convert src dst v).run P w = .ok (.string (strOfNums xs)) w := by
  obtain ⟨g, cap, rfl, hc⟩ := h.cell
  refine run_convert_bytes_arg w src e1 hs he g 0 xs.length cap xs rfl (fun i hi => ?_) dst hd
  rw [Nat.zero_add]
  exact hc i (.int .u8 (xs.getD i 0)) (by simp [nums, List.getElem?_eq_getElem hi, List.getD_eq_getElem?_getD])
end
theorem BRw.conv (W : World) (e : TypeId) (s : ByteArray) (hs : s.size ≤ 9223372036854775807) : BRw e (Lib.bytesWorld W e s) W.heap.size (.slice (some ⟨W.heap.size, 0, none⟩) (bytesOf s).length (grownCap W s.size 0 e)) (bytesOf s) := by
  have hge := grownCap_ge W s.size 0 e
  have hle := grownCap_le_maxLen W s.size 0 e (by simp only [maxLen]; omega)
  simp only [maxLen] at hle
  have hz : (Lib.bytesCells W e s).size = grownCap W s.size 0 e := by
    simp only [Lib.bytesCells, Array.size_append, Array.size_map, Array.size_replicate]
    have : s.data.size = s.size := rfl
    omega
  refine ⟨W.heap.size, _, Lib.bytesCells W e s, _, rfl, Nat.le_refl _, Lib.bytesWorld_at_new W e s, ?_, by rw [bytesOf_length]; exact hge, by omega, hz, ?_⟩
  · intro j hj h
    have := h.1
    simp only at this
    omega
  · have hl : (bytesOf s).length = ((Array.map (fun b : UInt8 => Value.int .u8 (b.toNat : Int)) s.data).toList).length := by rw [bytesOf_length]; simp
    simp only [Lib.bytesCells, Array.toList_append]
    rw [hl, List.take_left]
    simp [nums, bytesOf]
theorem run_storeCells_B (P : Program) (g o : Nat) (t : TypeId) (fz : Nat × Nat) : ∀ (vs : List Value) (i : Nat) (cur : Array Value) (w : World), w.heap[g]? = some (.cells cur t fz) → (∀ j, j < cur.size → ¬ (fz.1 ≤ j ∧ j < fz.2)) → o + i + vs.length ≤ cur.size → (∀ u ∈ vs, u.oneCell' = true) →
    (storeCells ⟨g, o, none⟩ vs i).run P w = .ok () (w.setRow g (cur.toList.take (o + i) ++ vs ++ cur.toList.drop (o + i + vs.length)).toArray) := by
  intro vs
  induction vs with
  | nil =>
    intro i cur w hg _ _ _
    simp only [storeCells, List.append_nil, List.length_nil, Nat.add_zero, List.take_append_drop, Array.toArray_toList]
    rw [setRow_self w g cur t fz hg]
    rfl
  | cons v rest ih =>
    intro i cur w hg hfz hl h1
    have hi : o + i < cur.size := by simp only [List.length_cons] at hl; omega
    have hadd : (⟨g, o, none⟩ : Addr).add i = ⟨g, o + i, none⟩ := by unfold Addr.add; split <;> simp_all
    have hcell : w.cell? ⟨g, o + i, none⟩ = some cur[o + i] := by simp [World.cell?, hg, hi]
    have hfro : w.frozen? ⟨g, o + i, none⟩ = false := by
      have h := hfz (o + i) hi; obtain ⟨lo, hi'⟩ := fz
      simp only [World.frozen?, hg]
      simp only at h
      by_cases h2 : lo ≤ o + i
      · have h3 : ¬ (o + i < hi') := fun h3 => h ⟨h2, h3⟩
        simp [h3]
      · simp [h2]
    have hst : (store ((⟨g, o, none⟩ : Addr).add i) v).run P w = .ok () (w.setRow g (cur.setIfInBounds (o + i) v)) := by
      rw [hadd, run_store P w _ v _ (h1 v (by simp)), hcell]
      simp [hfro, setCell_eq_setRow w g (o + i) cur t fz v hg]
    have k := ih (i + 1) (cur.setIfInBounds (o + i) v) (w.setRow g (cur.setIfInBounds (o + i) v)) (setRow_heap w g cur _ t _ hg) (by simpa using hfz) (by simp only [List.length_cons, Array.size_setIfInBounds] at hl ⊢; omega) (fun x hx => h1 x (by simp [hx]))
    simp only [storeCells, Sem.run_bind, hst, Result.andThen_ok, k, setRow_setRow]
    congr 3
    have q := list_seg_step cur.toList (o + i) v rest (by simp only [List.length_cons, Array.length_toList] at hl ⊢; omega)
    simpa [Array.toList_setIfInBounds, Nat.add_assoc] using q
theorem run_append_B {P : Program} (w : World) (base : Nat) (t ty e : TypeId) (i : TypeInfo) (ht : P.underlying t = some (.slice e)) (hi : P.info? e = some i) (hz : i.zero = some (.int .u8 0)) (hsize : i.size = 1) (hby : i.bytes = 1)
    (v : Value) (xs : List Int) (hown : BRw e w base v xs) (a : Addr) (c : Nat) (ys : List Int) (hnews : ∀ j u, (nums .u8 ys)[j]? = some u → w.cell? (a.add j) = some u)
    (hl : xs.length + ys.length ≤ 140737488355328) (hbase : base ≤ w.heap.size) :
    ∃ v' w', (Builtin.append_ #[t, t] ty #[v, .slice (some a) ys.length c]).run P w = .ok v' w' ∧ BRw e w' base v' (xs ++ ys) ∧ w.grownBy w' v.ownBlock := by
  have h1 : ∀ u ∈ nums .u8 ys, u.oneCell' = true := by
    intro u hu
    obtain ⟨x, _, rfl⟩ := List.mem_map.1 hu
    rfl
  have hyl : (nums .u8 ys).length = ys.length := nums_length _ _
  have hxl : (nums .u8 xs).length = xs.length := nums_length _ _
  have hc := hown.cell; obtain ⟨g, cap, cur, fz, rfl, hbg, hg, hfz, hnc, hcm, hcs, htake⟩ := hown
  by_cases hroom : xs.length + ys.length ≤ cap
  · have hf := run_firstCells_some (P := P) w 1 ys.length a ys.length c (nums .u8 ys) (by rw [hyl, Nat.mul_one]) hnews
    have hst := run_storeCells_B P g xs.length e fz (nums .u8 ys) 0 cur w hg hfz (by rw [hyl, Nat.add_zero, hcs]; exact hroom) h1
    simp only [Nat.add_zero] at hst
    refine ⟨.slice (some ⟨g, 0, none⟩) (xs.length + ys.length) cap, w.setRow g (cur.toList.take xs.length ++ nums .u8 ys ++ cur.toList.drop (xs.length + (nums .u8 ys).length)).toArray, ?_, ?_, ?_⟩
    · simp [Builtin.append_, run_underlying ht, sizeOf, typeInfo, hi, hsize, Builtin.lenOf, hroom, hf, Addr.add_lit, hst]
    · refine ⟨g, cap, _, fz, by rw [List.length_append], hbg, setRow_heap w g cur _ e _ hg, ?_, by rw [List.length_append]; exact hroom, hcm, ?_, ?_⟩
      · intro j hj
        refine hfz j ?_
        simp only [List.size_toArray, List.length_append, List.length_take, List.length_drop, Array.length_toList, hyl] at hj
        omega
      · simp only [List.size_toArray, List.length_append, List.length_take, List.length_drop, Array.length_toList, hyl]
        omega
      · rw [htake, nums_append, List.length_append, ← hxl, ← hyl, ← List.length_append]
        exact List.take_left
    · exact ⟨rfl, rfl, rfl, by simp, fun k _ hk => setRow_other w g k _ (fun e => hk (by simp [Value.ownBlock, e]))⟩
  · have holds : ∀ j u, (nums .u8 xs)[j]? = some u → w.cell? ((⟨g, 0, none⟩ : Addr).add j) = some u := by
      obtain ⟨g', cap', hv, hcell⟩ := hc
      injection hv with ha _ _
      injection ha with ha
      injection ha with ha _ _
      subst ha
      intro j u hu
      have hadd : (⟨g, 0, none⟩ : Addr).add j = ⟨g, j, none⟩ := by unfold Addr.add; split <;> simp_all
      rw [hadd]
      exact hcell j u hu
    have hr := run_append_grow (P := P) w t ty e i (.int .u8 0) ht hi hz ⟨g, 0, none⟩ xs.length cap (nums .u8 xs) (by rw [hsize, hxl, Nat.mul_one]) holds a ys.length c (nums .u8 ys) (by rw [hsize, hyl, Nat.mul_one]) hnews (by omega) (by omega) (by rw [hby]; exact growslice_fits (by omega) (by omega))
    have hge := grownCap_ge w (xs.length + ys.length) cap e
    have hcm2 := grownCap_le_maxLen w (xs.length + ys.length) cap e (by simp only [maxLen]; omega)
    simp only [maxLen] at hcm2
    refine ⟨_, _, hr, ⟨w.heap.size, _, _, (0, 0), by rw [List.length_append], hbase, heap_alloc_new w.drew _, ?_, by rw [List.length_append]; exact hge, by omega, ?_, ?_⟩, ⟨rfl, rfl, rfl, by simp, fun k hk _ => heap_alloc_old w.drew _ hk⟩⟩
    · intro j _ h
      exact absurd h.2 (Nat.not_lt_zero j)
    · have hz1 : (Value.int IntKind.u8 0).cells.size = 1 := rfl
      simp only [Array.size_append, List.size_toArray, size_zeroCells, hz1, hxl, hyl]
      omega
    · simp only [Array.toList_append, List.append_assoc]
      rw [nums_append, List.length_append, ← hxl, ← hyl, ← List.length_append, ← List.append_assoc]
      exact List.take_left
section
variable {P : Program} {ops : Array Oper} {rest : List Oper} {o : Oper} {a : Act} {Q : Exit → Act → World → Prop}
/-- append(v, x..), x a row of bytes that is read. -/
theorem BRw.append_rows {w0 W : World} (base : Nat) (hgd : o.guard = none) (s x : Operand) (t e : TypeId)
    (ho : o.op = .call { callee := .builtin .append, args := #[s, x], argTypes := #[t, t] })
    (ht : P.underlying t = some (.slice e)) (hinfo : (P.info? e).map (fun i => (i.zero, i.size, i.bytes)) = some (some (.int .u8 0), 1, 1))
    (v : Value) (xs ys : List Int) (g c : Nat) (hs : a.eval s = v) (hx : a.eval x = .slice (some ⟨g, 0, none⟩) ys.length c)
    (hnews : ∀ j, j < ys.length → W.cell? ⟨g, j, none⟩ = some (.int .u8 (ys.getD j 0)))
    (HO : BRw e W base v xs) (HB : Below base w0 W) (hbase : base ≤ W.heap.size) (hl : xs.length + ys.length ≤ 140737488355328)
    (h : ∀ v1 w1, BRw e w1 base v1 (xs ++ ys) → Below base w0 w1 → W.grownBy w1 v.ownBlock → wpList P ops Q rest (a.put o.dst v1) w1) : wpList P ops Q (o :: rest) a W := by
  obtain ⟨i0, hi, hzz⟩ := Option.map_eq_some_iff.1 hinfo
  simp only [Prod.mk.injEq] at hzz
  obtain ⟨hz0, hz1, hz2⟩ := hzz
  refine wpList_plain hgd fun K hK => ?_
  obtain ⟨v', w', hr, h2, h3⟩ := run_append_B (P := P) W base t o.type e i0 ht hi hz0 hz1 hz2 v xs HO ⟨g, 0, none⟩ c ys (by
    intro j u hu
    have hadd : (⟨g, 0, none⟩ : Addr).add j = ⟨g, j, none⟩ := by unfold Addr.add; split <;> simp_all
    have hj : j < ys.length := by
      have := (List.getElem?_eq_some_iff.1 hu).1
      rwa [nums_length] at this
    rw [hadd, hnews j hj]
    rw [← hu]
    simp [nums, List.getElem?_eq_getElem hj, List.getD_eq_getElem?_getD]) hl hbase
  unfold Oper.wp execOp
  simp only [ho, resolve, invoke, builtin, Sem.run_bind, Sem.run_pure, Result.andThen_ok, List.map_toArray, List.map_cons, List.map_nil, hs, hx, hr]
  exact hK _ _ (h v' w' h2 (HB.grown h3 hbase HO.from_) h3)
/-- append(v, p), behind 'at_builtin': the goal's world has the variadic's box. -/
theorem BRw.append_one {w0 W : World} (base : Nat) (hgd : o.guard = none) (s x : Operand) (t e : TypeId)
    (ho : o.op = .call { callee := .builtin .append, args := #[s, x], argTypes := #[t, t] })
    (ht : P.underlying t = some (.slice e)) (hinfo : (P.info? e).map (fun i => (i.zero, i.size, i.bytes)) = some (some (.int .u8 0), 1, 1))
    (v : Value) (xs : List Int) (p : Int) (hs : a.eval s = v) (hx : a.eval x = .slice (some ⟨W.heap.size, 0, none⟩) 1 1)
    (HO : BRw e W base v xs) (HB : Below base w0 W) (hbase : base ≤ W.heap.size) (hl : xs.length + 1 ≤ 140737488355328)
    (h : ∀ v1 w1, BRw e w1 base v1 (xs ++ [p]) → Below base w0 w1 → W.grownBy w1 v.ownBlock → wpList P ops Q rest (a.put o.dst v1) w1) : wpList P ops Q (o :: rest) a (W.alloc (.cells #[.int .u8 p] e)) := by
  have hn := heap_alloc_new W (.cells #[Value.int .u8 p] e)
  have hg0 : W.grownBy (W.alloc (.cells #[Value.int .u8 p] e)) v.ownBlock := World.grownBy_alloc W _ _
  refine BRw.append_rows (w0 := w0) base hgd s x t e ho ht hinfo v xs [p] W.heap.size 1 hs hx ?_ (HO.alloc _) (HB.grown hg0 hbase HO.from_) (Nat.le_trans hbase hg0.size) hl ?_
  · intro j hj
    have h0 : j = 0 := by simp only [List.length_singleton] at hj; omega
    subst h0
    rw [cell_of_row _ _ 0 _ _ _ hn]
    rfl
  · intro v1 w1 h1 h2 h3
    refine h v1 w1 h1 h2 ⟨h3.os.trans hg0.os, h3.tape.trans hg0.tape, h3.output.trans hg0.output, Nat.le_trans hg0.size h3.size, fun k hk hne => (h3.block k (Nat.lt_of_lt_of_le hk hg0.size) hne).trans (hg0.block k hk hne)⟩
end
theorem BRw.at_ {e : TypeId} {w : World} {base g n c : Nat} {ys : List Int} (h : BRw e w base (.slice (some ⟨g, 0, none⟩) n c) ys) : ∀ j, j < ys.length → w.cell? ⟨g, j, none⟩ = some (.int .u8 (ys.getD j 0)) := by
  obtain ⟨g', cap', hv, hc⟩ := h.cell
  injection hv with ha _ _
  injection ha with ha
  injection ha with ha _ _
  subst ha
  intro j hj
  exact hc j (.int .u8 (ys.getD j 0)) (by simp [nums, List.getElem?_eq_getElem hj, List.getD_eq_getElem?_getD])
section
variable {P : Program} {ops : Array Oper} {rest : List Oper} {o : Oper} {a : Act} {Q : Exit → Act → World → Prop}
/-- '[]byte(s)', an event. -/
theorem BRw.conv_event {W : World} (hgd : o.guard = none) {N : Tmp} (hd : o.dst = some N) (src dst e : TypeId) (x : Operand) (ho : o.op = .convert src dst x) (s : ByteArray) (hx : a.eval x = .string s) (hz : s.size ≤ 9223372036854775807) {u : TypeDesc}
    (hs : P.underlying src = some u) (hd' : P.underlying dst = some (.slice e)) (he : P.underlying e = some (.int .u8))
    (h : ∀ (g c : Nat) (w1 : World), BRw e w1 W.heap.size (.slice (some ⟨g, 0, none⟩) (bytesOf s).length c) (bytesOf s) → Below W.heap.size W w1 → wpList P ops Q rest (a.put o.dst (.slice (some ⟨g, 0, none⟩) (bytesOf s).length c)) w1) : wpList P ops Q (o :: rest) a W := by
  have hr := print_bytes (P := P) src dst e hs hd' he s W
  refine Kd.event_run hgd (w1 := Lib.bytesWorld W e s) (v := .slice (some ⟨W.heap.size, 0, none⟩) s.size (grownCap W s.size 0 e)) ?_ ?_
  · simp [execOp, ho, hx, hr]
  · have h2 := h W.heap.size (grownCap W s.size 0 e) (Lib.bytesWorld W e s) (BRw.conv W e s hz) (bytes_below (Below.refl _ _) (Nat.le_refl _) e s)
    rw [bytesOf_length] at h2
    exact h2
variable {Kc : Act → World → Prop}
/-- '[]byte(s)', a step of a region that draws. -/
theorem BRw.conv_step {W : World} (hw : Region.wanted o (yielded ops a.tmps) = true) {N : Tmp} (hd : o.dst = some N) (src dst e : TypeId) (x : Operand) (ho : o.op = .convert src dst x) (s : ByteArray) (hx : a.eval x = .string s) (hz : s.size ≤ 9223372036854775807) {u : TypeDesc}
    (hs : P.underlying src = some u) (hd' : P.underlying dst = some (.slice e)) (he : P.underlying e = some (.int .u8))
    (h : ∀ (v1 : Value) (w1 : World), BRw e w1 W.heap.size v1 (bytesOf s) → Below W.heap.size W w1 → Kc (a.put o.dst v1) w1) : if Region.wanted o (yielded ops a.tmps) = true then Oper.wp P o a W Kc Q else Kc (a.put o.dst undef) W := by
  have hr := print_bytes (P := P) src dst e hs hd' he s W
  have hrun : (execOp a.eval o).run P W = .ok (.value (.slice (some ⟨W.heap.size, 0, none⟩) s.size (grownCap W s.size 0 e))) (Lib.bytesWorld W e s) := by simp [execOp, ho, hx, hr]
  rw [if_pos hw]
  unfold Oper.wp
  rw [hrun]
  have h2 := h _ (Lib.bytesWorld W e s) (BRw.conv W e s hz) (bytes_below (Below.refl _ _) (Nat.le_refl _) e s); rw [bytesOf_length] at h2
  exact h2
end
theorem brw_q {p q : Prop} (h : Aside0 p) (hq : p → q := by intro h; (with_reducible repeat (first | apply BRw.alloc | apply BRw.drew)); exact h) : q := hq h.out
set_option maxHeartbeats 8000000 in
set_option maxRecDepth 100000 in
theorem spec_PacketText.calls (k : Nat) (Ag : Int) (Ah : Int) (Ai : Int) (Aj : Int) (As : Option Addr) (Aq : Nat) (Ae : List Int) (At : Option Addr) (Ar : Nat) (Ab : List (S24)) (r1 : ByteArray) (r2 : Bool) (w : World) (hr0_4 : Kd.C (Kd.int .i64) w As Ae.length Ae) (hc0_4 : Ae.length ≤ Aq) (hr0_5 : Kd.C k24 w At Ab.length Ab) (hc0_5 : Ab.length ≤ Ar) (h : spec_PacketText.f k Ag Ah Ai Aj Ae Ab = some (r1, r2)) :
  Calls Try.prog 15 #[.agg #[.int .i64 Ag, .int .i64 Ah, .int .i64 Ai, .int .i64 Aj, .slice As Ae.length Aq, .slice At Ab.length Ar]] w fun e w' => e = .returned (.tuple #[.string r1, .bool r2]) ∧ Below w.heap.size w w' := by
 have hu39 := Try.underlying39; have hu24 := Try.underlying24; have Cf := ak hr0_4; have Dy := ak hc0_4; clear hr0_4 hc0_4; have Cg := ak hr0_5; have Dz := ak hc0_5; clear hr0_5 hc0_5; have HB := ak (Below.refl w.heap.size w); have H := h
 clear h; unfold spec_PacketText.f at H; replace H := bsi H; obtain ⟨Dt, A20, H⟩ := H
 (try dsimp only at H)
 have A2 := ak A20; clear A20; have Es := ak H; clear H
 go_enter Try.func15, Try.ntmps15
 go_upto_if 11 with (first | ((with_reducible refine gate_dst (N := 1) rfl ?_); refine box_q 1 #[.int .i64 Ag, .int .i64 Ah, .int .i64 Ai, .int .i64 Aj, .slice As Ae.length Aq, .slice At Ab.length Ar] 39 ?_; intro Ac hg w4 hbox hb; have Aa := ak (hbox); have Gh := gsz w (below_size (bw_q HB)) hg; have Gi := gsz w (below_size (bw_q HB)) hg; replace HB := ak (below_step (bw_q HB) hb); clear hb hbox hg; obtain ⟨Bs, Bt, Bu, Bv, Bw, Bx, By, Bz, Ca, Cb, Cc, Cd⟩ := cf6_ Aa) | ((with_reducible refine gate_callee (f := 30) rfl ?_); refine goesL_ (some 10) rfl rfl Try.func30 (by kernel_rfl) rfl #[.agg #[.int .i64 Ag, .int .i64 Ah, .int .i64 Ai, .int .i64 Aj, .slice As Ae.length Aq, .slice At Ab.length Ar]] rfl mp_q ?_; (with_reducible refine (spec_PacketOk.calls k Ag Ah Ai Aj _ _ Ae _ _ Ab Dt _ ?side1 ?side2 ?side3 ?side4 A2.out).mono ?_); (case side1 => exact cs_q (Kd.C_below Cf.out HB.out)); (case side2 => exact Dy.out); (case side3 => exact cs_q (Kd.C_below Cg.out HB.out)); (case side4 => exact Dz.out); rintro e w6 ⟨rfl, hb⟩; refine ⟨_, rfl, ?_⟩; replace Aa := ak (blk_below (g := Ac) (bk_q Aa) hb); replace HB := ak (below_step (bw_q HB) hb)))
 have H := Es.out; clear Es
 by_cases c7 : Dt = true
 ·subst c7; rw [if_pos rfl] at H; replace H := bsi H; obtain ⟨Ak, A80, H⟩ := H
  (try dsimp only at H)
  have A8 := ak A80; clear A80; replace H := bsi H; obtain ⟨Al, A90, H⟩ := H
  (try dsimp only at H)
  have A9 := ak A90; clear A90
  by_cases c10 : Ak.size + Al.size ≤ 9223372036854775807
  ·rw [if_pos c10] at H; have Ch := eq_true c10
   have Ci : decide (Ak.size + Al.size ≤ 9223372036854775807) = true := decide_eq_true c10
   try have Bn : (9223372036854775807 < Ak.size + Al.size) = False := eq_false (Nat.not_lt.2 c10)
   try (have Ea := Bn; simp only [ByteArray.size_append] at Ea)
   replace H := bsi H; obtain ⟨An, A110, H⟩ := H
   (try dsimp only at H)
   have A11 := ak A110; clear A110
   by_cases c12 : (Ak ++ Al).size + An.size ≤ 9223372036854775807
   ·rw [if_pos c12] at H; have Cj := eq_true c12
    have Ck : decide ((Ak ++ Al).size + An.size ≤ 9223372036854775807) = true := decide_eq_true c12
    try have Bo : (9223372036854775807 < (Ak ++ Al).size + An.size) = False := eq_false (Nat.not_lt.2 c12)
    try (have Eb := Bo; simp only [ByteArray.size_append] at Eb)
    replace H := bsi H; obtain ⟨Ao, A130, H⟩ := H
    (try dsimp only at H)
    have A13 := ak A130; clear A130
    by_cases c14 : ((Ak ++ Al) ++ An).size + Ao.size ≤ 9223372036854775807
    ·rw [if_pos c14] at H; have Cl := eq_true c14
     have Cm : decide (((Ak ++ Al) ++ An).size + Ao.size ≤ 9223372036854775807) = true := decide_eq_true c14
     try have Bp : (9223372036854775807 < ((Ak ++ Al) ++ An).size + Ao.size) = False := eq_false (Nat.not_lt.2 c14)
     try (have Ec := Bp; simp only [ByteArray.size_append] at Ec)
     replace H := bsi H; obtain ⟨Av, A150, H⟩ := H
     (try dsimp only at H)
     have A15 := ak A150; clear A150
     by_cases c16 : (((Ak ++ Al) ++ An) ++ Ao).size + Av.size ≤ 9223372036854775807
     ·rw [if_pos c16] at H; have Cn := eq_true c16
      have Co : decide ((((Ak ++ Al) ++ An) ++ Ao).size + Av.size ≤ 9223372036854775807) = true := decide_eq_true c16
      try have Bq : (9223372036854775807 < (((Ak ++ Al) ++ An) ++ Ao).size + Av.size) = False := eq_false (Nat.not_lt.2 c16)
      try (have Ed := Bq; simp only [ByteArray.size_append] at Ed)
      by_cases c17 : ((((Ak ++ Al) ++ An) ++ Ao) ++ Av).size ≤ 140737488355328
      ·rw [if_pos c17] at H; have Br := eq_true c17
       have Cp : decide (((((Ak ++ Al) ++ An) ++ Ao) ++ Av).size ≤ 140737488355328) = true := decide_eq_true c17
       clear c17; obtain ⟨Du, Ax⟩ : ∃ y_ : List Int, y_ = (bytesOf ((((Ak ++ Al) ++ An) ++ Ao) ++ Av)) := ⟨_, rfl⟩
       replace H : (spec_PacketText.l0 k Du 0 Ag Ah Ai Aj Ae Ab) = some (r1, r2) := by first | (rw [Ax]; with_reducible exact H) | (have H2_ := (Option.bind_some _ _).symm.trans H; rw [Ax]; with_reducible exact H2_) | (have H2_ := (Option.bind_some _ _).symm.trans H; with_reducible exact H2_) | with_reducible exact H | (rw [Ax]; exact H) | exact H
       have Ee := ak Ax; clear Ax; have H' := ak H; clear H
       try go_wp2
       replace Aa := ak (blk_drew Aa.out); replace HB := ak (below_drew1 HB.out)
       refine start_ (n := 22) (S := fun w' => w'.cell? ⟨Ac, 0, none⟩ = some (.int .i64 Ag) ∧ w'.cell? ⟨Ac, 1, none⟩ = some (.int .i64 Ah) ∧ w'.cell? ⟨Ac, 2, none⟩ = some (.int .i64 Ai) ∧ w'.cell? ⟨Ac, 3, none⟩ = some (.int .i64 Aj) ∧ w'.cell? ⟨Ac, 4, none⟩ = some (.slice As Ae.length Aq) ∧ w'.cell? ⟨Ac, 5, none⟩ = some (.slice At Ab.length Ar)) (ds := []) (bL 22 0) (by kernel_rfl) rfl rfl (cz6_ Aa) (fun hHeld => ?_); refine with_tabW spec_PacketText.tab3 spec_PacketText.bits3 (fun HT_ HW_ => ?_)
       generalize w6.drew = w18 at Aa HB hHeld ⊢
       refine pq_ 0 12 (bL 22 1) HT_.out rfl rfl ?_
       refine pq_ 3 15 (bL 22 9) HT_.out rfl rfl ?_
       refine pq_ 7 19 (bL 22 137) HT_.out rfl rfl ?_
       refine pq_ 11 23 (bL 22 2185) HT_.out rfl rfl ?_
       refine pq_ 15 27 (bL 22 34953) HT_.out rfl rfl ?_
       refine take_ (i := 1) (N := some 13) (v := ?_) (a' := ?_) (bL 22 34955) rfl rfl (take_ofW HT_.out HW_.out (by kernel_rfl)) (fun _ _ _ h => h) (Or.inl ⟨by rfl, ?_⟩) hHeld ?_ ?_; rotate_left; (rintro w' ⟨s0, s1, s2, s3, s4, s5⟩; go_simp; with_reducible rfl); rotate_left; (exact put_q)
       refine take_ (i := 4) (N := some 16) (v := ?_) (a' := ?_) (bL 22 34971) rfl rfl (take_ofW HT_.out HW_.out (by kernel_rfl)) (fun _ _ _ h => h) (Or.inl ⟨by rfl, ?_⟩) hHeld ?_ ?_; rotate_left; (rintro w' ⟨s0, s1, s2, s3, s4, s5⟩; go_simp; with_reducible rfl); rotate_left; (exact put_q)
       refine take_ (i := 8) (N := some 20) (v := ?_) (a' := ?_) (bL 22 35227) rfl rfl (take_ofW HT_.out HW_.out (by kernel_rfl)) (fun _ _ _ h => h) (Or.inl ⟨by rfl, ?_⟩) hHeld ?_ ?_; rotate_left; (rintro w' ⟨s0, s1, s2, s3, s4, s5⟩; go_simp; with_reducible rfl); rotate_left; (exact put_q)
       refine take_ (i := 12) (N := some 24) (v := ?_) (a' := ?_) (bL 22 39323) rfl rfl (take_ofW HT_.out HW_.out (by kernel_rfl)) (fun _ _ _ h => h) (Or.inl ⟨by rfl, ?_⟩) hHeld ?_ ?_; rotate_left; (rintro w' ⟨s0, s1, s2, s3, s4, s5⟩; go_simp; with_reducible rfl); rotate_left; (exact put_q)
       refine take_ (i := 16) (N := some 28) (v := ?_) (a' := ?_) (bL 22 104859) rfl rfl (take_ofW HT_.out HW_.out (by kernel_rfl)) (fun _ _ _ h => h) (Or.inl ⟨by rfl, ?_⟩) hHeld ?_ ?_; rotate_left; (rintro w' ⟨s0, s1, s2, s3, s4, s5⟩; go_simp; with_reducible rfl); rotate_left; (exact put_q)
       refine pq_ 17 29 (bL 22 235931) HT_.out rfl rfl ?_
       refine one_ (i := 2) (N := some 14) (bL 22 235935) rfl rfl (one_of HT_.out (by kernel_rfl)) (by decide) (fun K hK => ?_)
       refine goes_ Try.func48 (by kernel_rfl) rfl #[.int .i64 Ag] (by rfl) rfl rfl mp_q ?_
       with_reducible refine (spec_l04Byte.calls Ag Ak _ A8.out).mono ?_
       rintro e w19 ⟨rfl, hb⟩
       refine ⟨_, rfl, ?_⟩
       replace Aa := ak (blk_below (g := Ac) (bk_q Aa) hb); replace HB := ak (below_step (bw_q HB) hb)
       refine hK.out _ _ (cz6_ Aa) (fun hHeld => ?_)
       clear hK K
       refine norm_ (a' := ?_) ?_ ?_; rotate_left; (show Act.put _ (some 14) _ = _; simp only [Act.put, List.setIfInBounds_toArray, List.set_cons_zero, List.set_cons_succ, i64_w, i32_w]; rfl)
       refine one_ (i := 5) (N := some 17) (bL 22 235967) rfl rfl (one_of HT_.out (by kernel_rfl)) (by decide) (fun K hK => ?_)
       refine goes_ Try.func48 (by kernel_rfl) rfl #[.int .i64 Ah] (by rfl) rfl rfl mp_q ?_
       with_reducible refine (spec_l04Byte.calls Ah Al _ A9.out).mono ?_
       rintro e w20 ⟨rfl, hb⟩
       refine ⟨_, rfl, ?_⟩
       replace Aa := ak (blk_below (g := Ac) (bk_q Aa) hb); replace HB := ak (below_step (bw_q HB) hb)
       refine hK.out _ _ (cz6_ Aa) (fun hHeld => ?_)
       clear hK K
       refine norm_ (a' := ?_) ?_ ?_; rotate_left; (show Act.put _ (some 17) _ = _; simp only [Act.put, List.setIfInBounds_toArray, List.set_cons_zero, List.set_cons_succ, i64_w, i32_w]; rfl)
       refine pq_ 6 18 (bL 22 236031) HT_.out rfl rfl ?_
       refine one_ (i := 9) (N := some 21) (bL 22 236543) rfl rfl (one_of HT_.out (by kernel_rfl)) (by decide) (fun K hK => ?_)
       refine goes_ Try.func48 (by kernel_rfl) rfl #[.int .i64 Ai] (by rfl) rfl rfl mp_q ?_
       with_reducible refine (spec_l04Byte.calls Ai An _ A11.out).mono ?_
       rintro e w21 ⟨rfl, hb⟩
       refine ⟨_, rfl, ?_⟩
       replace Aa := ak (blk_below (g := Ac) (bk_q Aa) hb); replace HB := ak (below_step (bw_q HB) hb)
       refine hK.out _ _ (cz6_ Aa) (fun hHeld => ?_)
       clear hK K
       refine norm_ (a' := ?_) ?_ ?_; rotate_left; (show Act.put _ (some 21) _ = _; simp only [Act.put, List.setIfInBounds_toArray, List.set_cons_zero, List.set_cons_succ, i64_w, i32_w]; rfl)
       refine pq_ 10 22 (bL 22 237567) HT_.out rfl rfl ?_
       refine one_ (i := 13) (N := some 25) (bL 22 245759) rfl rfl (one_of HT_.out (by kernel_rfl)) (by decide) (fun K hK => ?_)
       refine goes_ Try.func48 (by kernel_rfl) rfl #[.int .i64 Aj] (by rfl) rfl rfl mp_q ?_
       with_reducible refine (spec_l04Byte.calls Aj Ao _ A13.out).mono ?_
       rintro e w22 ⟨rfl, hb⟩
       refine ⟨_, rfl, ?_⟩
       replace Aa := ak (blk_below (g := Ac) (bk_q Aa) hb); replace HB := ak (below_step (bw_q HB) hb)
       refine hK.out _ _ (cz6_ Aa) (fun hHeld => ?_)
       clear hK K
       refine norm_ (a' := ?_) ?_ ?_; rotate_left; (show Act.put _ (some 25) _ = _; simp only [Act.put, List.setIfInBounds_toArray, List.set_cons_zero, List.set_cons_succ, i64_w, i32_w]; rfl)
       refine pq_ 14 26 (bL 22 262143) HT_.out rfl rfl ?_
       refine one_ (i := 18) (N := some 30) (bL 22 524287) rfl rfl (one_of HT_.out (by kernel_rfl)) (by decide) (fun K hK => ?_)
       refine goes_ Try.func49 (by kernel_rfl) rfl #[.int .i64 (Ae.length : Int)] (by rfl) rfl rfl mp_q ?_
       with_reducible refine (spec_l01Var.calls k (Ae.length : Int) Av _ A15.out).mono ?_
       rintro e w23 ⟨rfl, hb⟩
       refine ⟨_, rfl, ?_⟩
       replace Aa := ak (blk_below (g := Ac) (bk_q Aa) hb); replace HB := ak (below_step (bw_q HB) hb)
       refine hK.out _ _ (cz6_ Aa) (fun hHeld => ?_)
       clear hK K
       refine norm_ (a' := ?_) ?_ ?_; rotate_left; (show Act.put _ (some 30) _ = _; simp only [Act.put, List.setIfInBounds_toArray, List.set_cons_zero, List.set_cons_succ, i64_w, i32_w]; rfl)
       refine pq_ 19 31 (bL 22 1048575) HT_.out rfl rfl ?_
       refine one_ (i := 20) (N := some 32) (bL 22 2097151) rfl rfl (one_of HT_.out (by kernel_rfl)) (by decide) (fun K hK => ?_)
       refine BRw.conv_step (P := Try.prog) (by rfl) (N := 32) rfl 9 46 5 _ rfl ((((Ak ++ Al) ++ An) ++ Ao) ++ Av) rfl (by have := of_eq_true Br; omega) Try.underlying9 Try.underlying46 Try.underlying5 ?_
       intro v558 w24 ho25 hb
       rw [← Ee.out] at ho25; have Ef := ak (BRw.lower ho25 (below_size (bw_q HB))); replace Aa := ak (blk_below (g := Ac) (bk_q Aa) hb); replace HB := ak (below_step (bw_q HB) hb); clear hb ho25
       refine hK.out _ _ (cz6_ Aa) (fun hHeld => ?_)
       clear hK K
       refine norm_ (a' := ?_) ?_ ?_; rotate_left; (show Act.put _ (some 32) _ = _; simp only [Act.put, List.setIfInBounds_toArray, List.set_cons_zero, List.set_cons_succ, i64_w, i32_w]; rfl)
       refine pq_ 21 4 (bL 22 4194303) HT_.out rfl rfl ?_
       refine done_ (done_of HT_.out (by kernel_rfl)) ?_
       try go_wp2
       go_loopg [4, 5] k (fun kq v4 v5 w' => ∃ (Au : List Int) (Am : Int), v5 = .int .i64 Am ∧ Aside0 (spec_PacketText.l0 kq Au Am Ag Ah Ai Aj Ae Ab = some (r1, r2)) ∧ Aside0 (kq ≤ k) ∧ Aside0 (BRw 5 w' w.heap.size v4 Au) ∧ Aside0 (w'.heap[Ac]? = some (.cells #[.int .i64 Ag, .int .i64 Ah, .int .i64 Ai, .int .i64 Aj, (.slice As Ae.length Aq), (.slice At Ab.length Ar)] 39 (0, 0))) ∧ Aside0 (Below w.heap.size w w'))
       case atStart => exact ⟨(Du), (0), rs_q, H', ⟨Nat.le_refl _⟩, ⟨by (with_reducible repeat (first | apply BRw.alloc | apply BRw.drew)); exact Ef.out⟩, ⟨bk_q Aa⟩, ⟨bw_q HB⟩⟩
       case round =>
        clear H'; (try clear c1); (try clear p2); (try clear c3); (try clear c4); (try clear c7); (try clear c10); (try clear Ch); (try clear Ci); (try clear Bn); (try clear c12); (try clear Cj); (try clear Ck); (try clear Bo); (try clear c14); (try clear Cl); (try clear Cm); (try clear Bp); (try clear c15); (try clear c16); (try clear Cn); (try clear Co); (try clear Bq); (try clear c17); (try clear Br); (try clear Cp)
        try clear Bs Bt Bu Bv Bw Bx
        try clear By Bz Ca Cb Cc Cd
        obtain ⟨Au, Am, rfl, HA, Cq, Af, Aa, HB⟩ := hrel
        cases gk with
        | zero => exact absurd HA.out (by simp [spec_PacketText.l0])
        | succ k1 =>
         have H := HA.out; clear HA
         simp only [spec_PacketText.l0] at H
         by_cases c26 : Am < (Ae.length : Int)
         ·rw [if_pos c26] at H
          have Aw : decide (Am < (Ae.length : Int)) = true := decide_eq_true c26
          clear c26
          (first | rw [Aw] | rw [Bc] | (simp only [i64_w, i32_w]; first | rw [Aw] | rw [Bc]) | skip)
          by_cases c27 : 0 ≤ Am
          ·rw [if_pos c27] at H
           have Eg : decide (0 ≤ Am) = true := decide_eq_true c27
           clear c27
           by_cases c28 : Au.length < 140737488355328
           ·rw [if_pos c28] at H; have Eh := ak c28; clear c28; obtain ⟨Dv, Ay⟩ : ∃ y_ : List Int, y_ = (Au ++ [(rd Ae Am) % 256]) := ⟨_, rfl⟩
            replace H : (spec_PacketText.l0 k1 Dv (wrap64 (Am + 1)) Ag Ah Ai Aj Ae Ab) = some (r1, r2) := by first | (rw [Ay]; with_reducible exact H) | (have H2_ := (Option.bind_some _ _).symm.trans H; rw [Ay]; with_reducible exact H2_) | (have H2_ := (Option.bind_some _ _).symm.trans H; with_reducible exact H2_) | with_reducible exact H | (rw [Ay]; exact H) | exact H
            have Ei := ak Ay; clear Ay; have H' := ak H; clear H; obtain ⟨Ct, Cu, Cv, Cw, Cx, Cy, Cz, Da, Db, Dc, Dd, De⟩ := cf6_ Aa
            have p560 : 0 ≤ (Am : Int) := of_decide_eq_true as_q
            have q560 : Am < (Ae.length : Int) := of_decide_eq_true as_q
            obtain ⟨Ej, e560, Bb⟩ := Kd.at_int Cf.out Am p560 q560
            cases e560
            replace Bb := hbc HB Bb; replace p560 := eq_true p560; replace q560 := eq_true q560
            go_wp2_with (first | ((with_reducible refine gate_builtin (b := .append) (xs := #[.tmp 40, .tmp 47]) rfl ?_); at_builtin; refine BRw.append_one (P := Try.prog) (w0 := w) w.heap.size rfl (.tmp 40) (.tmp 47) 46 5 rfl Try.underlying46 info5 u4 Au ((rd Ae Am) % 256) rfl rfl ?aO ?aB ?aS ?aL ?_; (case aB => exact (bw_q HB)); (case aO => exact (brw_q Af)); (case aS => exact (below_size (bw_q HB))); (case aL => have := Eh.out; omega); intro v562 w30 ho hb hg; have hat := True.intro; rw [← Ei.out] at ho; replace Aa := ak (blk_grown (g := Ac) (o := .cells #[.int .i64 Ag, .int .i64 Ah, .int .i64 Ai, .int .i64 Aj, .slice (some Ej) Ae.length Aq, .slice At Ab.length Ar] 39 (0, 0)) (bk_q Aa) hg (BRw.ne Af.out Aa.out (by decide))); replace HB := ak (hb); have Ek := ak (ho); clear Af; clear ho hb hg hat))
            go_roundg k1
            case measure => have := Cq.out; omega
            case rel => exact ⟨(Dv), (wrap64 (Am + 1)), rs_q, H', ⟨by have := Cq.out; omega⟩, ⟨by (with_reducible repeat (first | apply BRw.alloc | apply BRw.drew)); exact Ek.out⟩, ⟨bk_q Aa⟩, ⟨bw_q HB⟩⟩
           ·rw [if_neg c28] at H
            exact absurd H (by simp)
          ·rw [if_neg c27] at H
           exact absurd H (by simp)
         ·rw [if_neg c26] at H
          have Aw : decide (Am < (Ae.length : Int)) = false := decide_eq_false c26
          clear c26
          (first | rw [Aw] | rw [Bc] | (simp only [i64_w, i32_w]; first | rw [Aw] | rw [Bc]) | skip)
          replace H := bsi H; obtain ⟨Bd, A310, H⟩ := H
          (try dsimp only at H)
          have A31 := ak A310; clear A310
          by_cases c32 : Au.length + Bd.size < 140737488355328
          ·rw [if_pos c32] at H; have Cr := ak c32; clear c32; obtain ⟨Dw, Az⟩ : ∃ y_ : List Int, y_ = (Au ++ bytesOf Bd) := ⟨_, rfl⟩
           replace H : (spec_PacketText.l1 k1 Dw 0 Ag Ah Ai Aj Ae Ab) = some (r1, r2) := by first | (rw [Az]; with_reducible exact H) | (have H2_ := (Option.bind_some _ _).symm.trans H; rw [Az]; with_reducible exact H2_) | (have H2_ := (Option.bind_some _ _).symm.trans H; with_reducible exact H2_) | with_reducible exact H | (rw [Az]; exact H) | exact H
           have El := ak Az; clear Az; have H' := ak H; clear H; obtain ⟨Df, Dg, Dh, Di, Dj, Dk, Dl, Dm, Dn, Do, Dp, Dq⟩ := cf6_ Aa
           go_wp2_with (first | ((with_reducible refine gate_callee (f := 49) rfl ?_); refine goesL_ (some 53) rfl rfl Try.func49 (by kernel_rfl) rfl #[.int .i64 (Ab.length : Int)] rfl mp_q ?_; (with_reducible refine (spec_l01Var.calls k1 (Ab.length : Int) Bd _ A31.out).mono ?_); rintro e w34 ⟨rfl, hb⟩; refine ⟨_, rfl, ?_⟩; replace Af := ak (BRw.below (brw_q Af) hb); replace Aa := ak (blk_below (g := Ac) (bk_q Aa) hb); replace HB := ak (below_step (bw_q HB) hb)) | (refine BRw.conv_event (P := Try.prog) rfl (N := 54) rfl 9 46 5 (.tmp 53) rfl Bd rfl (by have := Cr.out; omega) Try.underlying9 Try.underlying46 Try.underlying5 ?_; intro g54 c54 wc hbr hb; replace Af := ak (BRw.below (brw_q Af) hb); have HN := ak hbr; replace Aa := ak (blk_below (g := Ac) (bk_q Aa) hb); replace HB := ak (below_step (bw_q HB) hb); clear hb hbr) | (at_builtin; refine BRw.append_rows (P := Try.prog) (w0 := w) w.heap.size rfl (.tmp 49) (.tmp 54) 46 5 rfl Try.underlying46 info5 u4 Au (bytesOf Bd) g54 c54 rfl rfl (BRw.at_ HN.out) ?aO ?aB ?aS ?aL ?_; (case aB => exact (bw_q HB)); (case aO => exact (brw_q Af)); (case aS => exact (below_size (bw_q HB))); (case aL => have := Cr.out; rw [bytesOf_length]; omega); intro v566 w35 ho hb hg; have hat := True.intro; rw [← El.out] at ho; replace Aa := ak (blk_grown (g := Ac) (o := .cells #[.int .i64 Ag, .int .i64 Ah, .int .i64 Ai, .int .i64 Aj, .slice As Ae.length Aq, .slice At Ab.length Ar] 39 (0, 0)) (bk_q Aa) hg (BRw.ne Af.out Aa.out (by decide))); replace HB := ak (hb); have Em := ak (ho); clear Af; clear ho hb hg hat))
           go_loopg [4, 6] k1 (fun kq v4 v6 w' => ∃ (Ap : List Int) (Ad : Int), v6 = .int .i64 Ad ∧ Aside0 (spec_PacketText.l1 kq Ap Ad Ag Ah Ai Aj Ae Ab = some (r1, r2)) ∧ Aside0 (kq ≤ k1) ∧ Aside0 (BRw 5 w' w.heap.size v4 Ap) ∧ Aside0 (w'.heap[Ac]? = some (.cells #[.int .i64 Ag, .int .i64 Ah, .int .i64 Ai, .int .i64 Aj, (.slice As Ae.length Aq), (.slice At Ab.length Ar)] 39 (0, 0))) ∧ Aside0 (Below w.heap.size w w'))
           case atStart => exact ⟨(Dw), (0), rs_q, H', ⟨Nat.le_refl _⟩, ⟨by (with_reducible repeat (first | apply BRw.alloc | apply BRw.drew)); exact Em.out⟩, ⟨bk_q Aa⟩, ⟨bw_q HB⟩⟩
           case round =>
            clear H'; (try clear c1); (try clear c2); (try clear p2); (try clear c3); (try clear c4); (try clear p5); (try clear q5); (try clear hx5); (try clear p6); (try clear c7); (try clear c10); (try clear Ch); (try clear Ci); (try clear Bn); (try clear c12); (try clear Cj); (try clear Ck); (try clear Bo); (try clear c14); (try clear Cl); (try clear Cm); (try clear Bp); (try clear c15); (try clear c16); (try clear Cn); (try clear Co); (try clear Bq); (try clear c17); (try clear Br); (try clear Cp); (try clear c26); (try clear Aw); (try clear Bc); (try clear c27); (try clear Eg); (try clear c28); (try clear c30); (try clear c32)
            try clear Ct Cu Cv Cw Cx Cy
            try clear Df Dg Dh Di Dj Dk
            try clear Bs Bt Bu Bv Bw Bx
            try clear Cz Da Db Dc Dd De
            try clear Dl Dm Dn Do Dp Dq
            try clear By Bz Ca Cb Cc Cd
            (try clear Bb); (try clear p2); (try clear p560); (try clear q560); obtain ⟨Ap, Ad, rfl, HA, Et, Af, Aa, HB⟩ := hrel
            cases gk with
            | zero => exact absurd HA.out (by simp [spec_PacketText.l1])
            | succ k2 =>
             have H := HA.out; clear HA
             simp only [spec_PacketText.l1] at H
             by_cases c36 : Ad < (Ab.length : Int)
             ·rw [if_pos c36] at H
              have En : decide (Ad < (Ab.length : Int)) = true := decide_eq_true c36
              clear c36
              by_cases c37 : 0 ≤ Ad
              ·rw [if_pos c37] at H
               have Gj : decide (0 ≤ Ad) = true := decide_eq_true c37
               clear c37; replace H := bsi H; obtain ⟨⟨Ce, Eu⟩, A380, H⟩ := H
               (try dsimp only at H)
               have A38 := ak A380; clear A380; replace H := bsi H; obtain ⟨Be, A390, H⟩ := H
               (try dsimp only at H)
               have A39 := ak A390; clear A390
               by_cases c40 : Ap.length + Be.size < 140737488355328
               ·rw [if_pos c40] at H; have Cs := ak c40; clear c40; obtain ⟨Dx, Ba⟩ : ∃ y_ : List Int, y_ = (Ap ++ bytesOf Be) := ⟨_, rfl⟩
                replace H : (spec_PacketText.l1 k2 Dx (wrap64 (Ad + 1)) Ag Ah Ai Aj Ae Ab) = some (r1, r2) := by first | (rw [Ba]; with_reducible exact H) | (have H2_ := (Option.bind_some _ _).symm.trans H; rw [Ba]; with_reducible exact H2_) | (have H2_ := (Option.bind_some _ _).symm.trans H; with_reducible exact H2_) | with_reducible exact H | (rw [Ba]; exact H) | exact H
                have Eo := ak Ba; clear Ba; have H' := ak H; clear H; obtain ⟨Ex, Ey, Ez, Fa, Fb, Fc, Fd, Fe, Ff, Fg, Fh, Fi⟩ := cf6_ Aa
                have p568 : 0 ≤ (Ad : Int) := of_decide_eq_true as_q
                have q568 : Ad < (Ab.length : Int) := of_decide_eq_true as_q
                obtain ⟨Ep, A568_5, c568_5, e568, Bf, Bg, Bh, Bi, Bj, Bk, Bl, Bm, hl568_5, hi568_5⟩ := at_T24 Cg.out Ad p568 q568
                cases e568
                replace Bf := hbc HB Bf; replace Bg := hbc HB Bg; replace Bh := hbc HB Bh; replace Bi := hbc HB Bi; replace Bj := hbc HB Bj; replace Bk := hbc HB Bk; replace Bl := hbc HB Bl; replace Bm := hbc HB Bm; have Dr := ak hi568_5; have Ds := ak hl568_5; clear hi568_5 hl568_5; replace p568 := eq_true p568; replace q568 := eq_true q568
                go_wp2_with (first | ((with_reducible refine gate_callee (f := 40) rfl ?_); refine goesL_ (some 69) rfl rfl Try.func40 (by kernel_rfl) rfl #[.agg #[.int .i64 ((rd_T24 Ab Ad).f0), .int .i64 ((rd_T24 Ab Ad).f1), .int .i64 ((rd_T24 Ab Ad).f2), .int .i64 ((rd_T24 Ab Ad).f3), .int .i64 ((rd_T24 Ab Ad).f4), .slice A568_5 ((rd_T24 Ab Ad).f5).length c568_5, .int .i64 ((rd_T24 Ab Ad).f6), .bool ((rd_T24 Ab Ad).f7)]] rfl mp_q ?_; (with_reducible refine (spec_RecordText.calls k2 ((rd_T24 Ab Ad).f0) ((rd_T24 Ab Ad).f1) ((rd_T24 Ab Ad).f2) ((rd_T24 Ab Ad).f3) ((rd_T24 Ab Ad).f4) _ _ ((rd_T24 Ab Ad).f5) ((rd_T24 Ab Ad).f6) ((rd_T24 Ab Ad).f7) Ce Eu _ ?side1 ?side2 A38.out).mono ?_); (case side1 => exact cs_q (Kd.C_below Dr.out HB.out)); (case side2 => exact Ds.out); rintro e w42 ⟨rfl, hb⟩; refine ⟨_, rfl, ?_⟩; replace Af := ak (BRw.below (brw_q Af) hb); replace Aa := ak (blk_below (g := Ac) (bk_q Aa) hb); replace HB := ak (below_step (bw_q HB) hb)) | ((with_reducible refine gate_callee (f := 50) rfl ?_); refine goesL_ (some 74) rfl rfl Try.func50 (by kernel_rfl) rfl #[.string Ce] rfl mp_q ?_; (with_reducible refine (spec_l04Short.calls k2 Ce Be _ A39.out).mono ?_); rintro e w43 ⟨rfl, hb⟩; refine ⟨_, rfl, ?_⟩; replace Af := ak (BRw.below (brw_q Af) hb); replace Aa := ak (blk_below (g := Ac) (bk_q Aa) hb); replace HB := ak (below_step (bw_q HB) hb)) | (refine BRw.conv_event (P := Try.prog) rfl (N := 75) rfl 9 46 5 (.tmp 74) rfl Be rfl (by have := Cs.out; omega) Try.underlying9 Try.underlying46 Try.underlying5 ?_; intro g75 c75 wc hbr hb; replace Af := ak (BRw.below (brw_q Af) hb); have HN := ak hbr; replace Aa := ak (blk_below (g := Ac) (bk_q Aa) hb); replace HB := ak (below_step (bw_q HB) hb); clear hb hbr) | (at_builtin; refine BRw.append_rows (P := Try.prog) (w0 := w) w.heap.size rfl (.tmp 72) (.tmp 75) 46 5 rfl Try.underlying46 info5 u4 Ap (bytesOf Be) g75 c75 rfl rfl (BRw.at_ HN.out) ?aO ?aB ?aS ?aL ?_; (case aB => exact (bw_q HB)); (case aO => exact (brw_q Af)); (case aS => exact (below_size (bw_q HB))); (case aL => have := Cs.out; rw [bytesOf_length]; omega); intro v573 w44 ho hb hg; have hat := True.intro; rw [← Eo.out] at ho; replace Aa := ak (blk_grown (g := Ac) (o := .cells #[.int .i64 Ag, .int .i64 Ah, .int .i64 Ai, .int .i64 Aj, .slice As Ae.length Aq, .slice (some Ep) Ab.length Ar] 39 (0, 0)) (bk_q Aa) hg (BRw.ne Af.out Aa.out (by decide))); replace HB := ak (hb); have Eq := ak (ho); clear Af; clear ho hb hg hat))
                go_roundg k2
                case measure => have := Cq.out; have := Et.out; omega
                case rel => exact ⟨(Dx), (wrap64 (Ad + 1)), rs_q, H', ⟨by have := Cq.out; have := Et.out; omega⟩, ⟨by (with_reducible repeat (first | apply BRw.alloc | apply BRw.drew)); exact Eq.out⟩, ⟨bk_q Aa⟩, ⟨bw_q HB⟩⟩
               ·rw [if_neg c40] at H
                exact absurd H (by simp)
              ·rw [if_neg c37] at H
               exact absurd H (by simp)
             ·rw [if_neg c36] at H
              have En : decide (Ad < (Ab.length : Int)) = false := decide_eq_false c36
              clear c36
              by_cases c45 : (wrap64 ((Ap.length : Int) + 4)) > 20000
              ·rw [if_pos c45] at H
               have Er : decide (20000 < (wrap64 ((Ap.length : Int) + 4))) = true := decide_eq_true c45
               clear c45
               simp only [Option.some.injEq, Prod.mk.injEq] at H
               obtain ⟨rfl, rfl⟩ := H; obtain ⟨Fj, Fk, Fl, Fm, Fn, Fo, Fp, Fq, Fr, Fs, Ft, Fu⟩ := cf6_ Aa; obtain ⟨Ao47, co47, eo47⟩ := BRw.slice Af.out; subst eo47
               go_wp2
               go_ret2
               exact ⟨er_q, bw_q HB⟩
              ·rw [if_neg c45] at H
               have Er : decide (20000 < (wrap64 ((Ap.length : Int) + 4))) = false := decide_eq_false c45
               clear c45; replace H := bsi H; obtain ⟨⟨Ev, Ew⟩, A480, H⟩ := H
               (try dsimp only at H)
               have A48 := ak A480; clear A480
               simp only [Option.some.injEq, Prod.mk.injEq] at H
               obtain ⟨rfl, rfl⟩ := H; obtain ⟨Fv, Fw, Fx, Fy, Fz, Ga, Gb, Gc, Gd, Ge, Gf, Gg⟩ := cf6_ Aa; obtain ⟨Ao50, co50, eo50⟩ := BRw.slice Af.out; subst eo50; have hcv51 := BRw.string (P := Try.prog) Try.underlying46 Try.underlying5 Try.underlying9 Af.out
               go_wp2_with (first | ((with_reducible refine gate_callee (f := 51) rfl ?_); refine goesL_ (some 83) rfl rfl Try.func51 (by kernel_rfl) rfl #[.string (strOfNums Ap)] rfl mp_q ?_; (with_reducible refine (spec_Sealed.calls k2 (strOfNums Ap) Ev Ew _ A48.out).mono ?_); rintro e w52 ⟨rfl, hb⟩; refine ⟨_, rfl, ?_⟩; replace Af := ak (BRw.below (brw_q Af) hb); replace Aa := ak (blk_below (g := Ac) (bk_q Aa) hb); replace HB := ak (below_step (bw_q HB) hb)))
               go_ret2
               exact ⟨er_q, bw_q HB⟩
          ·rw [if_neg c32] at H
           exact absurd H (by simp)
      ·rw [if_neg c17] at H
       exact absurd H (by simp)
     ·rw [if_neg c16] at H
      exact absurd H (by simp)
    ·rw [if_neg c14] at H
     exact absurd H (by simp)
   ·rw [if_neg c12] at H
    exact absurd H (by simp)
  ·rw [if_neg c10] at H
   exact absurd H (by simp)
 ·replace c7 := Bool.eq_false_iff.mpr c7; subst c7
  rw [if_neg (show ¬ (false = true) by decide)] at H
  simp only [Option.some.injEq, Prod.mk.injEq] at H
  obtain ⟨rfl, rfl⟩ := H
  go_wp2
  go_ret2
  exact ⟨er_q, bw_q HB⟩

end Go.Proofs.Ytnecbkognpponaa.Q
