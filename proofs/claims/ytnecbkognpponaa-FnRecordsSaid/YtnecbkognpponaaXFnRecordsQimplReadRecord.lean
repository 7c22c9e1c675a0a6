import Derived.Test.YtnecbkognpponaaXFnRecordsQspecl04Near
import Derived.Test.YtnecbkognpponaaXFnRecordsQimplreaderone
import Derived.Test.YtnecbkognpponaaXFnRecordsQimplreadernum
/- A Go function as a Lean function, and its contract: for every input the Go code comes to what the Lean function tells. -/




namespace Go.Proofs.Ytnecbkognpponaa.Q
open Go.RowKit Go.Proofs.YtnecbkognpponaaW.PrintWords Go.Proofs.YtnecbkognpponaaW.PrintLast Go.Proofs.YtnecbkognpponaaW.PrintMore
attribute [local go_sem] max2_int min2_int max_two min_two max_three min_three max_four min_four   -- for this text's walks alone
set_option linter.unusedVariables false
set_option linter.unusedSimpArgs false

/-! ### impl_ReadRecord: function 10 -/
mutual
def impl_ReadRecord.l0 : Nat → ByteArray → Int → ByteArray → Int → Bool → Int → Int → Int → Int → Int → List (S63) → Int → Bool → Option (Int × Int × Int × Int × Int × (List (S63)) × Int × Bool × Bool)
 | 0, _, _, _, _, _, _, _, _, _, _, _, _, _ => none
 | k + 1, x0, x6, x218000, x218001, x218002, x219000, x219001, x219002, x219003, x219004, x219005, x219006, x219007 => if x6 > 0 then (impl_ReadRecord.j1 k x0 x6 (!x218002) x218000 x218001 x218002 x219000 x219001 x219002 x219003 x219004 x219005 x219006 x219007) else (impl_ReadRecord.j1 k x0 x6 false x218000 x218001 x218002 x219000 x219001 x219002 x219003 x219004 x219005 x219006 x219007)
def impl_ReadRecord.j1 : Nat → ByteArray → Int → Bool → ByteArray → Int → Bool → Int → Int → Int → Int → Int → List (S63) → Int → Bool → Option (Int × Int × Int × Int × Int × (List (S63)) × Int × Bool × Bool)
 | 0, _, _, _, _, _, _, _, _, _, _, _, _, _, _ => none
 | k + 1, x0, x6, x37, x218000, x218001, x218002, x219000, x219001, x219002, x219003, x219004, x219005, x219006, x219007 => if x37 = true then ((impl_reader_one.f x218000 x218001 x218002).bind fun bt243 => ((impl_reader_num.f k bt243.2.1 bt243.2.2.1 bt243.2.2.2).bind fun bt247 => (if x219005.length < 8796093022208 then (impl_ReadRecord.l0 k x0 (wrap64 (x6 - 1)) bt247.2.1 bt247.2.2.1 bt247.2.2.2 x219000 x219001 x219002 x219003 x219004 (x219005 ++ [(⟨bt243.1, bt247.1⟩ : S63)]) x219006 x219007) else (none)))) else ((impl_reader_num.f k x218000 x218001 x218002).bind fun bt254 => ((impl_reader_one.f bt254.2.1 bt254.2.2.1 bt254.2.2.2).bind fun bt258 => (if bt258.2.2.2 = true then (some (0, 0, 0, 0, 0, ([] : List (S63)), 0, false, false)) else (if bt258.1 > 1 then (some (0, 0, 0, 0, 0, ([] : List (S63)), 0, false, false)) else (if bt258.2.2.1 = (x0.size : Int) then ((impl_RecordOk.f k x219000 x219001 x219002 x219003 x219004 x219005 bt254.1 (bt258.1 == 1)).bind fun t262 => (if t262 = true then (some (x219000, x219001, x219002, x219003, x219004, x219005, bt254.1, (bt258.1 == 1), true)) else (some (0, 0, 0, 0, 0, ([] : List (S63)), 0, false, false)))) else (some (0, 0, 0, 0, 0, ([] : List (S63)), 0, false, false)))))))
end
def impl_ReadRecord.f (k : Nat) (a0 : ByteArray) : Option (Int × Int × Int × Int × Int × (List (S63)) × Int × Bool × Bool) := (impl_reader_one.f a0 0 false).bind fun bt219 => ((impl_reader_one.f bt219.2.1 bt219.2.2.1 bt219.2.2.2).bind fun bt223 => ((impl_reader_one.f bt223.2.1 bt223.2.2.1 bt223.2.2.2).bind fun bt227 => ((impl_reader_one.f bt227.2.1 bt227.2.2.1 bt227.2.2.2).bind fun bt231 => ((impl_reader_num.f k bt231.2.1 bt231.2.2.1 bt231.2.2.2).bind fun bt235 => ((impl_reader_num.f k bt235.2.1 bt235.2.2.1 bt235.2.2.2).bind fun bt239 => (impl_ReadRecord.l0 k a0 bt239.1 bt239.2.1 bt239.2.2.1 bt239.2.2.2 bt219.1 bt223.1 bt227.1 bt231.1 bt235.1 ([] : List (S63)) 0 false))))))
theorem impl_ReadRecord.mono_l : ∀ k, (∀ y0 y1 y2 y3 y4 y5 y6 y7 y8 y9 y10 y11 y12, LeO (impl_ReadRecord.l0 k y0 y1 y2 y3 y4 y5 y6 y7 y8 y9 y10 y11 y12) (impl_ReadRecord.l0 (k + 1) y0 y1 y2 y3 y4 y5 y6 y7 y8 y9 y10 y11 y12)) ∧ (∀ y0 y1 y2 y3 y4 y5 y6 y7 y8 y9 y10 y11 y12 y13, LeO (impl_ReadRecord.j1 k y0 y1 y2 y3 y4 y5 y6 y7 y8 y9 y10 y11 y12 y13) (impl_ReadRecord.j1 (k + 1) y0 y1 y2 y3 y4 y5 y6 y7 y8 y9 y10 y11 y12 y13))
 | 0 => ⟨fun _ _ _ _ _ _ _ _ _ _ _ _ _ r h => by simp [impl_ReadRecord.l0] at h, fun _ _ _ _ _ _ _ _ _ _ _ _ _ _ r h => by simp [impl_ReadRecord.j1] at h⟩
 | k + 1 => by
  obtain ⟨ih0, ih1⟩ := impl_ReadRecord.mono_l k
  refine ⟨?_, ?_⟩
  ·intro y0 y1 y2 y3 y4 y5 y6 y7 y8 y9 y10 y11 y12
   unfold impl_ReadRecord.l0
   repeat' first
   | (with_reducible exact ih0 _ _ _ _ _ _ _ _ _ _ _ _ _)
   | (with_reducible exact ih1 _ _ _ _ _ _ _ _ _ _ _ _ _ _)
   | (with_reducible exact impl_RecordOk.mono _ _ _ _ _ _ _ _ _)
   | (with_reducible exact impl_reader_num.mono _ _ _ _)
   | (with_reducible exact LeO.refl _)
   | (with_reducible exact LeO.none _)
   | (with_reducible refine LeO.ite ?_ ?_)
   | (with_reducible refine LeO.bind ?_ (fun _ => ?_))
   | exact ih0 _ _ _ _ _ _ _ _ _ _ _ _ _
   | exact ih1 _ _ _ _ _ _ _ _ _ _ _ _ _ _
   | exact impl_RecordOk.mono _ _ _ _ _ _ _ _ _
   | exact impl_reader_num.mono _ _ _ _
   | exact LeO.none _
   | refine LeO.ite ?_ ?_
   | refine LeO.bind ?_ (fun _ => ?_)
  ·intro y0 y1 y2 y3 y4 y5 y6 y7 y8 y9 y10 y11 y12 y13
   unfold impl_ReadRecord.j1
   repeat' first
   | (with_reducible exact ih0 _ _ _ _ _ _ _ _ _ _ _ _ _)
   | (with_reducible exact ih1 _ _ _ _ _ _ _ _ _ _ _ _ _ _)
   | (with_reducible exact impl_RecordOk.mono _ _ _ _ _ _ _ _ _)
   | (with_reducible exact impl_reader_num.mono _ _ _ _)
   | (with_reducible exact LeO.refl _)
   | (with_reducible exact LeO.none _)
   | (with_reducible refine LeO.ite ?_ ?_)
   | (with_reducible refine LeO.bind ?_ (fun _ => ?_))
   | exact ih0 _ _ _ _ _ _ _ _ _ _ _ _ _
   | exact ih1 _ _ _ _ _ _ _ _ _ _ _ _ _ _
   | exact impl_RecordOk.mono _ _ _ _ _ _ _ _ _
   | exact impl_reader_num.mono _ _ _ _
   | exact LeO.none _
   | refine LeO.ite ?_ ?_
   | refine LeO.bind ?_ (fun _ => ?_)
theorem impl_ReadRecord.mono : ∀ a0 k, LeO (impl_ReadRecord.f k a0) (impl_ReadRecord.f (k + 1) a0) := by
 intro a0 k
 obtain ⟨ih0, ih1⟩ := impl_ReadRecord.mono_l k
 unfold impl_ReadRecord.f
 repeat' first
   | (with_reducible exact ih0 _ _ _ _ _ _ _ _ _ _ _ _ _)
   | (with_reducible exact ih1 _ _ _ _ _ _ _ _ _ _ _ _ _ _)
   | (with_reducible exact impl_RecordOk.mono _ _ _ _ _ _ _ _ _)
   | (with_reducible exact impl_reader_num.mono _ _ _ _)
   | (with_reducible exact LeO.refl _)
   | (with_reducible exact LeO.none _)
   | (with_reducible refine LeO.ite ?_ ?_)
   | (with_reducible refine LeO.bind ?_ (fun _ => ?_))
   | exact ih0 _ _ _ _ _ _ _ _ _ _ _ _ _
   | exact ih1 _ _ _ _ _ _ _ _ _ _ _ _ _ _
   | exact impl_RecordOk.mono _ _ _ _ _ _ _ _ _
   | exact impl_reader_num.mono _ _ _ _
   | exact LeO.none _
   | refine LeO.ite ?_ ?_
   | refine LeO.bind ?_ (fun _ => ?_)
def impl_ReadRecord.T12 : Bool × List (List Nat × List Nat) := (true, [([], []), ([0], [0]), ([], []), ([], []), ([3], [3]), ([2, 4], [2, 4]), ([5], [5]), ([1, 6, 4], [1, 6]), ([0, 1, 2, 3, 4, 5, 6, 7], []), ([8, 7, 7, 0, 1, 2, 3, 4, 5, 6, 7], [7, 8])])
def impl_ReadRecord.B12 : List Nat := [0, 1, 0, 0, 8, 28, 60, 127, 255, 511]
theorem impl_ReadRecord.tab12 : rtab .any (opsOf Try.f10 12) = impl_ReadRecord.T12 := by kernel_rfl
theorem impl_ReadRecord.bits12 : waitsOk impl_ReadRecord.T12.2 impl_ReadRecord.B12 = true := by kernel_rfl
set_option maxHeartbeats 8000000 in
set_option maxRecDepth 100000 in
theorem impl_ReadRecord.calls (k : Nat) (a0 : ByteArray) (r1 : Int) (r2 : Int) (r3 : Int) (r4 : Int) (r5 : Int) (r6 : List (S63)) (r7 : Int) (r8 : Bool) (r9 : Bool) (w : World) (h : impl_ReadRecord.f k a0 = some (r1, r2, r3, r4, r5, r6, r7, r8, r9)) :
  Calls Try.prog 10 #[.string a0] w fun e w' => ∃ v5_ : Value, e = .returned (.tuple #[.agg #[.int .i64 r1, .int .i64 r2, .int .i64 r3, .int .i64 r4, .int .i64 r5, v5_, .int .i64 r7, .bool r8], .bool r9]) ∧ Kd.R k63 63 w' w.heap.size (fun _ => True) v5_ r6 ∧ Below w.heap.size w w' := by
 have hu24 := Try.underlying24
 have hu66 := Try.underlying66
 have hu63 := Try.underlying63
 have HB := Aside0.mk (Below.refl w.heap.size w)
 have H : ((impl_reader_one.f a0 0 false).bind fun bt219 => ((impl_reader_one.f bt219.2.1 bt219.2.2.1 bt219.2.2.2).bind fun bt223 => ((impl_reader_one.f bt223.2.1 bt223.2.2.1 bt223.2.2.2).bind fun bt227 => ((impl_reader_one.f bt227.2.1 bt227.2.2.1 bt227.2.2.2).bind fun bt231 => ((impl_reader_num.f k bt231.2.1 bt231.2.2.1 bt231.2.2.2).bind fun bt235 => ((impl_reader_num.f k bt235.2.1 bt235.2.2.1 bt235.2.2.2).bind fun bt239 => (impl_ReadRecord.l0 k a0 bt239.1 bt239.2.1 bt239.2.2.1 bt239.2.2.2 bt219.1 bt223.1 bt227.1 bt231.1 bt235.1 ([] : List (S63)) 0 false))))))) = some (r1, r2, r3, r4, r5, r6, r7, r8, r9) := h
 clear h
 replace H := Option.bind_eq_some_iff.mp H
 obtain ⟨⟨t219, t220, t221, t222⟩, A20, H⟩ := H
 replace H : ((impl_reader_one.f t220 t221 t222).bind fun bt223 => ((impl_reader_one.f bt223.2.1 bt223.2.2.1 bt223.2.2.2).bind fun bt227 => ((impl_reader_one.f bt227.2.1 bt227.2.2.1 bt227.2.2.2).bind fun bt231 => ((impl_reader_num.f k bt231.2.1 bt231.2.2.1 bt231.2.2.2).bind fun bt235 => ((impl_reader_num.f k bt235.2.1 bt235.2.2.1 bt235.2.2.2).bind fun bt239 => (impl_ReadRecord.l0 k a0 bt239.1 bt239.2.1 bt239.2.2.1 bt239.2.2.2 t219 bt223.1 bt227.1 bt231.1 bt235.1 ([] : List (S63)) 0 false)))))) = some (r1, r2, r3, r4, r5, r6, r7, r8, r9) := H
 have A2 := Aside0.mk A20
 clear A20
 replace H := Option.bind_eq_some_iff.mp H
 obtain ⟨⟨t223, t224, t225, t226⟩, A30, H⟩ := H
 replace H : ((impl_reader_one.f t224 t225 t226).bind fun bt227 => ((impl_reader_one.f bt227.2.1 bt227.2.2.1 bt227.2.2.2).bind fun bt231 => ((impl_reader_num.f k bt231.2.1 bt231.2.2.1 bt231.2.2.2).bind fun bt235 => ((impl_reader_num.f k bt235.2.1 bt235.2.2.1 bt235.2.2.2).bind fun bt239 => (impl_ReadRecord.l0 k a0 bt239.1 bt239.2.1 bt239.2.2.1 bt239.2.2.2 t219 t223 bt227.1 bt231.1 bt235.1 ([] : List (S63)) 0 false))))) = some (r1, r2, r3, r4, r5, r6, r7, r8, r9) := H
 have A3 := Aside0.mk A30
 clear A30
 replace H := Option.bind_eq_some_iff.mp H
 obtain ⟨⟨t227, t228, t229, t230⟩, A40, H⟩ := H
 replace H : ((impl_reader_one.f t228 t229 t230).bind fun bt231 => ((impl_reader_num.f k bt231.2.1 bt231.2.2.1 bt231.2.2.2).bind fun bt235 => ((impl_reader_num.f k bt235.2.1 bt235.2.2.1 bt235.2.2.2).bind fun bt239 => (impl_ReadRecord.l0 k a0 bt239.1 bt239.2.1 bt239.2.2.1 bt239.2.2.2 t219 t223 t227 bt231.1 bt235.1 ([] : List (S63)) 0 false)))) = some (r1, r2, r3, r4, r5, r6, r7, r8, r9) := H
 have A4 := Aside0.mk A40
 clear A40
 replace H := Option.bind_eq_some_iff.mp H
 obtain ⟨⟨t231, t232, t233, t234⟩, A50, H⟩ := H
 replace H : ((impl_reader_num.f k t232 t233 t234).bind fun bt235 => ((impl_reader_num.f k bt235.2.1 bt235.2.2.1 bt235.2.2.2).bind fun bt239 => (impl_ReadRecord.l0 k a0 bt239.1 bt239.2.1 bt239.2.2.1 bt239.2.2.2 t219 t223 t227 t231 bt235.1 ([] : List (S63)) 0 false))) = some (r1, r2, r3, r4, r5, r6, r7, r8, r9) := H
 have A5 := Aside0.mk A50
 clear A50
 replace H := Option.bind_eq_some_iff.mp H
 obtain ⟨⟨t235, t236, t237, t238⟩, A60, H⟩ := H
 replace H : ((impl_reader_num.f k t236 t237 t238).bind fun bt239 => (impl_ReadRecord.l0 k a0 bt239.1 bt239.2.1 bt239.2.2.1 bt239.2.2.2 t219 t223 t227 t231 t235 ([] : List (S63)) 0 false)) = some (r1, r2, r3, r4, r5, r6, r7, r8, r9) := H
 have A6 := Aside0.mk A60
 clear A60
 replace H := Option.bind_eq_some_iff.mp H
 obtain ⟨⟨t239, t240, t241, t242⟩, A70, H⟩ := H
 replace H : (impl_ReadRecord.l0 k a0 t239 t240 t241 t242 t219 t223 t227 t231 t235 ([] : List (S63)) 0 false) = some (r1, r2, r3, r4, r5, r6, r7, r8, r9) := H
 have A7 := Aside0.mk A70
 clear A70
 have H' := Aside0.mk H
 clear H
 go_enter Try.func10, Try.ntmps10
 go_wp2_with (first | ((with_reducible refine gate_dst (N := 2) rfl ?_); (try (refine gate_guard (by rfl) ?_; dsimp only)); refine box_q 2 #[.int .i64 0, .int .i64 0, .int .i64 0, .int .i64 0, .int .i64 0, .slice none 0 0, .int .i64 0, .bool false] 24 ?_; intro gb216 hg w8 hbox hb; have BK216 := Aside0.mk (hbox); have GW216 := Aside0.mk ((by rw [hg]; exact (below_size (bw_q HB)) : w.heap.size ≤ gb216)); have GE216 := Aside0.mk ((by rw [hg]; exact (below_size (bw_q HB)) : w.heap.size ≤ gb216)); replace HB := Aside0.mk (below_step (bw_q HB) hb); clear hb hbox hg) | ((with_reducible refine gate_dst (N := 11) rfl ?_); (try (refine gate_guard (by rfl) ?_; dsimp only)); refine box_q 11 #[.string a0, .int .i64 0, .bool false] 66 ?_; intro gb217 hg w9 hbox hb; have BK217 := Aside0.mk (hbox); have GW217 := Aside0.mk ((by rw [hg]; exact (below_size (bw_q HB)) : w.heap.size ≤ gb217)); have GE217 := Aside0.mk ((by rw [hg]; exact (below_size (bw_q HB)) : w.heap.size ≤ gb217)); replace HB := Aside0.mk (below_step (bw_q HB) hb); have NB216_217 := Aside0.mk ((by rw [hg]; exact Nat.ne_of_lt (blk_lt (g := gb216) (o := .cells #[.int .i64 0, .int .i64 0, .int .i64 0, .int .i64 0, .int .i64 0, .slice none 0 0, .int .i64 0, .bool false] 24 (0, 0)) (bk_q BK216)) : gb216 ≠ gb217)); have NB217_216 := Aside0.mk ((by rw [hg]; exact Nat.ne_of_gt (blk_lt (g := gb216) (o := .cells #[.int .i64 0, .int .i64 0, .int .i64 0, .int .i64 0, .int .i64 0, .slice none 0 0, .int .i64 0, .bool false] 24 (0, 0)) (bk_q BK216)) : gb217 ≠ gb216)); replace BK216 := Aside0.mk (blk_below (g := gb216) (bk_q BK216) hb); clear hb hbox hg) | ((with_reducible refine gate_dst (N := 5) rfl ?_); (try (refine gate_guard (by rfl) ?_; dsimp only)); refine box_q 5 #[.int .i64 0, .int .i64 0, .int .i64 0, .int .i64 0, .int .i64 0, .slice none 0 0, .int .i64 0, .bool false] 24 ?_; intro gb218 hg w10 hbox hb; have BK218 := Aside0.mk (hbox); have GW218 := Aside0.mk ((by rw [hg]; exact (below_size (bw_q HB)) : w.heap.size ≤ gb218)); have GE218 := Aside0.mk ((by rw [hg]; exact (below_size (bw_q HB)) : w.heap.size ≤ gb218)); replace HB := Aside0.mk (below_step (bw_q HB) hb); have NB216_218 := Aside0.mk ((by rw [hg]; exact Nat.ne_of_lt (blk_lt (g := gb216) (o := .cells #[.int .i64 0, .int .i64 0, .int .i64 0, .int .i64 0, .int .i64 0, .slice none 0 0, .int .i64 0, .bool false] 24 (0, 0)) (bk_q BK216)) : gb216 ≠ gb218)); have NB218_216 := Aside0.mk ((by rw [hg]; exact Nat.ne_of_gt (blk_lt (g := gb216) (o := .cells #[.int .i64 0, .int .i64 0, .int .i64 0, .int .i64 0, .int .i64 0, .slice none 0 0, .int .i64 0, .bool false] 24 (0, 0)) (bk_q BK216)) : gb218 ≠ gb216)); replace BK216 := Aside0.mk (blk_below (g := gb216) (bk_q BK216) hb); have NB217_218 := Aside0.mk ((by rw [hg]; exact Nat.ne_of_lt (blk_lt (g := gb217) (o := .cells #[.string a0, .int .i64 0, .bool false] 66 (0, 0)) (bk_q BK217)) : gb217 ≠ gb218)); have NB218_217 := Aside0.mk ((by rw [hg]; exact Nat.ne_of_gt (blk_lt (g := gb217) (o := .cells #[.string a0, .int .i64 0, .bool false] 66 (0, 0)) (bk_q BK217)) : gb218 ≠ gb217)); replace BK217 := Aside0.mk (blk_below (g := gb217) (bk_q BK217) hb); clear hb hbox hg) | ((with_reducible refine gate_callee (f := 41) rfl ?_); refine goesL_ (some 13) rfl rfl Try.func41 (by kernel_rfl) rfl #[.pointer (some ⟨gb217, 0, none⟩)] rfl mp_q ?_; (with_reducible refine (impl_reader_one.calls gb217 a0 0 false t219 t220 t221 t222 w _ ?side1 ?side2 A2.out).mono ?_); (case side1 => exact ⟨(bk_q BK217), GE217.out⟩); (case side2 => repeat (first | (with_reducible first | exact HB.out | apply below_alloc | apply pw_below_drewN | apply below_drew1 | refine below_set ?_ (IsS66.ge HI217.out) | refine below_set ?_ GE216.out | refine below_set ?_ GE218.out) | exact HB.out)); rintro e w11 ⟨rfl, hi, hb, hk⟩; refine ⟨_, rfl, ?_⟩; replace BK216 := Aside0.mk (KeepBut.blk hk (g' := gb216) (o := .cells #[.int .i64 0, .int .i64 0, .int .i64 0, .int .i64 0, .int .i64 0, .slice none 0 0, .int .i64 0, .bool false] 24 (0, 0)) (bk_q BK216) NB216_217.out (by simp)); replace BK218 := Aside0.mk (KeepBut.blk hk (g' := gb218) (o := .cells #[.int .i64 0, .int .i64 0, .int .i64 0, .int .i64 0, .int .i64 0, .slice none 0 0, .int .i64 0, .bool false] 24 (0, 0)) (bk_q BK218) NB218_217.out (by simp)); replace HB := Aside0.mk (hb); have HI217 := Aside0.mk (hi); (try clear hb); (try clear hb2); (try clear hk); (try clear hi); have hnb12 := NB218_216.out; have hnc12 := NB216_218.out; have hnb13 := NB218_217.out; have hnc13 := NB217_218.out; have hcz14_0 : w11.cell? ⟨gb218, 0, none⟩ = some (.int .i64 0) := (blk_cell BK218.out 0).trans rfl; have hcz14_1 : w11.cell? ⟨gb218, 1, none⟩ = some (.int .i64 0) := (blk_cell BK218.out 1).trans rfl; have hcz14_2 : w11.cell? ⟨gb218, 2, none⟩ = some (.int .i64 0) := (blk_cell BK218.out 2).trans rfl; have hcz14_3 : w11.cell? ⟨gb218, 3, none⟩ = some (.int .i64 0) := (blk_cell BK218.out 3).trans rfl; have hcz14_4 : w11.cell? ⟨gb218, 4, none⟩ = some (.int .i64 0) := (blk_cell BK218.out 4).trans rfl; have hcz14_5 : w11.cell? ⟨gb218, 5, none⟩ = some (.slice none 0 0) := (blk_cell BK218.out 5).trans rfl; have hcz14_6 : w11.cell? ⟨gb218, 6, none⟩ = some (.int .i64 0) := (blk_cell BK218.out 6).trans rfl; have hcz14_7 : w11.cell? ⟨gb218, 7, none⟩ = some (.bool false) := (blk_cell BK218.out 7).trans rfl; have hfz14_0 := blk_frozen BK218.out 0; have hfz14_1 := blk_frozen BK218.out 1; have hfz14_2 := blk_frozen BK218.out 2; have hfz14_3 := blk_frozen BK218.out 3; have hfz14_4 := blk_frozen BK218.out 4; have hfz14_5 := blk_frozen BK218.out 5; have hfz14_6 := blk_frozen BK218.out 6; have hfz14_7 := blk_frozen BK218.out 7) | ((with_reducible refine gate_callee (f := 41) rfl ?_); refine goesL_ (some 16) rfl rfl Try.func41 (by kernel_rfl) rfl #[.pointer (some ⟨gb217, 0, none⟩)] rfl mp_q ?_; (with_reducible refine (impl_reader_one.calls gb217 t220 t221 t222 t223 t224 t225 t226 w _ ?side1 ?side2 A3.out).mono ?_); (case side1 => repeat (first | (with_reducible first | exact HI217.out | apply IsS66.alloc | apply IsS66.drewN | apply IsS66.drew | apply IsS66.set_0 | apply IsS66.set_1 | apply IsS66.set_2 | refine IsS66.far ?_ NB217_216.out _ | refine IsS66.far ?_ NB217_218.out _) | exact HI217.out)); (case side2 => repeat (first | (with_reducible first | exact HB.out | apply below_alloc | apply pw_below_drewN | apply below_drew1 | refine below_set ?_ (IsS66.ge HI217.out) | refine below_set ?_ GE216.out | refine below_set ?_ GE218.out) | exact HB.out)); rintro e w15 ⟨rfl, hi, hb, hk⟩; refine ⟨_, rfl, ?_⟩; replace BK216 := Aside0.mk (KeepBut.blk hk (g' := gb216) (o := .cells #[.int .i64 0, .int .i64 0, .int .i64 0, .int .i64 0, .int .i64 0, .slice none 0 0, .int .i64 0, .bool false] 24 (0, 0)) (by refine bz_ ?_; refine blk_far ?_ NB216_218.out _; refine bz_ ?_; exact BK216.out) NB216_217.out (by simp)); replace BK218 := Aside0.mk (KeepBut.blk hk (g' := gb218) (o := .cells #[.int .i64 t219, .int .i64 0, .int .i64 0, .int .i64 0, .int .i64 0, .slice none 0 0, .int .i64 0, .bool false] 24 (0, 0)) (by refine bz_ ?_; refine blk_put (cs := #[.int .i64 0, .int .i64 0, .int .i64 0, .int .i64 0, .int .i64 0, .slice none 0 0, .int .i64 0, .bool false]) ?_ 0 _ rfl; refine bz_ ?_; exact BK218.out) NB218_217.out (by simp)); replace HB := Aside0.mk (hb); replace HI217 := Aside0.mk (hi); (try clear hb); (try clear hb2); (try clear hk); (try clear hi); have hcz16_0 : w15.cell? ⟨gb218, 0, none⟩ = some (.int .i64 t219) := (blk_cell BK218.out 0).trans rfl; have hcz16_1 : w15.cell? ⟨gb218, 1, none⟩ = some (.int .i64 0) := (blk_cell BK218.out 1).trans rfl; have hcz16_2 : w15.cell? ⟨gb218, 2, none⟩ = some (.int .i64 0) := (blk_cell BK218.out 2).trans rfl; have hcz16_3 : w15.cell? ⟨gb218, 3, none⟩ = some (.int .i64 0) := (blk_cell BK218.out 3).trans rfl; have hcz16_4 : w15.cell? ⟨gb218, 4, none⟩ = some (.int .i64 0) := (blk_cell BK218.out 4).trans rfl; have hcz16_5 : w15.cell? ⟨gb218, 5, none⟩ = some (.slice none 0 0) := (blk_cell BK218.out 5).trans rfl; have hcz16_6 : w15.cell? ⟨gb218, 6, none⟩ = some (.int .i64 0) := (blk_cell BK218.out 6).trans rfl; have hcz16_7 : w15.cell? ⟨gb218, 7, none⟩ = some (.bool false) := (blk_cell BK218.out 7).trans rfl; have hfz16_0 := blk_frozen BK218.out 0; have hfz16_1 := blk_frozen BK218.out 1; have hfz16_2 := blk_frozen BK218.out 2; have hfz16_3 := blk_frozen BK218.out 3; have hfz16_4 := blk_frozen BK218.out 4; have hfz16_5 := blk_frozen BK218.out 5; have hfz16_6 := blk_frozen BK218.out 6; have hfz16_7 := blk_frozen BK218.out 7) | ((with_reducible refine gate_callee (f := 41) rfl ?_); refine goesL_ (some 19) rfl rfl Try.func41 (by kernel_rfl) rfl #[.pointer (some ⟨gb217, 0, none⟩)] rfl mp_q ?_; (with_reducible refine (impl_reader_one.calls gb217 t224 t225 t226 t227 t228 t229 t230 w _ ?side1 ?side2 A4.out).mono ?_); (case side1 => repeat (first | (with_reducible first | exact HI217.out | apply IsS66.alloc | apply IsS66.drewN | apply IsS66.drew | apply IsS66.set_0 | apply IsS66.set_1 | apply IsS66.set_2 | refine IsS66.far ?_ NB217_216.out _ | refine IsS66.far ?_ NB217_218.out _) | exact HI217.out)); (case side2 => repeat (first | (with_reducible first | exact HB.out | apply below_alloc | apply pw_below_drewN | apply below_drew1 | refine below_set ?_ (IsS66.ge HI217.out) | refine below_set ?_ GE216.out | refine below_set ?_ GE218.out) | exact HB.out)); rintro e w17 ⟨rfl, hi, hb, hk⟩; refine ⟨_, rfl, ?_⟩; replace BK216 := Aside0.mk (KeepBut.blk hk (g' := gb216) (o := .cells #[.int .i64 0, .int .i64 0, .int .i64 0, .int .i64 0, .int .i64 0, .slice none 0 0, .int .i64 0, .bool false] 24 (0, 0)) (by refine bz_ ?_; refine blk_far ?_ NB216_218.out _; refine bz_ ?_; exact BK216.out) NB216_217.out (by simp)); replace BK218 := Aside0.mk (KeepBut.blk hk (g' := gb218) (o := .cells #[.int .i64 t219, .int .i64 t223, .int .i64 0, .int .i64 0, .int .i64 0, .slice none 0 0, .int .i64 0, .bool false] 24 (0, 0)) (by refine bz_ ?_; refine blk_put (cs := #[.int .i64 t219, .int .i64 0, .int .i64 0, .int .i64 0, .int .i64 0, .slice none 0 0, .int .i64 0, .bool false]) ?_ 1 _ rfl; refine bz_ ?_; exact BK218.out) NB218_217.out (by simp)); replace HB := Aside0.mk (hb); replace HI217 := Aside0.mk (hi); (try clear hb); (try clear hb2); (try clear hk); (try clear hi); have hcz18_0 : w17.cell? ⟨gb218, 0, none⟩ = some (.int .i64 t219) := (blk_cell BK218.out 0).trans rfl; have hcz18_1 : w17.cell? ⟨gb218, 1, none⟩ = some (.int .i64 t223) := (blk_cell BK218.out 1).trans rfl; have hcz18_2 : w17.cell? ⟨gb218, 2, none⟩ = some (.int .i64 0) := (blk_cell BK218.out 2).trans rfl; have hcz18_3 : w17.cell? ⟨gb218, 3, none⟩ = some (.int .i64 0) := (blk_cell BK218.out 3).trans rfl; have hcz18_4 : w17.cell? ⟨gb218, 4, none⟩ = some (.int .i64 0) := (blk_cell BK218.out 4).trans rfl; have hcz18_5 : w17.cell? ⟨gb218, 5, none⟩ = some (.slice none 0 0) := (blk_cell BK218.out 5).trans rfl; have hcz18_6 : w17.cell? ⟨gb218, 6, none⟩ = some (.int .i64 0) := (blk_cell BK218.out 6).trans rfl; have hcz18_7 : w17.cell? ⟨gb218, 7, none⟩ = some (.bool false) := (blk_cell BK218.out 7).trans rfl; have hfz18_0 := blk_frozen BK218.out 0; have hfz18_1 := blk_frozen BK218.out 1; have hfz18_2 := blk_frozen BK218.out 2; have hfz18_3 := blk_frozen BK218.out 3; have hfz18_4 := blk_frozen BK218.out 4; have hfz18_5 := blk_frozen BK218.out 5; have hfz18_6 := blk_frozen BK218.out 6; have hfz18_7 := blk_frozen BK218.out 7) | ((with_reducible refine gate_callee (f := 41) rfl ?_); refine goesL_ (some 22) rfl rfl Try.func41 (by kernel_rfl) rfl #[.pointer (some ⟨gb217, 0, none⟩)] rfl mp_q ?_; (with_reducible refine (impl_reader_one.calls gb217 t228 t229 t230 t231 t232 t233 t234 w _ ?side1 ?side2 A5.out).mono ?_); (case side1 => repeat (first | (with_reducible first | exact HI217.out | apply IsS66.alloc | apply IsS66.drewN | apply IsS66.drew | apply IsS66.set_0 | apply IsS66.set_1 | apply IsS66.set_2 | refine IsS66.far ?_ NB217_216.out _ | refine IsS66.far ?_ NB217_218.out _) | exact HI217.out)); (case side2 => repeat (first | (with_reducible first | exact HB.out | apply below_alloc | apply pw_below_drewN | apply below_drew1 | refine below_set ?_ (IsS66.ge HI217.out) | refine below_set ?_ GE216.out | refine below_set ?_ GE218.out) | exact HB.out)); rintro e w19 ⟨rfl, hi, hb, hk⟩; refine ⟨_, rfl, ?_⟩; replace BK216 := Aside0.mk (KeepBut.blk hk (g' := gb216) (o := .cells #[.int .i64 0, .int .i64 0, .int .i64 0, .int .i64 0, .int .i64 0, .slice none 0 0, .int .i64 0, .bool false] 24 (0, 0)) (by refine bz_ ?_; refine blk_far ?_ NB216_218.out _; refine bz_ ?_; exact BK216.out) NB216_217.out (by simp)); replace BK218 := Aside0.mk (KeepBut.blk hk (g' := gb218) (o := .cells #[.int .i64 t219, .int .i64 t223, .int .i64 t227, .int .i64 0, .int .i64 0, .slice none 0 0, .int .i64 0, .bool false] 24 (0, 0)) (by refine bz_ ?_; refine blk_put (cs := #[.int .i64 t219, .int .i64 t223, .int .i64 0, .int .i64 0, .int .i64 0, .slice none 0 0, .int .i64 0, .bool false]) ?_ 2 _ rfl; refine bz_ ?_; exact BK218.out) NB218_217.out (by simp)); replace HB := Aside0.mk (hb); replace HI217 := Aside0.mk (hi); (try clear hb); (try clear hb2); (try clear hk); (try clear hi); have hcz20_0 : w19.cell? ⟨gb218, 0, none⟩ = some (.int .i64 t219) := (blk_cell BK218.out 0).trans rfl; have hcz20_1 : w19.cell? ⟨gb218, 1, none⟩ = some (.int .i64 t223) := (blk_cell BK218.out 1).trans rfl; have hcz20_2 : w19.cell? ⟨gb218, 2, none⟩ = some (.int .i64 t227) := (blk_cell BK218.out 2).trans rfl; have hcz20_3 : w19.cell? ⟨gb218, 3, none⟩ = some (.int .i64 0) := (blk_cell BK218.out 3).trans rfl; have hcz20_4 : w19.cell? ⟨gb218, 4, none⟩ = some (.int .i64 0) := (blk_cell BK218.out 4).trans rfl; have hcz20_5 : w19.cell? ⟨gb218, 5, none⟩ = some (.slice none 0 0) := (blk_cell BK218.out 5).trans rfl; have hcz20_6 : w19.cell? ⟨gb218, 6, none⟩ = some (.int .i64 0) := (blk_cell BK218.out 6).trans rfl; have hcz20_7 : w19.cell? ⟨gb218, 7, none⟩ = some (.bool false) := (blk_cell BK218.out 7).trans rfl; have hfz20_0 := blk_frozen BK218.out 0; have hfz20_1 := blk_frozen BK218.out 1; have hfz20_2 := blk_frozen BK218.out 2; have hfz20_3 := blk_frozen BK218.out 3; have hfz20_4 := blk_frozen BK218.out 4; have hfz20_5 := blk_frozen BK218.out 5; have hfz20_6 := blk_frozen BK218.out 6; have hfz20_7 := blk_frozen BK218.out 7) | ((with_reducible refine gate_callee (f := 42) rfl ?_); refine goesL_ (some 25) rfl rfl Try.func42 (by kernel_rfl) rfl #[.pointer (some ⟨gb217, 0, none⟩)] rfl mp_q ?_; (with_reducible refine (impl_reader_num.calls k gb217 t232 t233 t234 t235 t236 t237 t238 w _ ?side1 ?side2 A6.out).mono ?_); (case side1 => repeat (first | (with_reducible first | exact HI217.out | apply IsS66.alloc | apply IsS66.drewN | apply IsS66.drew | apply IsS66.set_0 | apply IsS66.set_1 | apply IsS66.set_2 | refine IsS66.far ?_ NB217_216.out _ | refine IsS66.far ?_ NB217_218.out _) | exact HI217.out)); (case side2 => repeat (first | (with_reducible first | exact HB.out | apply below_alloc | apply pw_below_drewN | apply below_drew1 | refine below_set ?_ (IsS66.ge HI217.out) | refine below_set ?_ GE216.out | refine below_set ?_ GE218.out) | exact HB.out)); rintro e w21 ⟨rfl, hi, hb, hk⟩; refine ⟨_, rfl, ?_⟩; replace BK216 := Aside0.mk (KeepBut.blk hk (g' := gb216) (o := .cells #[.int .i64 0, .int .i64 0, .int .i64 0, .int .i64 0, .int .i64 0, .slice none 0 0, .int .i64 0, .bool false] 24 (0, 0)) (by refine bz_ ?_; refine blk_far ?_ NB216_218.out _; refine bz_ ?_; exact BK216.out) NB216_217.out (by simp)); replace BK218 := Aside0.mk (KeepBut.blk hk (g' := gb218) (o := .cells #[.int .i64 t219, .int .i64 t223, .int .i64 t227, .int .i64 t231, .int .i64 0, .slice none 0 0, .int .i64 0, .bool false] 24 (0, 0)) (by refine bz_ ?_; refine blk_put (cs := #[.int .i64 t219, .int .i64 t223, .int .i64 t227, .int .i64 0, .int .i64 0, .slice none 0 0, .int .i64 0, .bool false]) ?_ 3 _ rfl; refine bz_ ?_; exact BK218.out) NB218_217.out (by simp)); replace HB := Aside0.mk (hb); replace HI217 := Aside0.mk (hi); (try clear hb); (try clear hb2); (try clear hk); (try clear hi); have hcz22_0 : w21.cell? ⟨gb218, 0, none⟩ = some (.int .i64 t219) := (blk_cell BK218.out 0).trans rfl; have hcz22_1 : w21.cell? ⟨gb218, 1, none⟩ = some (.int .i64 t223) := (blk_cell BK218.out 1).trans rfl; have hcz22_2 : w21.cell? ⟨gb218, 2, none⟩ = some (.int .i64 t227) := (blk_cell BK218.out 2).trans rfl; have hcz22_3 : w21.cell? ⟨gb218, 3, none⟩ = some (.int .i64 t231) := (blk_cell BK218.out 3).trans rfl; have hcz22_4 : w21.cell? ⟨gb218, 4, none⟩ = some (.int .i64 0) := (blk_cell BK218.out 4).trans rfl; have hcz22_5 : w21.cell? ⟨gb218, 5, none⟩ = some (.slice none 0 0) := (blk_cell BK218.out 5).trans rfl; have hcz22_6 : w21.cell? ⟨gb218, 6, none⟩ = some (.int .i64 0) := (blk_cell BK218.out 6).trans rfl; have hcz22_7 : w21.cell? ⟨gb218, 7, none⟩ = some (.bool false) := (blk_cell BK218.out 7).trans rfl; have hfz22_0 := blk_frozen BK218.out 0; have hfz22_1 := blk_frozen BK218.out 1; have hfz22_2 := blk_frozen BK218.out 2; have hfz22_3 := blk_frozen BK218.out 3; have hfz22_4 := blk_frozen BK218.out 4; have hfz22_5 := blk_frozen BK218.out 5; have hfz22_6 := blk_frozen BK218.out 6; have hfz22_7 := blk_frozen BK218.out 7) | ((with_reducible refine gate_callee (f := 42) rfl ?_); refine goesL_ (some 28) rfl rfl Try.func42 (by kernel_rfl) rfl #[.pointer (some ⟨gb217, 0, none⟩)] rfl mp_q ?_; (with_reducible refine (impl_reader_num.calls k gb217 t236 t237 t238 t239 t240 t241 t242 w _ ?side1 ?side2 A7.out).mono ?_); (case side1 => repeat (first | (with_reducible first | exact HI217.out | apply IsS66.alloc | apply IsS66.drewN | apply IsS66.drew | apply IsS66.set_0 | apply IsS66.set_1 | apply IsS66.set_2 | refine IsS66.far ?_ NB217_216.out _ | refine IsS66.far ?_ NB217_218.out _) | exact HI217.out)); (case side2 => repeat (first | (with_reducible first | exact HB.out | apply below_alloc | apply pw_below_drewN | apply below_drew1 | refine below_set ?_ (IsS66.ge HI217.out) | refine below_set ?_ GE216.out | refine below_set ?_ GE218.out) | exact HB.out)); rintro e w23 ⟨rfl, hi, hb, hk⟩; refine ⟨_, rfl, ?_⟩; replace BK216 := Aside0.mk (KeepBut.blk hk (g' := gb216) (o := .cells #[.int .i64 0, .int .i64 0, .int .i64 0, .int .i64 0, .int .i64 0, .slice none 0 0, .int .i64 0, .bool false] 24 (0, 0)) (by refine bz_ ?_; refine blk_far ?_ NB216_218.out _; refine bz_ ?_; exact BK216.out) NB216_217.out (by simp)); replace BK218 := Aside0.mk (KeepBut.blk hk (g' := gb218) (o := .cells #[.int .i64 t219, .int .i64 t223, .int .i64 t227, .int .i64 t231, .int .i64 t235, .slice none 0 0, .int .i64 0, .bool false] 24 (0, 0)) (by refine bz_ ?_; refine blk_put (cs := #[.int .i64 t219, .int .i64 t223, .int .i64 t227, .int .i64 t231, .int .i64 0, .slice none 0 0, .int .i64 0, .bool false]) ?_ 4 _ rfl; refine bz_ ?_; exact BK218.out) NB218_217.out (by simp)); replace HB := Aside0.mk (hb); replace HI217 := Aside0.mk (hi); (try clear hb); (try clear hb2); (try clear hk); (try clear hi)))
 go_loopg [6] k (fun kq v6 w' => ∃ (x6_1 : Int) (x218000_1 : ByteArray) (x218001_1 : Int) (x218002_1 : Bool) (x219005_1 : List (S63)) (u219005 : Value), v6 = .int .i64 x6_1 ∧ Aside0 (impl_ReadRecord.l0 kq a0 x6_1 x218000_1 x218001_1 x218002_1 t219 t223 t227 t231 t235 x219005_1 0 false = some (r1, r2, r3, r4, r5, r6, r7, r8, r9)) ∧ Aside0 (kq ≤ k) ∧ Aside0 (Kd.R k63 63 w' w.heap.size (fun _ => True) u219005 x219005_1) ∧ Aside0 (w'.heap[gb216]? = some (.cells #[.int .i64 0, .int .i64 0, .int .i64 0, .int .i64 0, .int .i64 0, (.slice none 0 0), .int .i64 0, .bool false] 24 (0, 0))) ∧ Aside0 (w'.heap[gb218]? = some (.cells #[.int .i64 t219, .int .i64 t223, .int .i64 t227, .int .i64 t231, .int .i64 t235, u219005, .int .i64 0, .bool false] 24 (0, 0))) ∧ Aside0 (IsS66 w w' gb217 x218000_1 x218001_1 x218002_1) ∧ Aside0 (Below w.heap.size w w'))
 case atStart => exact ⟨(t239), (t240), (t241), (t242), (([] : List (S63))), (.slice none 0 0), (by first | rfl | (simp; done) | (simp [*]; done)), H', ⟨Nat.le_refl _⟩, ⟨by first | exact Kd.R_nil _ _ _ _ _ | exact Kd.N_nil _ _ _ _ _ | exact Kd.V_nil _ _ _ _ _ | exact Kd.Q_nil _ _ _ _ _ | exact Kd.S_nil _ _ _ _ _⟩, ⟨by refine bz_ ?_; exact BK216.out⟩, ⟨by refine bz_ ?_; exact BK218.out⟩, ⟨by repeat (first | (with_reducible first | exact HI217.out | apply IsS66.alloc | apply IsS66.drewN | apply IsS66.drew | apply IsS66.set_0 | apply IsS66.set_1 | apply IsS66.set_2 | refine IsS66.far ?_ NB217_216.out _ | refine IsS66.far ?_ NB217_218.out _) | exact HI217.out)⟩, ⟨by repeat (first | (with_reducible first | exact HB.out | apply below_alloc | apply pw_below_drewN | apply below_drew1 | refine below_set ?_ (IsS66.ge HI217.out) | refine below_set ?_ GE216.out | refine below_set ?_ GE218.out) | exact HB.out)⟩⟩
 case round =>
  clear H'
  try clear c1
  try clear p2
  try clear c4
  try clear c10
  try clear c12
  try clear c13
  try clear hcz14_0
  try clear hcz14_1
  try clear hcz14_2
  try clear hcz14_3
  try clear hcz14_4
  try clear hcz14_5
  try clear hcz14_6
  try clear hcz14_7
  try clear hcz16_0
  try clear hcz16_1
  try clear hcz16_2
  try clear hcz16_3
  try clear hcz16_4
  try clear hcz16_5
  try clear hcz16_6
  try clear hcz16_7
  try clear hcz18_0
  try clear hcz18_1
  try clear hcz18_2
  try clear hcz18_3
  try clear hcz18_4
  try clear hcz18_5
  try clear hcz18_6
  try clear hcz18_7
  try clear hcz20_0
  try clear hcz20_1
  try clear hcz20_2
  try clear hcz20_3
  try clear hcz20_4
  try clear hcz20_5
  try clear hcz20_6
  try clear hcz20_7
  try clear hcz22_0
  try clear hcz22_1
  try clear hcz22_2
  try clear hcz22_3
  try clear hcz22_4
  try clear hcz22_5
  try clear hcz22_6
  try clear hcz22_7
  try clear hfz14_0
  try clear hfz14_1
  try clear hfz14_2
  try clear hfz14_3
  try clear hfz14_4
  try clear hfz14_5
  try clear hfz14_6
  try clear hfz14_7
  try clear hfz16_0
  try clear hfz16_1
  try clear hfz16_2
  try clear hfz16_3
  try clear hfz16_4
  try clear hfz16_5
  try clear hfz16_6
  try clear hfz16_7
  try clear hfz18_0
  try clear hfz18_1
  try clear hfz18_2
  try clear hfz18_3
  try clear hfz18_4
  try clear hfz18_5
  try clear hfz18_6
  try clear hfz18_7
  try clear hfz20_0
  try clear hfz20_1
  try clear hfz20_2
  try clear hfz20_3
  try clear hfz20_4
  try clear hfz20_5
  try clear hfz20_6
  try clear hfz20_7
  try clear hfz22_0
  try clear hfz22_1
  try clear hfz22_2
  try clear hfz22_3
  try clear hfz22_4
  try clear hfz22_5
  try clear hfz22_6
  try clear hfz22_7
  obtain ⟨x6_1, x218000_1, x218001_1, x218002_1, x219005_1, u219005, rfl, HA, HK1, HO_219005, BK216, BK218, HI217, HB⟩ := hrel
  cases gk with
  | zero => exact absurd HA.out (by simp [impl_ReadRecord.l0])
  | succ k1 =>
   have H := HA.out
   clear HA
   simp only [impl_ReadRecord.l0] at H
   have HC24 := Aside0.mk H
   clear H
   go_upto_region 9 with (fail)
   go_cut [37] (fun v37 wc => ∃ (kq : Nat) (x37_23 : Bool), v37 = .bool x37_23 ∧ Aside0 (impl_ReadRecord.j1 kq a0 x6_1 x37_23 x218000_1 x218001_1 x218002_1 t219 t223 t227 t231 t235 x219005_1 0 false = some (r1, r2, r3, r4, r5, r6, r7, r8, r9)) ∧ Aside0 (kq ≤ k1) ∧ Aside0 (Kd.R k63 63 wc w.heap.size (fun _ => True) u219005 x219005_1) ∧ Aside0 (wc.heap[gb216]? = some (.cells #[.int .i64 0, .int .i64 0, .int .i64 0, .int .i64 0, .int .i64 0, (.slice none 0 0), .int .i64 0, .bool false] 24 (0, 0))) ∧ Aside0 (wc.heap[gb218]? = some (.cells #[.int .i64 t219, .int .i64 t223, .int .i64 t227, .int .i64 t231, .int .i64 t235, u219005, .int .i64 0, .bool false] 24 (0, 0))) ∧ Aside0 (IsS66 w wc gb217 x218000_1 x218001_1 x218002_1) ∧ Aside0 (Below w.heap.size w wc))
   case first =>
    have H := HC24.out
    clear HC24
    by_cases c25 : x6_1 > 0
    ·rw [if_pos c25] at H
     have c25b0 : decide (0 < x6_1) = true := decide_eq_true c25
     clear c25
     (first | rw [c25b0] | rw [c25b1] | (simp only [i64_w, i32_w]; first | rw [c25b0] | rw [c25b1]) | skip)
     have H' := Aside0.mk H
     clear H
     obtain ⟨HGz26, hgz26⟩ := HI217.out
     have hcz26_0 := cellS66_0 HGz26
     have hcz26_1 := cellS66_1 HGz26
     have hcz26_2 := cellS66_2 HGz26
     have hfz26_0 := blk_frozen HGz26 0
     have hfz26_1 := blk_frozen HGz26 1
     have hfz26_2 := blk_frozen HGz26 2
     clear HGz26 hgz26
     go_wp2
     go_meet
     case rel => exact ⟨_, (!x218002_1), (by first | rfl | (simp; done) | (simp [*]; done)), H', ⟨by have := HK1.out; first | omega | exact Nat.le_refl _⟩, ⟨by (with_reducible repeat (first | apply Kd.R_alloc | apply Kd.R_drewN | apply Kd.R_drew)); exact HO_219005.out⟩, ⟨by refine bz_ ?_; exact BK216.out⟩, ⟨by refine bz_ ?_; exact BK218.out⟩, ⟨by repeat (first | (with_reducible first | exact HI217.out | apply IsS66.alloc | apply IsS66.drewN | apply IsS66.drew | apply IsS66.set_0 | apply IsS66.set_1 | apply IsS66.set_2 | refine IsS66.far ?_ NB217_216.out _ | refine IsS66.far ?_ NB217_218.out _) | exact HI217.out)⟩, ⟨by repeat (first | (with_reducible first | exact HB.out | apply below_alloc | apply pw_below_drewN | apply below_drew1 | refine below_set ?_ (IsS66.ge HI217.out) | refine below_set ?_ GE216.out | refine below_set ?_ GE218.out) | exact HB.out)⟩⟩
    ·rw [if_neg c25] at H
     have c25b0 : decide (0 < x6_1) = false := decide_eq_false c25
     clear c25
     (first | rw [c25b0] | rw [c25b1] | (simp only [i64_w, i32_w]; first | rw [c25b0] | rw [c25b1]) | skip)
     have H' := Aside0.mk H
     clear H
     go_wp2
     go_meet
     case rel => exact ⟨_, (false), (by first | rfl | (simp; done) | (simp [*]; done)), H', ⟨by have := HK1.out; first | omega | exact Nat.le_refl _⟩, ⟨by (with_reducible repeat (first | apply Kd.R_alloc | apply Kd.R_drewN | apply Kd.R_drew)); exact HO_219005.out⟩, ⟨by refine bz_ ?_; exact BK216.out⟩, ⟨by refine bz_ ?_; exact BK218.out⟩, ⟨by repeat (first | (with_reducible first | exact HI217.out | apply IsS66.alloc | apply IsS66.drewN | apply IsS66.drew | apply IsS66.set_0 | apply IsS66.set_1 | apply IsS66.set_2 | refine IsS66.far ?_ NB217_216.out _ | refine IsS66.far ?_ NB217_218.out _) | exact HI217.out)⟩, ⟨by repeat (first | (with_reducible first | exact HB.out | apply below_alloc | apply pw_below_drewN | apply below_drew1 | refine below_set ?_ (IsS66.ge HI217.out) | refine below_set ?_ GE216.out | refine below_set ?_ GE218.out) | exact HB.out)⟩⟩
   case rest =>
    clear HC24
    try clear c1
    try clear c2
    try clear p2
    try clear c4
    try clear c10
    try clear c12
    try clear c13
    try clear c25
    try clear c25b0
    try clear c25b1
    try clear hcz14_0
    try clear hcz14_1
    try clear hcz14_2
    try clear hcz14_3
    try clear hcz14_4
    try clear hcz14_5
    try clear hcz14_6
    try clear hcz14_7
    try clear hcz16_0
    try clear hcz16_1
    try clear hcz16_2
    try clear hcz16_3
    try clear hcz16_4
    try clear hcz16_5
    try clear hcz16_6
    try clear hcz16_7
    try clear hcz18_0
    try clear hcz18_1
    try clear hcz18_2
    try clear hcz18_3
    try clear hcz18_4
    try clear hcz18_5
    try clear hcz18_6
    try clear hcz18_7
    try clear hcz20_0
    try clear hcz20_1
    try clear hcz20_2
    try clear hcz20_3
    try clear hcz20_4
    try clear hcz20_5
    try clear hcz20_6
    try clear hcz20_7
    try clear hcz22_0
    try clear hcz22_1
    try clear hcz22_2
    try clear hcz22_3
    try clear hcz22_4
    try clear hcz22_5
    try clear hcz22_6
    try clear hcz22_7
    try clear hcz26_0
    try clear hcz26_1
    try clear hcz26_2
    try clear hfz14_0
    try clear hfz14_1
    try clear hfz14_2
    try clear hfz14_3
    try clear hfz14_4
    try clear hfz14_5
    try clear hfz14_6
    try clear hfz14_7
    try clear hfz16_0
    try clear hfz16_1
    try clear hfz16_2
    try clear hfz16_3
    try clear hfz16_4
    try clear hfz16_5
    try clear hfz16_6
    try clear hfz16_7
    try clear hfz18_0
    try clear hfz18_1
    try clear hfz18_2
    try clear hfz18_3
    try clear hfz18_4
    try clear hfz18_5
    try clear hfz18_6
    try clear hfz18_7
    try clear hfz20_0
    try clear hfz20_1
    try clear hfz20_2
    try clear hfz20_3
    try clear hfz20_4
    try clear hfz20_5
    try clear hfz20_6
    try clear hfz20_7
    try clear hfz22_0
    try clear hfz22_1
    try clear hfz22_2
    try clear hfz22_3
    try clear hfz22_4
    try clear hfz22_5
    try clear hfz22_6
    try clear hfz22_7
    try clear hfz26_0
    try clear hfz26_1
    try clear hfz26_2
    try clear p2
    obtain ⟨kq, x37_23, rfl, HA, HJ23, HO_219005, BK216, BK218, HI217, HB⟩ := hcut
    cases kq with
    | zero => exact absurd HA.out (by simp [impl_ReadRecord.j1])
    | succ kj23 =>
     have H := HA.out
     clear HA
     simp only [impl_ReadRecord.j1] at H
     by_cases c27 : x37_23 = true
     ·subst c27
      have H1 : ((impl_reader_one.f x218000_1 x218001_1 x218002_1).bind fun bt243 => ((impl_reader_num.f kj23 bt243.2.1 bt243.2.2.1 bt243.2.2.2).bind fun bt247 => (if x219005_1.length < 8796093022208 then (impl_ReadRecord.l0 kj23 a0 (wrap64 (x6_1 - 1)) bt247.2.1 bt247.2.2.1 bt247.2.2.2 t219 t223 t227 t231 t235 (x219005_1 ++ [(⟨bt243.1, bt247.1⟩ : S63)]) 0 false) else (none)))) = some (r1, r2, r3, r4, r5, r6, r7, r8, r9) := by rw [if_pos rfl] at H; exact H
      clear H
      have H := H1
      clear H1
      replace H := Option.bind_eq_some_iff.mp H
      obtain ⟨⟨t243, t244, t245, t246⟩, A280, H⟩ := H
      replace H : ((impl_reader_num.f kj23 t244 t245 t246).bind fun bt247 => (if x219005_1.length < 8796093022208 then (impl_ReadRecord.l0 kj23 a0 (wrap64 (x6_1 - 1)) bt247.2.1 bt247.2.2.1 bt247.2.2.2 t219 t223 t227 t231 t235 (x219005_1 ++ [(⟨t243, bt247.1⟩ : S63)]) 0 false) else (none))) = some (r1, r2, r3, r4, r5, r6, r7, r8, r9) := H
      have A28 := Aside0.mk A280
      clear A280
      replace H := Option.bind_eq_some_iff.mp H
      obtain ⟨⟨t247, t248, t249, t250⟩, A290, H⟩ := H
      replace H : (if x219005_1.length < 8796093022208 then (impl_ReadRecord.l0 kj23 a0 (wrap64 (x6_1 - 1)) t248 t249 t250 t219 t223 t227 t231 t235 (x219005_1 ++ [(⟨t243, t247⟩ : S63)]) 0 false) else (none)) = some (r1, r2, r3, r4, r5, r6, r7, r8, r9) := H
      have A29 := Aside0.mk A290
      clear A290
      by_cases c30 : x219005_1.length < 8796093022208
      ·rw [if_pos c30] at H
       have LMc30 := Aside0.mk c30
       clear c30
       obtain ⟨y251, hy251⟩ : ∃ y_ : List (S63), y_ = (x219005_1 ++ [(⟨t243, t247⟩ : S63)]) := ⟨_, rfl⟩
       replace H : (impl_ReadRecord.l0 kj23 a0 (wrap64 (x6_1 - 1)) t248 t249 t250 t219 t223 t227 t231 t235 y251 0 false) = some (r1, r2, r3, r4, r5, r6, r7, r8, r9) := by first | (rw [hy251]; with_reducible exact H) | (have H2_ := (Option.bind_some _ _).symm.trans H; rw [hy251]; with_reducible exact H2_) | (have H2_ := (Option.bind_some _ _).symm.trans H; with_reducible exact H2_) | with_reducible exact H | (rw [hy251]; exact H) | exact H
       have Ny251 := Aside0.mk hy251
       clear hy251
       have H' := Aside0.mk H
       clear H
       try go_wp2_with (first | ((with_reducible refine gate_callee (f := 41) rfl ?_); refine goesL_ (some 41) rfl rfl Try.func41 (by kernel_rfl) rfl #[.pointer (some ⟨gb217, 0, none⟩)] rfl mp_q ?_; (with_reducible refine (impl_reader_one.calls gb217 x218000_1 x218001_1 x218002_1 t243 t244 t245 t246 w _ ?side1 ?side2 A28.out).mono ?_); (case side1 => repeat (first | (with_reducible first | exact HI217.out | apply IsS66.alloc | apply IsS66.drewN | apply IsS66.drew | apply IsS66.set_0 | apply IsS66.set_1 | apply IsS66.set_2 | refine IsS66.far ?_ NB217_216.out _ | refine IsS66.far ?_ NB217_218.out _) | exact HI217.out)); (case side2 => repeat (first | (with_reducible first | exact HB.out | apply below_alloc | apply pw_below_drewN | apply below_drew1 | refine below_set ?_ (IsS66.ge HI217.out) | refine below_set ?_ GE216.out | refine below_set ?_ GE218.out) | exact HB.out)); rintro e w31 ⟨rfl, hi, hb, hk⟩; refine ⟨_, rfl, ?_⟩; replace HO_219005 := Aside0.mk (Kd.R_mono (Kd.R_keep (IsS66.apart (show IsS66 w _ gb217 x218000_1 x218001_1 x218002_1 from by repeat (first | (with_reducible first | exact HI217.out | apply IsS66.alloc | apply IsS66.drewN | apply IsS66.drew | apply IsS66.set_0 | apply IsS66.set_1 | apply IsS66.set_2 | refine IsS66.far ?_ NB217_216.out _ | refine IsS66.far ?_ NB217_218.out _) | exact HI217.out)) (kR_q HO_219005) (by decide)) hk (fun _ h => h.2)) (fun _ h => h.1)); replace BK216 := Aside0.mk (KeepBut.blk hk (g' := gb216) (o := .cells #[.int .i64 0, .int .i64 0, .int .i64 0, .int .i64 0, .int .i64 0, .slice none 0 0, .int .i64 0, .bool false] 24 (0, 0)) (bk_q BK216) NB216_217.out (by simp)); replace BK218 := Aside0.mk (KeepBut.blk hk (g' := gb218) (o := .cells #[.int .i64 t219, .int .i64 t223, .int .i64 t227, .int .i64 t231, .int .i64 t235, u219005, .int .i64 0, .bool false] 24 (0, 0)) (bk_q BK218) NB218_217.out (by simp)); replace HB := Aside0.mk (hb); replace HI217 := Aside0.mk (hi); (try clear hb); (try clear hb2); (try clear hk); (try clear hi)))
       replace HO_219005 := Aside0.mk (Kd.R_drew HO_219005.out)
       replace BK216 := Aside0.mk (blk_drew BK216.out)
       replace BK218 := Aside0.mk (blk_drew BK218.out)
       replace HI217 := Aside0.mk (IsS66.drew HI217.out)
       replace HB := Aside0.mk (below_drew1 HB.out)
       refine start_ (n := 10) (S := fun w' => w'.cell? ⟨gb218, 0, none⟩ = some (.int .i64 t219) ∧ w'.cell? ⟨gb218, 1, none⟩ = some (.int .i64 t223) ∧ w'.cell? ⟨gb218, 2, none⟩ = some (.int .i64 t227) ∧ w'.cell? ⟨gb218, 3, none⟩ = some (.int .i64 t231) ∧ w'.cell? ⟨gb218, 4, none⟩ = some (.int .i64 t235) ∧ w'.cell? ⟨gb218, 5, none⟩ = some (u219005) ∧ w'.cell? ⟨gb218, 6, none⟩ = some (.int .i64 0) ∧ w'.cell? ⟨gb218, 7, none⟩ = some (.bool false)) (ds := [9]) (bL 10 0) (by kernel_rfl) rfl rfl ⟨(blk_cell BK218.out 0).trans rfl, (blk_cell BK218.out 1).trans rfl, (blk_cell BK218.out 2).trans rfl, (blk_cell BK218.out 3).trans rfl, (blk_cell BK218.out 4).trans rfl, (blk_cell BK218.out 5).trans rfl, (blk_cell BK218.out 6).trans rfl, (blk_cell BK218.out 7).trans rfl⟩ (fun hHeld => ?_); refine with_tabW impl_ReadRecord.tab12 impl_ReadRecord.bits12 (fun HT_ HW_ => ?_)
       generalize w31.drew = w32 at HO_219005 BK216 BK218 HI217 HB hHeld ⊢
       refine pq_ 0 42 (bL 10 1) HT_.out rfl rfl ?_
       refine pq_ 2 44 (bL 10 5) HT_.out rfl rfl ?_
       refine pq_ 3 45 (bL 10 13) HT_.out rfl rfl ?_
       refine take_ (i := 1) (N := some 43) (v := ?_) (a' := ?_) (bL 10 15) rfl rfl (take_ofW HT_.out HW_.out (by kernel_rfl)) (fun _ _ _ h => h) (Or.inl ⟨by rfl, ?_⟩) hHeld ?_ ?_; rotate_left; (rintro w' ⟨s0, s1, s2, s3, s4, s5, s6, s7⟩; go_simp; with_reducible rfl); rotate_left; (exact put_q)
       refine one_ (i := 4) (N := some 46) (bL 10 31) rfl rfl (one_of HT_.out (by kernel_rfl)) (by decide) (fun K hK => ?_)
       refine goes_ Try.func42 (by kernel_rfl) rfl #[.pointer (some ⟨gb217, 0, none⟩)] (by rfl) rfl rfl mp_q ?_
       with_reducible refine (impl_reader_num.calls kj23 gb217 t244 t245 t246 t247 t248 t249 t250 w _ ?side1 ?side2 A29.out).mono ?_
       (case side1 => repeat (first | (with_reducible first | exact HI217.out | apply IsS66.alloc | apply IsS66.drewN | apply IsS66.drew | apply IsS66.set_0 | apply IsS66.set_1 | apply IsS66.set_2 | refine IsS66.far ?_ NB217_216.out _ | refine IsS66.far ?_ NB217_218.out _) | exact HI217.out))
       (case side2 => repeat (first | (with_reducible first | exact HB.out | apply below_alloc | apply pw_below_drewN | apply below_drew1 | refine below_set ?_ (IsS66.ge HI217.out) | refine below_set ?_ GE216.out | refine below_set ?_ GE218.out) | exact HB.out))
       rintro e w33 ⟨rfl, hi, hb, hk⟩
       refine ⟨_, rfl, ?_⟩
       replace HO_219005 := Aside0.mk (Kd.R_mono (Kd.R_keep (IsS66.apart (show IsS66 w _ gb217 t244 t245 t246 from by repeat (first | (with_reducible first | exact HI217.out | apply IsS66.alloc | apply IsS66.drewN | apply IsS66.drew | apply IsS66.set_0 | apply IsS66.set_1 | apply IsS66.set_2 | refine IsS66.far ?_ NB217_216.out _ | refine IsS66.far ?_ NB217_218.out _) | exact HI217.out)) (kR_q HO_219005) (by decide)) hk (fun _ h => h.2)) (fun _ h => h.1))
       replace BK216 := Aside0.mk (KeepBut.blk hk (g' := gb216) (o := .cells #[.int .i64 0, .int .i64 0, .int .i64 0, .int .i64 0, .int .i64 0, .slice none 0 0, .int .i64 0, .bool false] 24 (0, 0)) (bk_q BK216) NB216_217.out (by simp))
       replace BK218 := Aside0.mk (KeepBut.blk hk (g' := gb218) (o := .cells #[.int .i64 t219, .int .i64 t223, .int .i64 t227, .int .i64 t231, .int .i64 t235, u219005, .int .i64 0, .bool false] 24 (0, 0)) (bk_q BK218) NB218_217.out (by simp))
       replace HB := Aside0.mk (hb)
       replace HI217 := Aside0.mk (hi)
       (try clear hb)
       (try clear hb2)
       (try clear hk)
       (try clear hi)
       refine hK.out _ _ ⟨(blk_cell BK218.out 0).trans rfl, (blk_cell BK218.out 1).trans rfl, (blk_cell BK218.out 2).trans rfl, (blk_cell BK218.out 3).trans rfl, (blk_cell BK218.out 4).trans rfl, (blk_cell BK218.out 5).trans rfl, (blk_cell BK218.out 6).trans rfl, (blk_cell BK218.out 7).trans rfl⟩ (fun hHeld => ?_)
       clear hK K
       refine norm_ (a' := ?_) ?_ ?_; rotate_left; (show Act.put _ (some 46) _ = _; simp only [Act.put, List.setIfInBounds_toArray, List.set_cons_zero, List.set_cons_succ, i64_w, i32_w]; rfl)
       refine pq_ 5 47 (bL 10 63) HT_.out rfl rfl ?_
       refine one_ (i := 6) (N := some 48) (bL 10 127) rfl rfl (one_of HT_.out (by kernel_rfl)) (by decide) (fun K hK => ?_)
       refine value_ (w1 := ?_) (v := ?_) (by rfl) rfl ?_ ?_
       rotate_left 2
       ·go_simp
        constructor
        ·rfl
        ·rfl
       refine hK.out _ _ ⟨(blk_cell (blk_alloc BK218.out _) 0).trans rfl, (blk_cell (blk_alloc BK218.out _) 1).trans rfl, (blk_cell (blk_alloc BK218.out _) 2).trans rfl, (blk_cell (blk_alloc BK218.out _) 3).trans rfl, (blk_cell (blk_alloc BK218.out _) 4).trans rfl, (blk_cell (blk_alloc BK218.out _) 5).trans rfl, (blk_cell (blk_alloc BK218.out _) 6).trans rfl, (blk_cell (blk_alloc BK218.out _) 7).trans rfl⟩ (fun hHeld => ?_)
       clear hK K
       refine norm_ (a' := ?_) ?_ ?_; rotate_left; (show Act.put _ (some 48) _ = _; simp only [Act.put, List.setIfInBounds_toArray, List.set_cons_zero, List.set_cons_succ, i64_w, i32_w]; rfl)
       refine one_ (i := 7) (N := some 49) (bL 10 255) rfl rfl (one_of HT_.out (by kernel_rfl)) (by decide) (fun K hK => ?_)
       refine Kd.R_append_step k63 (w0 := w) w.heap.size (by rfl) (.tmp 43) (.tmp 48) 22 63 (.agg #[(.int .i64 0), (.int .i64 0)]) 16 rfl Try.underlying22 info63 rfl (by decide) (by omega) u219005 x219005_1 (⟨t243, t247⟩ : S63) [.int .i64 t243, .int .i64 t247] (fun _ => True) (fun _ => False) rfl rfl ?aP (fun _ hk => hk.elim) ?aF ?aO ?aB ?aS ?aL ?_
       (case aP => exact k63_mkM _ _ _ (⟨t243, t247⟩ : S63))
       (case aB => exact (by repeat (first | (with_reducible first | exact HB.out | apply below_alloc | apply pw_below_drewN | apply below_drew1 | refine below_set ?_ (IsS66.ge HI217.out) | refine below_set ?_ GE216.out | refine below_set ?_ GE218.out) | exact HB.out)))
       (case aF => exact (fun _ _ => trivial))
       (case aO => exact (kR_q HO_219005))
       (case aS => exact (below_size (by repeat (first | (with_reducible first | exact HB.out | apply below_alloc | apply pw_below_drewN | apply below_drew1 | refine below_set ?_ (IsS66.ge HI217.out) | refine below_set ?_ GE216.out | refine below_set ?_ GE218.out) | exact HB.out))))
       (case aL => have := LMc30.out; omega)
       intro v252 w34 ho hb hg hat
       rw [← Ny251.out] at ho
       replace BK216 := Aside0.mk (blk_grown (g := gb216) (o := .cells #[.int .i64 0, .int .i64 0, .int .i64 0, .int .i64 0, .int .i64 0, .slice none 0 0, .int .i64 0, .bool false] 24 (0, 0)) (bk_q BK216) hg (Kd.R_ne HO_219005.out BK216.out (by decide)))
       replace BK218 := Aside0.mk (blk_grown (g := gb218) (o := .cells #[.int .i64 t219, .int .i64 t223, .int .i64 t227, .int .i64 t231, .int .i64 t235, u219005, .int .i64 0, .bool false] 24 (0, 0)) (bk_q BK218) hg (Kd.R_ne HO_219005.out BK218.out (by decide)))
       replace HI217 := Aside0.mk (IsS66.grown (show IsS66 w _ gb217 t248 t249 t250 from by repeat (first | (with_reducible first | exact HI217.out | apply IsS66.alloc | apply IsS66.drewN | apply IsS66.drew | apply IsS66.set_0 | apply IsS66.set_1 | apply IsS66.set_2 | refine IsS66.far ?_ NB217_216.out _ | refine IsS66.far ?_ NB217_218.out _) | exact HI217.out)) hg (IsS66.own_ne HI217.out HO_219005.out (by decide)))
       replace HB := Aside0.mk (hb)
       have HO253 := Aside0.mk (ho)
       clear HO_219005
       clear ho hb hg hat
       obtain ⟨Ao35, co35, eo35⟩ := Kd.R_slice HO253.out
       (first | subst eo35 | (injection eo35 with f1_ f2_ f3_; have f4_ := f1_.symm; have f5_ := f3_.symm; clear f1_ f2_ f3_; subst f4_; subst f5_))
       refine hK.out _ _ ⟨(blk_cell BK218.out 0).trans rfl, (blk_cell BK218.out 1).trans rfl, (blk_cell BK218.out 2).trans rfl, (blk_cell BK218.out 3).trans rfl, (blk_cell BK218.out 4).trans rfl, (blk_cell BK218.out 5).trans rfl, (blk_cell BK218.out 6).trans rfl, (blk_cell BK218.out 7).trans rfl⟩ (fun hHeld => ?_)
       clear hK K
       refine norm_ (a' := ?_) ?_ ?_; rotate_left; (show Act.put _ (some 49) _ = _; simp only [Act.put, List.setIfInBounds_toArray, List.set_cons_zero, List.set_cons_succ, i64_w, i32_w]; rfl)
       refine pq_ 8 50 (bL 10 511) HT_.out rfl rfl ?_
       refine last_ (i := 9) (N := none) (bL 10 1023) rfl rfl (one_of HT_.out (by kernel_rfl)) (by decide) (fun K hK => ?_)
       have hs36 : w34.cell? ⟨gb218, 5, none⟩ = some (u219005) := (blk_cell BK218.out 5).trans rfl
       have hfs36 := blk_frozen BK218.out 5
       have hns36_0 := NB216_218.out
       have hms36_0 := NB218_216.out
       refine skip_ (w1 := ?_) (by rfl) rfl ?_ ?_
       rotate_left
       ·go_simp
        rfl
       refine hK.out _ _ ?_
       clear hK K
       refine done_ (done_of HT_.out (by kernel_rfl)) ?_
       try go_wp2
       go_roundg kj23
       case measure => have := HK1.out; have := HJ23.out; omega
       case rel => exact ⟨(wrap64 (x6_1 - 1)), (t248), (t249), (t250), (y251), (.slice Ao35 y251.length co35), (by first | rfl | (simp; done) | (simp [*]; done)), H', ⟨by have := HK1.out; have := HJ23.out; omega⟩, ⟨by (with_reducible repeat (first | apply Kd.R_alloc | apply Kd.R_drewN | apply Kd.R_drew)); exact Kd.R_mono (Kd.R_far (p := ⟨gb218, 5, none⟩) (Kd.R_types HO253.out BK218.out (by decide)) (fun _ hk => hk.2) (.slice Ao35 y251.length co35)) (fun _ hk => trivial)⟩, ⟨by refine bz_ ?_; refine blk_far ?_ NB216_218.out _; refine bz_ ?_; exact BK216.out⟩, ⟨by refine bz_ ?_; refine blk_put (cs := #[.int .i64 t219, .int .i64 t223, .int .i64 t227, .int .i64 t231, .int .i64 t235, u219005, .int .i64 0, .bool false]) ?_ 5 _ rfl; refine bz_ ?_; exact BK218.out⟩, ⟨by repeat (first | (with_reducible first | exact HI217.out | apply IsS66.alloc | apply IsS66.drewN | apply IsS66.drew | apply IsS66.set_0 | apply IsS66.set_1 | apply IsS66.set_2 | refine IsS66.far ?_ NB217_216.out _ | refine IsS66.far ?_ NB217_218.out _) | exact HI217.out)⟩, ⟨by repeat (first | (with_reducible first | exact HB.out | apply below_alloc | apply pw_below_drewN | apply below_drew1 | refine below_set ?_ (IsS66.ge HI217.out) | refine below_set ?_ GE216.out | refine below_set ?_ GE218.out) | exact HB.out)⟩⟩
      ·rw [if_neg c30] at H
       exact absurd H (by simp)
     ·replace c27 := Bool.eq_false_iff.mpr c27
      subst c27
      have H1 : ((impl_reader_num.f kj23 x218000_1 x218001_1 x218002_1).bind fun bt254 => ((impl_reader_one.f bt254.2.1 bt254.2.2.1 bt254.2.2.2).bind fun bt258 => (if bt258.2.2.2 = true then (some (0, 0, 0, 0, 0, ([] : List (S63)), 0, false, false)) else (if bt258.1 > 1 then (some (0, 0, 0, 0, 0, ([] : List (S63)), 0, false, false)) else (if bt258.2.2.1 = (a0.size : Int) then ((impl_RecordOk.f kj23 t219 t223 t227 t231 t235 x219005_1 bt254.1 (bt258.1 == 1)).bind fun t262 => (if t262 = true then (some (t219, t223, t227, t231, t235, x219005_1, bt254.1, (bt258.1 == 1), true)) else (some (0, 0, 0, 0, 0, ([] : List (S63)), 0, false, false)))) else (some (0, 0, 0, 0, 0, ([] : List (S63)), 0, false, false))))))) = some (r1, r2, r3, r4, r5, r6, r7, r8, r9) := by rw [if_neg (show ¬ (false = true) by decide)] at H; exact H
      clear H
      have H := H1
      clear H1
      replace H := Option.bind_eq_some_iff.mp H
      obtain ⟨⟨t254, t255, t256, t257⟩, A370, H⟩ := H
      replace H : ((impl_reader_one.f t255 t256 t257).bind fun bt258 => (if bt258.2.2.2 = true then (some (0, 0, 0, 0, 0, ([] : List (S63)), 0, false, false)) else (if bt258.1 > 1 then (some (0, 0, 0, 0, 0, ([] : List (S63)), 0, false, false)) else (if bt258.2.2.1 = (a0.size : Int) then ((impl_RecordOk.f kj23 t219 t223 t227 t231 t235 x219005_1 t254 (bt258.1 == 1)).bind fun t262 => (if t262 = true then (some (t219, t223, t227, t231, t235, x219005_1, t254, (bt258.1 == 1), true)) else (some (0, 0, 0, 0, 0, ([] : List (S63)), 0, false, false)))) else (some (0, 0, 0, 0, 0, ([] : List (S63)), 0, false, false)))))) = some (r1, r2, r3, r4, r5, r6, r7, r8, r9) := H
      have A37 := Aside0.mk A370
      clear A370
      replace H := Option.bind_eq_some_iff.mp H
      obtain ⟨⟨t258, t259, t260, t261⟩, A380, H⟩ := H
      replace H : (if t261 = true then (some (0, 0, 0, 0, 0, ([] : List (S63)), 0, false, false)) else (if t258 > 1 then (some (0, 0, 0, 0, 0, ([] : List (S63)), 0, false, false)) else (if t260 = (a0.size : Int) then ((impl_RecordOk.f kj23 t219 t223 t227 t231 t235 x219005_1 t254 (t258 == 1)).bind fun t262 => (if t262 = true then (some (t219, t223, t227, t231, t235, x219005_1, t254, (t258 == 1), true)) else (some (0, 0, 0, 0, 0, ([] : List (S63)), 0, false, false)))) else (some (0, 0, 0, 0, 0, ([] : List (S63)), 0, false, false))))) = some (r1, r2, r3, r4, r5, r6, r7, r8, r9) := H
      have A38 := Aside0.mk A380
      clear A380
      by_cases c39 : t261 = true
      ·subst c39
       have H1 : (some (0, 0, 0, 0, 0, ([] : List (S63)), 0, false, false)) = some (r1, r2, r3, r4, r5, r6, r7, r8, r9) := by rw [if_pos rfl] at H; exact H
       clear H
       have H := H1
       clear H1
       have HC40 := Aside0.mk H
       clear H
       go_upto_if 80 with (first | ((with_reducible refine gate_callee (f := 42) rfl ?_); refine goesL_ (some 52) rfl rfl Try.func42 (by kernel_rfl) rfl #[.pointer (some ⟨gb217, 0, none⟩)] rfl mp_q ?_; (with_reducible refine (impl_reader_num.calls kj23 gb217 x218000_1 x218001_1 x218002_1 t254 t255 t256 t257 w _ ?side1 ?side2 A37.out).mono ?_); (case side1 => repeat (first | (with_reducible first | exact HI217.out | apply IsS66.alloc | apply IsS66.drewN | apply IsS66.drew | apply IsS66.set_0 | apply IsS66.set_1 | apply IsS66.set_2 | refine IsS66.far ?_ NB217_216.out _ | refine IsS66.far ?_ NB217_218.out _) | exact HI217.out)); (case side2 => repeat (first | (with_reducible first | exact HB.out | apply below_alloc | apply pw_below_drewN | apply below_drew1 | refine below_set ?_ (IsS66.ge HI217.out) | refine below_set ?_ GE216.out | refine below_set ?_ GE218.out) | exact HB.out)); rintro e w41 ⟨rfl, hi, hb, hk⟩; refine ⟨_, rfl, ?_⟩; replace HO_219005 := Aside0.mk (Kd.R_mono (Kd.R_keep (IsS66.apart (show IsS66 w _ gb217 x218000_1 x218001_1 x218002_1 from by repeat (first | (with_reducible first | exact HI217.out | apply IsS66.alloc | apply IsS66.drewN | apply IsS66.drew | apply IsS66.set_0 | apply IsS66.set_1 | apply IsS66.set_2 | refine IsS66.far ?_ NB217_216.out _ | refine IsS66.far ?_ NB217_218.out _) | exact HI217.out)) (kR_q HO_219005) (by decide)) hk (fun _ h => h.2)) (fun _ h => h.1)); replace BK216 := Aside0.mk (KeepBut.blk hk (g' := gb216) (o := .cells #[.int .i64 0, .int .i64 0, .int .i64 0, .int .i64 0, .int .i64 0, .slice none 0 0, .int .i64 0, .bool false] 24 (0, 0)) (bk_q BK216) NB216_217.out (by simp)); replace BK218 := Aside0.mk (KeepBut.blk hk (g' := gb218) (o := .cells #[.int .i64 t219, .int .i64 t223, .int .i64 t227, .int .i64 t231, .int .i64 t235, u219005, .int .i64 0, .bool false] 24 (0, 0)) (bk_q BK218) NB218_217.out (by simp)); replace HB := Aside0.mk (hb); replace HI217 := Aside0.mk (hi); (try clear hb); (try clear hb2); (try clear hk); (try clear hi); have hnb42 := NB218_216.out; have hnc42 := NB216_218.out; have hnb43 := NB218_217.out; have hnc43 := NB217_218.out; have hcz44_0 : w41.cell? ⟨gb218, 0, none⟩ = some (.int .i64 t219) := (blk_cell BK218.out 0).trans rfl; have hcz44_1 : w41.cell? ⟨gb218, 1, none⟩ = some (.int .i64 t223) := (blk_cell BK218.out 1).trans rfl; have hcz44_2 : w41.cell? ⟨gb218, 2, none⟩ = some (.int .i64 t227) := (blk_cell BK218.out 2).trans rfl; have hcz44_3 : w41.cell? ⟨gb218, 3, none⟩ = some (.int .i64 t231) := (blk_cell BK218.out 3).trans rfl; have hcz44_4 : w41.cell? ⟨gb218, 4, none⟩ = some (.int .i64 t235) := (blk_cell BK218.out 4).trans rfl; have hcz44_5 : w41.cell? ⟨gb218, 5, none⟩ = some (u219005) := (blk_cell BK218.out 5).trans rfl; have hcz44_6 : w41.cell? ⟨gb218, 6, none⟩ = some (.int .i64 0) := (blk_cell BK218.out 6).trans rfl; have hcz44_7 : w41.cell? ⟨gb218, 7, none⟩ = some (.bool false) := (blk_cell BK218.out 7).trans rfl; have hfz44_0 := blk_frozen BK218.out 0; have hfz44_1 := blk_frozen BK218.out 1; have hfz44_2 := blk_frozen BK218.out 2; have hfz44_3 := blk_frozen BK218.out 3; have hfz44_4 := blk_frozen BK218.out 4; have hfz44_5 := blk_frozen BK218.out 5; have hfz44_6 := blk_frozen BK218.out 6; have hfz44_7 := blk_frozen BK218.out 7) | ((with_reducible refine gate_callee (f := 41) rfl ?_); refine goesL_ (some 55) rfl rfl Try.func41 (by kernel_rfl) rfl #[.pointer (some ⟨gb217, 0, none⟩)] rfl mp_q ?_; (with_reducible refine (impl_reader_one.calls gb217 t255 t256 t257 t258 t259 t260 true w _ ?side1 ?side2 A38.out).mono ?_); (case side1 => repeat (first | (with_reducible first | exact HI217.out | apply IsS66.alloc | apply IsS66.drewN | apply IsS66.drew | apply IsS66.set_0 | apply IsS66.set_1 | apply IsS66.set_2 | refine IsS66.far ?_ NB217_216.out _ | refine IsS66.far ?_ NB217_218.out _) | exact HI217.out)); (case side2 => repeat (first | (with_reducible first | exact HB.out | apply below_alloc | apply pw_below_drewN | apply below_drew1 | refine below_set ?_ (IsS66.ge HI217.out) | refine below_set ?_ GE216.out | refine below_set ?_ GE218.out) | exact HB.out)); rintro e w45 ⟨rfl, hi, hb, hk⟩; refine ⟨_, rfl, ?_⟩; replace HO_219005 := Aside0.mk (Kd.R_mono (Kd.R_keep (IsS66.apart (show IsS66 w _ gb217 t255 t256 t257 from by repeat (first | (with_reducible first | exact HI217.out | apply IsS66.alloc | apply IsS66.drewN | apply IsS66.drew | apply IsS66.set_0 | apply IsS66.set_1 | apply IsS66.set_2 | refine IsS66.far ?_ NB217_216.out _ | refine IsS66.far ?_ NB217_218.out _) | exact HI217.out)) (by (with_reducible repeat (first | apply Kd.R_alloc | apply Kd.R_drewN | apply Kd.R_drew)); exact (Kd.R_mono (Kd.R_far (p := ⟨gb218, 6, none⟩) (Kd.R_types HO_219005.out BK218.out (by decide)) (fun _ hk => hk.2) (.int .i64 t254)) (fun _ h_ => h_.1))) (by decide)) hk (fun _ h => h.2)) (fun _ h => h.1)); replace BK216 := Aside0.mk (KeepBut.blk hk (g' := gb216) (o := .cells #[.int .i64 0, .int .i64 0, .int .i64 0, .int .i64 0, .int .i64 0, .slice none 0 0, .int .i64 0, .bool false] 24 (0, 0)) (by refine bz_ ?_; refine blk_far ?_ NB216_218.out _; refine bz_ ?_; exact BK216.out) NB216_217.out (by simp)); replace BK218 := Aside0.mk (KeepBut.blk hk (g' := gb218) (o := .cells #[.int .i64 t219, .int .i64 t223, .int .i64 t227, .int .i64 t231, .int .i64 t235, u219005, .int .i64 t254, .bool false] 24 (0, 0)) (by refine bz_ ?_; refine blk_put (cs := #[.int .i64 t219, .int .i64 t223, .int .i64 t227, .int .i64 t231, .int .i64 t235, u219005, .int .i64 0, .bool false]) ?_ 6 _ rfl; refine bz_ ?_; exact BK218.out) NB218_217.out (by simp)); replace HB := Aside0.mk (hb); replace HI217 := Aside0.mk (hi); (try clear hb); (try clear hb2); (try clear hk); (try clear hi); have hcz46_0 : w45.cell? ⟨gb218, 0, none⟩ = some (.int .i64 t219) := (blk_cell BK218.out 0).trans rfl; have hcz46_1 : w45.cell? ⟨gb218, 1, none⟩ = some (.int .i64 t223) := (blk_cell BK218.out 1).trans rfl; have hcz46_2 : w45.cell? ⟨gb218, 2, none⟩ = some (.int .i64 t227) := (blk_cell BK218.out 2).trans rfl; have hcz46_3 : w45.cell? ⟨gb218, 3, none⟩ = some (.int .i64 t231) := (blk_cell BK218.out 3).trans rfl; have hcz46_4 : w45.cell? ⟨gb218, 4, none⟩ = some (.int .i64 t235) := (blk_cell BK218.out 4).trans rfl; have hcz46_5 : w45.cell? ⟨gb218, 5, none⟩ = some (u219005) := (blk_cell BK218.out 5).trans rfl; have hcz46_6 : w45.cell? ⟨gb218, 6, none⟩ = some (.int .i64 t254) := (blk_cell BK218.out 6).trans rfl; have hcz46_7 : w45.cell? ⟨gb218, 7, none⟩ = some (.bool false) := (blk_cell BK218.out 7).trans rfl; have hfz46_0 := blk_frozen BK218.out 0; have hfz46_1 := blk_frozen BK218.out 1; have hfz46_2 := blk_frozen BK218.out 2; have hfz46_3 := blk_frozen BK218.out 3; have hfz46_4 := blk_frozen BK218.out 4; have hfz46_5 := blk_frozen BK218.out 5; have hfz46_6 := blk_frozen BK218.out 6; have hfz46_7 := blk_frozen BK218.out 7; obtain ⟨HGz47, hgz47⟩ := HI217.out; have hcz47_0 := cellS66_0 HGz47; have hcz47_1 := cellS66_1 HGz47; have hcz47_2 := cellS66_2 HGz47; have hfz47_0 := blk_frozen HGz47 0; have hfz47_1 := blk_frozen HGz47 1; have hfz47_2 := blk_frozen HGz47 2; clear HGz47 hgz47))
       have n0_ : Aside0 (Kd.R k63 63 (w45.setCell ⟨gb218, 7, none⟩ (.bool (t258 == 1))) w.heap.size (fun _ => True) u219005 x219005_1) := ⟨by (with_reducible repeat (first | apply Kd.R_alloc | apply Kd.R_drewN | apply Kd.R_drew)); exact Kd.R_mono (Kd.R_far (p := ⟨gb218, 7, none⟩) (Kd.R_types HO_219005.out BK218.out (by decide)) (fun _ hk => hk.2) (.bool (t258 == 1))) (fun _ hk => trivial)⟩
       have n1_ : Aside0 ((w45.setCell ⟨gb218, 7, none⟩ (.bool (t258 == 1))).heap[gb216]? = some (.cells #[.int .i64 0, .int .i64 0, .int .i64 0, .int .i64 0, .int .i64 0, .slice none 0 0, .int .i64 0, .bool false] 24 (0, 0))) := ⟨by refine bz_ ?_; refine blk_far ?_ NB216_218.out _; refine bz_ ?_; exact BK216.out⟩
       have n2_ : Aside0 ((w45.setCell ⟨gb218, 7, none⟩ (.bool (t258 == 1))).heap[gb218]? = some (.cells #[.int .i64 t219, .int .i64 t223, .int .i64 t227, .int .i64 t231, .int .i64 t235, u219005, .int .i64 t254, .bool (t258 == 1)] 24 (0, 0))) := ⟨by refine bz_ ?_; refine blk_put (cs := #[.int .i64 t219, .int .i64 t223, .int .i64 t227, .int .i64 t231, .int .i64 t235, u219005, .int .i64 t254, .bool false]) ?_ 7 _ rfl; refine bz_ ?_; exact BK218.out⟩
       have n3_ : Aside0 (IsS66 w (w45.setCell ⟨gb218, 7, none⟩ (.bool (t258 == 1))) gb217 t259 t260 true) := ⟨by repeat (first | (with_reducible first | exact HI217.out | apply IsS66.alloc | apply IsS66.drewN | apply IsS66.drew | apply IsS66.set_0 | apply IsS66.set_1 | apply IsS66.set_2 | refine IsS66.far ?_ NB217_216.out _ | refine IsS66.far ?_ NB217_218.out _) | exact HI217.out)⟩
       have n4_ : Aside0 (Below w.heap.size w (w45.setCell ⟨gb218, 7, none⟩ (.bool (t258 == 1)))) := ⟨by repeat (first | (with_reducible first | exact HB.out | apply below_alloc | apply pw_below_drewN | apply below_drew1 | refine below_set ?_ (IsS66.ge HI217.out) | refine below_set ?_ GE216.out | refine below_set ?_ GE218.out) | exact HB.out)⟩
       (try clear HO_219005)
       (try clear BK216)
       (try clear BK218)
       (try clear HI217)
       (try clear HB)
       generalize (w45.setCell ⟨gb218, 7, none⟩ (.bool (t258 == 1))) = w48 at n0_ n1_ n2_ n3_ n4_ ⊢
       have HO_219005 := n0_
       have BK216 := n1_
       have BK218 := n2_
       have HI217 := n3_
       have HB := n4_
       clear n0_ n1_ n2_ n3_ n4_
       have H := HC40.out
       clear HC40
       simp only [Option.some.injEq, Prod.mk.injEq] at H
       obtain ⟨rfl, rfl, rfl, rfl, rfl, rfl, rfl, rfl, rfl⟩ := H
       have hnb49 := NB216_218.out
       have hnc49 := NB218_216.out
       have hnb50 := NB216_217.out
       have hnc50 := NB217_216.out
       obtain ⟨hcz51_0, hcz51_1, hcz51_2, hcz51_3, hcz51_4, hcz51_5, hcz51_6, hcz51_7⟩ := cz8_ BK216
       obtain ⟨hfz51_0, hfz51_1, hfz51_2, hfz51_3, hfz51_4, hfz51_5, hfz51_6, hfz51_7⟩ := fz8_ BK216
       go_wp2
       refine bodyPost_ret (results_ct rfl _ _ gb216 24 #[.int .i64 0, .int .i64 0, .int .i64 0, .int .i64 0, .int .i64 0, .slice none 0 0, .int .i64 0, .bool false] (0, 0) _ rfl (by refine bz_ ?_; refine blk_put (cs := #[.int .i64 0, .int .i64 0, .int .i64 0, .int .i64 0, .int .i64 0, .slice none 0 0, .int .i64 0, .bool false]) ?_ 7 _ rfl; refine bz_ ?_; refine blk_put (cs := #[.int .i64 0, .int .i64 0, .int .i64 0, .int .i64 0, .int .i64 0, .slice none 0 0, .int .i64 0, .bool false]) ?_ 6 _ rfl; refine bz_ ?_; refine blk_put (cs := #[.int .i64 0, .int .i64 0, .int .i64 0, .int .i64 0, .int .i64 0, .slice none 0 0, .int .i64 0, .bool false]) ?_ 5 _ rfl; refine bz_ ?_; refine blk_put (cs := #[.int .i64 0, .int .i64 0, .int .i64 0, .int .i64 0, .int .i64 0, .slice none 0 0, .int .i64 0, .bool false]) ?_ 4 _ rfl; refine bz_ ?_; refine blk_put (cs := #[.int .i64 0, .int .i64 0, .int .i64 0, .int .i64 0, .int .i64 0, .slice none 0 0, .int .i64 0, .bool false]) ?_ 3 _ rfl; refine bz_ ?_; refine blk_put (cs := #[.int .i64 0, .int .i64 0, .int .i64 0, .int .i64 0, .int .i64 0, .slice none 0 0, .int .i64 0, .bool false]) ?_ 2 _ rfl; refine bz_ ?_; refine blk_put (cs := #[.int .i64 0, .int .i64 0, .int .i64 0, .int .i64 0, .int .i64 0, .slice none 0 0, .int .i64 0, .bool false]) ?_ 1 _ rfl; refine bz_ ?_; refine blk_put (cs := #[.int .i64 0, .int .i64 0, .int .i64 0, .int .i64 0, .int .i64 0, .slice none 0 0, .int .i64 0, .bool false]) ?_ 0 _ rfl; refine bz_ ?_; exact BK216.out) Try.underlying24 rfl (by kernel_rfl)) rfl ?_
       exact ⟨_, er_q, by first | exact Kd.R_nil _ _ _ _ _ | exact Kd.N_nil _ _ _ _ _ | exact Kd.V_nil _ _ _ _ _ | exact Kd.Q_nil _ _ _ _ _ | exact Kd.S_nil _ _ _ _ _, by repeat (first | (with_reducible first | exact HB.out | apply below_alloc | apply pw_below_drewN | apply below_drew1 | refine below_set ?_ (IsS66.ge HI217.out) | refine below_set ?_ GE216.out | refine below_set ?_ GE218.out) | exact HB.out)⟩
      ·replace c39 := Bool.eq_false_iff.mpr c39
       subst c39
       have H1 : (if t258 > 1 then (some (0, 0, 0, 0, 0, ([] : List (S63)), 0, false, false)) else (if t260 = (a0.size : Int) then ((impl_RecordOk.f kj23 t219 t223 t227 t231 t235 x219005_1 t254 (t258 == 1)).bind fun t262 => (if t262 = true then (some (t219, t223, t227, t231, t235, x219005_1, t254, (t258 == 1), true)) else (some (0, 0, 0, 0, 0, ([] : List (S63)), 0, false, false)))) else (some (0, 0, 0, 0, 0, ([] : List (S63)), 0, false, false)))) = some (r1, r2, r3, r4, r5, r6, r7, r8, r9) := by rw [if_neg (show ¬ (false = true) by decide)] at H; exact H
       clear H
       have H := H1
       clear H1
       by_cases c52 : t258 > 1
       ·rw [if_pos c52] at H
        have c52b0 : decide (1 < t258) = true := decide_eq_true c52
        clear c52
        have HC53 := Aside0.mk H
        clear H
        go_upto_if 80 with (first | ((with_reducible refine gate_callee (f := 42) rfl ?_); refine goesL_ (some 52) rfl rfl Try.func42 (by kernel_rfl) rfl #[.pointer (some ⟨gb217, 0, none⟩)] rfl mp_q ?_; (with_reducible refine (impl_reader_num.calls kj23 gb217 x218000_1 x218001_1 x218002_1 t254 t255 t256 t257 w _ ?side1 ?side2 A37.out).mono ?_); (case side1 => repeat (first | (with_reducible first | exact HI217.out | apply IsS66.alloc | apply IsS66.drewN | apply IsS66.drew | apply IsS66.set_0 | apply IsS66.set_1 | apply IsS66.set_2 | refine IsS66.far ?_ NB217_216.out _ | refine IsS66.far ?_ NB217_218.out _) | exact HI217.out)); (case side2 => repeat (first | (with_reducible first | exact HB.out | apply below_alloc | apply pw_below_drewN | apply below_drew1 | refine below_set ?_ (IsS66.ge HI217.out) | refine below_set ?_ GE216.out | refine below_set ?_ GE218.out) | exact HB.out)); rintro e w54 ⟨rfl, hi, hb, hk⟩; refine ⟨_, rfl, ?_⟩; replace HO_219005 := Aside0.mk (Kd.R_mono (Kd.R_keep (IsS66.apart (show IsS66 w _ gb217 x218000_1 x218001_1 x218002_1 from by repeat (first | (with_reducible first | exact HI217.out | apply IsS66.alloc | apply IsS66.drewN | apply IsS66.drew | apply IsS66.set_0 | apply IsS66.set_1 | apply IsS66.set_2 | refine IsS66.far ?_ NB217_216.out _ | refine IsS66.far ?_ NB217_218.out _) | exact HI217.out)) (kR_q HO_219005) (by decide)) hk (fun _ h => h.2)) (fun _ h => h.1)); replace BK216 := Aside0.mk (KeepBut.blk hk (g' := gb216) (o := .cells #[.int .i64 0, .int .i64 0, .int .i64 0, .int .i64 0, .int .i64 0, .slice none 0 0, .int .i64 0, .bool false] 24 (0, 0)) (bk_q BK216) NB216_217.out (by simp)); replace BK218 := Aside0.mk (KeepBut.blk hk (g' := gb218) (o := .cells #[.int .i64 t219, .int .i64 t223, .int .i64 t227, .int .i64 t231, .int .i64 t235, u219005, .int .i64 0, .bool false] 24 (0, 0)) (bk_q BK218) NB218_217.out (by simp)); replace HB := Aside0.mk (hb); replace HI217 := Aside0.mk (hi); (try clear hb); (try clear hb2); (try clear hk); (try clear hi); have hnb55 := NB218_216.out; have hnc55 := NB216_218.out; have hnb56 := NB218_217.out; have hnc56 := NB217_218.out; have hcz57_0 : w54.cell? ⟨gb218, 0, none⟩ = some (.int .i64 t219) := (blk_cell BK218.out 0).trans rfl; have hcz57_1 : w54.cell? ⟨gb218, 1, none⟩ = some (.int .i64 t223) := (blk_cell BK218.out 1).trans rfl; have hcz57_2 : w54.cell? ⟨gb218, 2, none⟩ = some (.int .i64 t227) := (blk_cell BK218.out 2).trans rfl; have hcz57_3 : w54.cell? ⟨gb218, 3, none⟩ = some (.int .i64 t231) := (blk_cell BK218.out 3).trans rfl; have hcz57_4 : w54.cell? ⟨gb218, 4, none⟩ = some (.int .i64 t235) := (blk_cell BK218.out 4).trans rfl; have hcz57_5 : w54.cell? ⟨gb218, 5, none⟩ = some (u219005) := (blk_cell BK218.out 5).trans rfl; have hcz57_6 : w54.cell? ⟨gb218, 6, none⟩ = some (.int .i64 0) := (blk_cell BK218.out 6).trans rfl; have hcz57_7 : w54.cell? ⟨gb218, 7, none⟩ = some (.bool false) := (blk_cell BK218.out 7).trans rfl; have hfz57_0 := blk_frozen BK218.out 0; have hfz57_1 := blk_frozen BK218.out 1; have hfz57_2 := blk_frozen BK218.out 2; have hfz57_3 := blk_frozen BK218.out 3; have hfz57_4 := blk_frozen BK218.out 4; have hfz57_5 := blk_frozen BK218.out 5; have hfz57_6 := blk_frozen BK218.out 6; have hfz57_7 := blk_frozen BK218.out 7) | ((with_reducible refine gate_callee (f := 41) rfl ?_); refine goesL_ (some 55) rfl rfl Try.func41 (by kernel_rfl) rfl #[.pointer (some ⟨gb217, 0, none⟩)] rfl mp_q ?_; (with_reducible refine (impl_reader_one.calls gb217 t255 t256 t257 t258 t259 t260 false w _ ?side1 ?side2 A38.out).mono ?_); (case side1 => repeat (first | (with_reducible first | exact HI217.out | apply IsS66.alloc | apply IsS66.drewN | apply IsS66.drew | apply IsS66.set_0 | apply IsS66.set_1 | apply IsS66.set_2 | refine IsS66.far ?_ NB217_216.out _ | refine IsS66.far ?_ NB217_218.out _) | exact HI217.out)); (case side2 => repeat (first | (with_reducible first | exact HB.out | apply below_alloc | apply pw_below_drewN | apply below_drew1 | refine below_set ?_ (IsS66.ge HI217.out) | refine below_set ?_ GE216.out | refine below_set ?_ GE218.out) | exact HB.out)); rintro e w58 ⟨rfl, hi, hb, hk⟩; refine ⟨_, rfl, ?_⟩; replace HO_219005 := Aside0.mk (Kd.R_mono (Kd.R_keep (IsS66.apart (show IsS66 w _ gb217 t255 t256 t257 from by repeat (first | (with_reducible first | exact HI217.out | apply IsS66.alloc | apply IsS66.drewN | apply IsS66.drew | apply IsS66.set_0 | apply IsS66.set_1 | apply IsS66.set_2 | refine IsS66.far ?_ NB217_216.out _ | refine IsS66.far ?_ NB217_218.out _) | exact HI217.out)) (by (with_reducible repeat (first | apply Kd.R_alloc | apply Kd.R_drewN | apply Kd.R_drew)); exact (Kd.R_mono (Kd.R_far (p := ⟨gb218, 6, none⟩) (Kd.R_types HO_219005.out BK218.out (by decide)) (fun _ hk => hk.2) (.int .i64 t254)) (fun _ h_ => h_.1))) (by decide)) hk (fun _ h => h.2)) (fun _ h => h.1)); replace BK216 := Aside0.mk (KeepBut.blk hk (g' := gb216) (o := .cells #[.int .i64 0, .int .i64 0, .int .i64 0, .int .i64 0, .int .i64 0, .slice none 0 0, .int .i64 0, .bool false] 24 (0, 0)) (by refine bz_ ?_; refine blk_far ?_ NB216_218.out _; refine bz_ ?_; exact BK216.out) NB216_217.out (by simp)); replace BK218 := Aside0.mk (KeepBut.blk hk (g' := gb218) (o := .cells #[.int .i64 t219, .int .i64 t223, .int .i64 t227, .int .i64 t231, .int .i64 t235, u219005, .int .i64 t254, .bool false] 24 (0, 0)) (by refine bz_ ?_; refine blk_put (cs := #[.int .i64 t219, .int .i64 t223, .int .i64 t227, .int .i64 t231, .int .i64 t235, u219005, .int .i64 0, .bool false]) ?_ 6 _ rfl; refine bz_ ?_; exact BK218.out) NB218_217.out (by simp)); replace HB := Aside0.mk (hb); replace HI217 := Aside0.mk (hi); (try clear hb); (try clear hb2); (try clear hk); (try clear hi); have hcz59_0 : w58.cell? ⟨gb218, 0, none⟩ = some (.int .i64 t219) := (blk_cell BK218.out 0).trans rfl; have hcz59_1 : w58.cell? ⟨gb218, 1, none⟩ = some (.int .i64 t223) := (blk_cell BK218.out 1).trans rfl; have hcz59_2 : w58.cell? ⟨gb218, 2, none⟩ = some (.int .i64 t227) := (blk_cell BK218.out 2).trans rfl; have hcz59_3 : w58.cell? ⟨gb218, 3, none⟩ = some (.int .i64 t231) := (blk_cell BK218.out 3).trans rfl; have hcz59_4 : w58.cell? ⟨gb218, 4, none⟩ = some (.int .i64 t235) := (blk_cell BK218.out 4).trans rfl; have hcz59_5 : w58.cell? ⟨gb218, 5, none⟩ = some (u219005) := (blk_cell BK218.out 5).trans rfl; have hcz59_6 : w58.cell? ⟨gb218, 6, none⟩ = some (.int .i64 t254) := (blk_cell BK218.out 6).trans rfl; have hcz59_7 : w58.cell? ⟨gb218, 7, none⟩ = some (.bool false) := (blk_cell BK218.out 7).trans rfl; have hfz59_0 := blk_frozen BK218.out 0; have hfz59_1 := blk_frozen BK218.out 1; have hfz59_2 := blk_frozen BK218.out 2; have hfz59_3 := blk_frozen BK218.out 3; have hfz59_4 := blk_frozen BK218.out 4; have hfz59_5 := blk_frozen BK218.out 5; have hfz59_6 := blk_frozen BK218.out 6; have hfz59_7 := blk_frozen BK218.out 7; obtain ⟨HGz60, hgz60⟩ := HI217.out; have hcz60_0 := cellS66_0 HGz60; have hcz60_1 := cellS66_1 HGz60; have hcz60_2 := cellS66_2 HGz60; have hfz60_0 := blk_frozen HGz60 0; have hfz60_1 := blk_frozen HGz60 1; have hfz60_2 := blk_frozen HGz60 2; clear HGz60 hgz60))
        have n0_ : Aside0 (Kd.R k63 63 (w58.setCell ⟨gb218, 7, none⟩ (.bool (t258 == 1))) w.heap.size (fun _ => True) u219005 x219005_1) := ⟨by (with_reducible repeat (first | apply Kd.R_alloc | apply Kd.R_drewN | apply Kd.R_drew)); exact Kd.R_mono (Kd.R_far (p := ⟨gb218, 7, none⟩) (Kd.R_types HO_219005.out BK218.out (by decide)) (fun _ hk => hk.2) (.bool (t258 == 1))) (fun _ hk => trivial)⟩
        have n1_ : Aside0 ((w58.setCell ⟨gb218, 7, none⟩ (.bool (t258 == 1))).heap[gb216]? = some (.cells #[.int .i64 0, .int .i64 0, .int .i64 0, .int .i64 0, .int .i64 0, .slice none 0 0, .int .i64 0, .bool false] 24 (0, 0))) := ⟨by refine bz_ ?_; refine blk_far ?_ NB216_218.out _; refine bz_ ?_; exact BK216.out⟩
        have n2_ : Aside0 ((w58.setCell ⟨gb218, 7, none⟩ (.bool (t258 == 1))).heap[gb218]? = some (.cells #[.int .i64 t219, .int .i64 t223, .int .i64 t227, .int .i64 t231, .int .i64 t235, u219005, .int .i64 t254, .bool (t258 == 1)] 24 (0, 0))) := ⟨by refine bz_ ?_; refine blk_put (cs := #[.int .i64 t219, .int .i64 t223, .int .i64 t227, .int .i64 t231, .int .i64 t235, u219005, .int .i64 t254, .bool false]) ?_ 7 _ rfl; refine bz_ ?_; exact BK218.out⟩
        have n3_ : Aside0 (IsS66 w (w58.setCell ⟨gb218, 7, none⟩ (.bool (t258 == 1))) gb217 t259 t260 false) := ⟨by repeat (first | (with_reducible first | exact HI217.out | apply IsS66.alloc | apply IsS66.drewN | apply IsS66.drew | apply IsS66.set_0 | apply IsS66.set_1 | apply IsS66.set_2 | refine IsS66.far ?_ NB217_216.out _ | refine IsS66.far ?_ NB217_218.out _) | exact HI217.out)⟩
        have n4_ : Aside0 (Below w.heap.size w (w58.setCell ⟨gb218, 7, none⟩ (.bool (t258 == 1)))) := ⟨by repeat (first | (with_reducible first | exact HB.out | apply below_alloc | apply pw_below_drewN | apply below_drew1 | refine below_set ?_ (IsS66.ge HI217.out) | refine below_set ?_ GE216.out | refine below_set ?_ GE218.out) | exact HB.out)⟩
        (try clear HO_219005)
        (try clear BK216)
        (try clear BK218)
        (try clear HI217)
        (try clear HB)
        generalize (w58.setCell ⟨gb218, 7, none⟩ (.bool (t258 == 1))) = w61 at n0_ n1_ n2_ n3_ n4_ ⊢
        have HO_219005 := n0_
        have BK216 := n1_
        have BK218 := n2_
        have HI217 := n3_
        have HB := n4_
        clear n0_ n1_ n2_ n3_ n4_
        have H := HC53.out
        clear HC53
        simp only [Option.some.injEq, Prod.mk.injEq] at H
        obtain ⟨rfl, rfl, rfl, rfl, rfl, rfl, rfl, rfl, rfl⟩ := H
        have hnb62 := NB216_218.out
        have hnc62 := NB218_216.out
        have hnb63 := NB216_217.out
        have hnc63 := NB217_216.out
        obtain ⟨hcz64_0, hcz64_1, hcz64_2, hcz64_3, hcz64_4, hcz64_5, hcz64_6, hcz64_7⟩ := cz8_ BK216
        obtain ⟨hfz64_0, hfz64_1, hfz64_2, hfz64_3, hfz64_4, hfz64_5, hfz64_6, hfz64_7⟩ := fz8_ BK216
        go_wp2
        refine bodyPost_ret (results_ct rfl _ _ gb216 24 #[.int .i64 0, .int .i64 0, .int .i64 0, .int .i64 0, .int .i64 0, .slice none 0 0, .int .i64 0, .bool false] (0, 0) _ rfl (by refine bz_ ?_; refine blk_put (cs := #[.int .i64 0, .int .i64 0, .int .i64 0, .int .i64 0, .int .i64 0, .slice none 0 0, .int .i64 0, .bool false]) ?_ 7 _ rfl; refine bz_ ?_; refine blk_put (cs := #[.int .i64 0, .int .i64 0, .int .i64 0, .int .i64 0, .int .i64 0, .slice none 0 0, .int .i64 0, .bool false]) ?_ 6 _ rfl; refine bz_ ?_; refine blk_put (cs := #[.int .i64 0, .int .i64 0, .int .i64 0, .int .i64 0, .int .i64 0, .slice none 0 0, .int .i64 0, .bool false]) ?_ 5 _ rfl; refine bz_ ?_; refine blk_put (cs := #[.int .i64 0, .int .i64 0, .int .i64 0, .int .i64 0, .int .i64 0, .slice none 0 0, .int .i64 0, .bool false]) ?_ 4 _ rfl; refine bz_ ?_; refine blk_put (cs := #[.int .i64 0, .int .i64 0, .int .i64 0, .int .i64 0, .int .i64 0, .slice none 0 0, .int .i64 0, .bool false]) ?_ 3 _ rfl; refine bz_ ?_; refine blk_put (cs := #[.int .i64 0, .int .i64 0, .int .i64 0, .int .i64 0, .int .i64 0, .slice none 0 0, .int .i64 0, .bool false]) ?_ 2 _ rfl; refine bz_ ?_; refine blk_put (cs := #[.int .i64 0, .int .i64 0, .int .i64 0, .int .i64 0, .int .i64 0, .slice none 0 0, .int .i64 0, .bool false]) ?_ 1 _ rfl; refine bz_ ?_; refine blk_put (cs := #[.int .i64 0, .int .i64 0, .int .i64 0, .int .i64 0, .int .i64 0, .slice none 0 0, .int .i64 0, .bool false]) ?_ 0 _ rfl; refine bz_ ?_; exact BK216.out) Try.underlying24 rfl (by kernel_rfl)) rfl ?_
        exact ⟨_, er_q, by first | exact Kd.R_nil _ _ _ _ _ | exact Kd.N_nil _ _ _ _ _ | exact Kd.V_nil _ _ _ _ _ | exact Kd.Q_nil _ _ _ _ _ | exact Kd.S_nil _ _ _ _ _, by repeat (first | (with_reducible first | exact HB.out | apply below_alloc | apply pw_below_drewN | apply below_drew1 | refine below_set ?_ (IsS66.ge HI217.out) | refine below_set ?_ GE216.out | refine below_set ?_ GE218.out) | exact HB.out)⟩
       ·rw [if_neg c52] at H
        have c52b0 : decide (1 < t258) = false := decide_eq_false c52
        clear c52
        by_cases c65 : t260 = (a0.size : Int)
        ·rw [if_pos c65] at H
         have c65b0 : (t260 == (a0.size : Int)) = true := beq_iff_eq.mpr c65
         have c65b1 : (t260 != (a0.size : Int)) = false := bne_eq_false_iff_eq.mpr c65
         clear c65
         replace H := Option.bind_eq_some_iff.mp H
         obtain ⟨t262, A660, H⟩ := H
         replace H : (if t262 = true then (some (t219, t223, t227, t231, t235, x219005_1, t254, (t258 == 1), true)) else (some (0, 0, 0, 0, 0, ([] : List (S63)), 0, false, false))) = some (r1, r2, r3, r4, r5, r6, r7, r8, r9) := H
         have A66 := Aside0.mk A660
         clear A660
         have HC67 := Aside0.mk H
         clear H
         go_upto_if 80 with (first | ((with_reducible refine gate_callee (f := 42) rfl ?_); refine goesL_ (some 52) rfl rfl Try.func42 (by kernel_rfl) rfl #[.pointer (some ⟨gb217, 0, none⟩)] rfl mp_q ?_; (with_reducible refine (impl_reader_num.calls kj23 gb217 x218000_1 x218001_1 x218002_1 t254 t255 t256 t257 w _ ?side1 ?side2 A37.out).mono ?_); (case side1 => repeat (first | (with_reducible first | exact HI217.out | apply IsS66.alloc | apply IsS66.drewN | apply IsS66.drew | apply IsS66.set_0 | apply IsS66.set_1 | apply IsS66.set_2 | refine IsS66.far ?_ NB217_216.out _ | refine IsS66.far ?_ NB217_218.out _) | exact HI217.out)); (case side2 => repeat (first | (with_reducible first | exact HB.out | apply below_alloc | apply pw_below_drewN | apply below_drew1 | refine below_set ?_ (IsS66.ge HI217.out) | refine below_set ?_ GE216.out | refine below_set ?_ GE218.out) | exact HB.out)); rintro e w68 ⟨rfl, hi, hb, hk⟩; refine ⟨_, rfl, ?_⟩; replace HO_219005 := Aside0.mk (Kd.R_mono (Kd.R_keep (IsS66.apart (show IsS66 w _ gb217 x218000_1 x218001_1 x218002_1 from by repeat (first | (with_reducible first | exact HI217.out | apply IsS66.alloc | apply IsS66.drewN | apply IsS66.drew | apply IsS66.set_0 | apply IsS66.set_1 | apply IsS66.set_2 | refine IsS66.far ?_ NB217_216.out _ | refine IsS66.far ?_ NB217_218.out _) | exact HI217.out)) (kR_q HO_219005) (by decide)) hk (fun _ h => h.2)) (fun _ h => h.1)); replace BK216 := Aside0.mk (KeepBut.blk hk (g' := gb216) (o := .cells #[.int .i64 0, .int .i64 0, .int .i64 0, .int .i64 0, .int .i64 0, .slice none 0 0, .int .i64 0, .bool false] 24 (0, 0)) (bk_q BK216) NB216_217.out (by simp)); replace BK218 := Aside0.mk (KeepBut.blk hk (g' := gb218) (o := .cells #[.int .i64 t219, .int .i64 t223, .int .i64 t227, .int .i64 t231, .int .i64 t235, u219005, .int .i64 0, .bool false] 24 (0, 0)) (bk_q BK218) NB218_217.out (by simp)); replace HB := Aside0.mk (hb); replace HI217 := Aside0.mk (hi); (try clear hb); (try clear hb2); (try clear hk); (try clear hi); have hnb69 := NB218_216.out; have hnc69 := NB216_218.out; have hnb70 := NB218_217.out; have hnc70 := NB217_218.out; have hcz71_0 : w68.cell? ⟨gb218, 0, none⟩ = some (.int .i64 t219) := (blk_cell BK218.out 0).trans rfl; have hcz71_1 : w68.cell? ⟨gb218, 1, none⟩ = some (.int .i64 t223) := (blk_cell BK218.out 1).trans rfl; have hcz71_2 : w68.cell? ⟨gb218, 2, none⟩ = some (.int .i64 t227) := (blk_cell BK218.out 2).trans rfl; have hcz71_3 : w68.cell? ⟨gb218, 3, none⟩ = some (.int .i64 t231) := (blk_cell BK218.out 3).trans rfl; have hcz71_4 : w68.cell? ⟨gb218, 4, none⟩ = some (.int .i64 t235) := (blk_cell BK218.out 4).trans rfl; have hcz71_5 : w68.cell? ⟨gb218, 5, none⟩ = some (u219005) := (blk_cell BK218.out 5).trans rfl; have hcz71_6 : w68.cell? ⟨gb218, 6, none⟩ = some (.int .i64 0) := (blk_cell BK218.out 6).trans rfl; have hcz71_7 : w68.cell? ⟨gb218, 7, none⟩ = some (.bool false) := (blk_cell BK218.out 7).trans rfl; have hfz71_0 := blk_frozen BK218.out 0; have hfz71_1 := blk_frozen BK218.out 1; have hfz71_2 := blk_frozen BK218.out 2; have hfz71_3 := blk_frozen BK218.out 3; have hfz71_4 := blk_frozen BK218.out 4; have hfz71_5 := blk_frozen BK218.out 5; have hfz71_6 := blk_frozen BK218.out 6; have hfz71_7 := blk_frozen BK218.out 7) | ((with_reducible refine gate_callee (f := 41) rfl ?_); refine goesL_ (some 55) rfl rfl Try.func41 (by kernel_rfl) rfl #[.pointer (some ⟨gb217, 0, none⟩)] rfl mp_q ?_; (with_reducible refine (impl_reader_one.calls gb217 t255 t256 t257 t258 t259 t260 false w _ ?side1 ?side2 A38.out).mono ?_); (case side1 => repeat (first | (with_reducible first | exact HI217.out | apply IsS66.alloc | apply IsS66.drewN | apply IsS66.drew | apply IsS66.set_0 | apply IsS66.set_1 | apply IsS66.set_2 | refine IsS66.far ?_ NB217_216.out _ | refine IsS66.far ?_ NB217_218.out _) | exact HI217.out)); (case side2 => repeat (first | (with_reducible first | exact HB.out | apply below_alloc | apply pw_below_drewN | apply below_drew1 | refine below_set ?_ (IsS66.ge HI217.out) | refine below_set ?_ GE216.out | refine below_set ?_ GE218.out) | exact HB.out)); rintro e w72 ⟨rfl, hi, hb, hk⟩; refine ⟨_, rfl, ?_⟩; replace HO_219005 := Aside0.mk (Kd.R_mono (Kd.R_keep (IsS66.apart (show IsS66 w _ gb217 t255 t256 t257 from by repeat (first | (with_reducible first | exact HI217.out | apply IsS66.alloc | apply IsS66.drewN | apply IsS66.drew | apply IsS66.set_0 | apply IsS66.set_1 | apply IsS66.set_2 | refine IsS66.far ?_ NB217_216.out _ | refine IsS66.far ?_ NB217_218.out _) | exact HI217.out)) (by (with_reducible repeat (first | apply Kd.R_alloc | apply Kd.R_drewN | apply Kd.R_drew)); exact (Kd.R_mono (Kd.R_far (p := ⟨gb218, 6, none⟩) (Kd.R_types HO_219005.out BK218.out (by decide)) (fun _ hk => hk.2) (.int .i64 t254)) (fun _ h_ => h_.1))) (by decide)) hk (fun _ h => h.2)) (fun _ h => h.1)); replace BK216 := Aside0.mk (KeepBut.blk hk (g' := gb216) (o := .cells #[.int .i64 0, .int .i64 0, .int .i64 0, .int .i64 0, .int .i64 0, .slice none 0 0, .int .i64 0, .bool false] 24 (0, 0)) (by refine bz_ ?_; refine blk_far ?_ NB216_218.out _; refine bz_ ?_; exact BK216.out) NB216_217.out (by simp)); replace BK218 := Aside0.mk (KeepBut.blk hk (g' := gb218) (o := .cells #[.int .i64 t219, .int .i64 t223, .int .i64 t227, .int .i64 t231, .int .i64 t235, u219005, .int .i64 t254, .bool false] 24 (0, 0)) (by refine bz_ ?_; refine blk_put (cs := #[.int .i64 t219, .int .i64 t223, .int .i64 t227, .int .i64 t231, .int .i64 t235, u219005, .int .i64 0, .bool false]) ?_ 6 _ rfl; refine bz_ ?_; exact BK218.out) NB218_217.out (by simp)); replace HB := Aside0.mk (hb); replace HI217 := Aside0.mk (hi); (try clear hb); (try clear hb2); (try clear hk); (try clear hi); have hcz73_0 : w72.cell? ⟨gb218, 0, none⟩ = some (.int .i64 t219) := (blk_cell BK218.out 0).trans rfl; have hcz73_1 : w72.cell? ⟨gb218, 1, none⟩ = some (.int .i64 t223) := (blk_cell BK218.out 1).trans rfl; have hcz73_2 : w72.cell? ⟨gb218, 2, none⟩ = some (.int .i64 t227) := (blk_cell BK218.out 2).trans rfl; have hcz73_3 : w72.cell? ⟨gb218, 3, none⟩ = some (.int .i64 t231) := (blk_cell BK218.out 3).trans rfl; have hcz73_4 : w72.cell? ⟨gb218, 4, none⟩ = some (.int .i64 t235) := (blk_cell BK218.out 4).trans rfl; have hcz73_5 : w72.cell? ⟨gb218, 5, none⟩ = some (u219005) := (blk_cell BK218.out 5).trans rfl; have hcz73_6 : w72.cell? ⟨gb218, 6, none⟩ = some (.int .i64 t254) := (blk_cell BK218.out 6).trans rfl; have hcz73_7 : w72.cell? ⟨gb218, 7, none⟩ = some (.bool false) := (blk_cell BK218.out 7).trans rfl; have hfz73_0 := blk_frozen BK218.out 0; have hfz73_1 := blk_frozen BK218.out 1; have hfz73_2 := blk_frozen BK218.out 2; have hfz73_3 := blk_frozen BK218.out 3; have hfz73_4 := blk_frozen BK218.out 4; have hfz73_5 := blk_frozen BK218.out 5; have hfz73_6 := blk_frozen BK218.out 6; have hfz73_7 := blk_frozen BK218.out 7; obtain ⟨HGz74, hgz74⟩ := HI217.out; have hcz74_0 := cellS66_0 HGz74; have hcz74_1 := cellS66_1 HGz74; have hcz74_2 := cellS66_2 HGz74; have hfz74_0 := blk_frozen HGz74 0; have hfz74_1 := blk_frozen HGz74 1; have hfz74_2 := blk_frozen HGz74 2; clear HGz74 hgz74; obtain ⟨Ao75, co75, eo75⟩ := Kd.R_slice HO_219005.out; subst eo75) | (go_at_call 27; (with_reducible refine (impl_RecordOk.calls kj23 t219 t223 t227 t231 t235 _ _ x219005_1 t254 (t258 == 1) t262 _ ?side1 ?side2 A66.out).mono ?_); (case side1 => refine (Kd.R_reads' (e := 63) (base := w.heap.size) (ok := fun k_ => True) (n := x219005_1.length) (c := co75) ?_).2.2; exact (by (with_reducible repeat (first | apply Kd.R_alloc | apply Kd.R_drewN | apply Kd.R_drew)); exact (Kd.R_mono (Kd.R_far (p := ⟨gb218, 7, none⟩) (Kd.R_types HO_219005.out BK218.out (by decide)) (fun _ hk => hk.2) (.bool (t258 == 1))) (fun _ h_ => h_.1)))); (case side2 => exact (Kd.R_reads' HO_219005.out).2.1); rintro e w76 ⟨rfl, hb⟩; replace HO_219005 := Aside0.mk (Kd.R_below (by (with_reducible repeat (first | apply Kd.R_alloc | apply Kd.R_drewN | apply Kd.R_drew)); exact (Kd.R_mono (Kd.R_far (p := ⟨gb218, 7, none⟩) (Kd.R_types HO_219005.out BK218.out (by decide)) (fun _ hk => hk.2) (.bool (t258 == 1))) (fun _ h_ => h_.1))) hb); replace BK216 := Aside0.mk (blk_below (g := gb216) (o := .cells #[.int .i64 0, .int .i64 0, .int .i64 0, .int .i64 0, .int .i64 0, .slice none 0 0, .int .i64 0, .bool false] 24 (0, 0)) (by refine bz_ ?_; refine blk_far ?_ NB216_218.out _; refine bz_ ?_; exact BK216.out) hb); replace BK218 := Aside0.mk (blk_below (g := gb218) (o := .cells #[.int .i64 t219, .int .i64 t223, .int .i64 t227, .int .i64 t231, .int .i64 t235, .slice Ao75 x219005_1.length co75, .int .i64 t254, .bool (t258 == 1)] 24 (0, 0)) (by refine bz_ ?_; refine blk_put (cs := #[.int .i64 t219, .int .i64 t223, .int .i64 t227, .int .i64 t231, .int .i64 t235, .slice Ao75 x219005_1.length co75, .int .i64 t254, .bool false]) ?_ 7 _ rfl; refine bz_ ?_; exact BK218.out) hb); replace HB := Aside0.mk (below_step (by repeat (first | (with_reducible first | exact HB.out | apply below_alloc | apply pw_below_drewN | apply below_drew1 | refine below_set ?_ (IsS66.ge HI217.out) | refine below_set ?_ GE216.out | refine below_set ?_ GE218.out) | exact HB.out)) hb); replace HI217 := Aside0.mk (IsS66.below (show IsS66 w (w72.setCell ⟨gb218, 7, none⟩ (.bool (t258 == 1))) gb217 t259 t260 false from by repeat (first | (with_reducible first | exact HI217.out | apply IsS66.alloc | apply IsS66.drewN | apply IsS66.drew | apply IsS66.set_0 | apply IsS66.set_1 | apply IsS66.set_2 | refine IsS66.far ?_ NB217_216.out _ | refine IsS66.far ?_ NB217_218.out _) | exact HI217.out)) hb); (try clear hb); (try clear hb2); (try clear hk); (try clear hi)))
         have H := HC67.out
         clear HC67
         by_cases c77 : t262 = true
         ·subst c77
          have H1 : (some (t219, t223, t227, t231, t235, x219005_1, t254, (t258 == 1), true)) = some (r1, r2, r3, r4, r5, r6, r7, r8, r9) := by rw [if_pos rfl] at H; exact H
          clear H
          have H := H1
          clear H1
          simp only [Option.some.injEq, Prod.mk.injEq] at H
          obtain ⟨rfl, rfl, rfl, rfl, rfl, rfl, rfl, rfl, rfl⟩ := H
          have hnb78 := NB218_216.out
          have hnc78 := NB216_218.out
          have hnb79 := NB218_217.out
          have hnc79 := NB217_218.out
          obtain ⟨hcz80_0, hcz80_1, hcz80_2, hcz80_3, hcz80_4, hcz80_5, hcz80_6, hcz80_7⟩ := cz8_ BK218
          obtain ⟨hfz80_0, hfz80_1, hfz80_2, hfz80_3, hfz80_4, hfz80_5, hfz80_6, hfz80_7⟩ := fz8_ BK218
          have hnb81 := NB216_217.out
          have hnc81 := NB217_216.out
          obtain ⟨hcz82_0, hcz82_1, hcz82_2, hcz82_3, hcz82_4, hcz82_5, hcz82_6, hcz82_7⟩ := cz8_ BK216
          obtain ⟨hfz82_0, hfz82_1, hfz82_2, hfz82_3, hfz82_4, hfz82_5, hfz82_6, hfz82_7⟩ := fz8_ BK216
          go_wp2
          refine bodyPost_ret (results_ct rfl _ _ gb216 24 #[.int .i64 t219, .int .i64 t223, .int .i64 t227, .int .i64 t231, .int .i64 t235, .slice Ao75 x219005_1.length co75, .int .i64 t254, .bool (t258 == 1)] (0, 0) _ rfl (by refine bz_ ?_; refine blk_put (cs := #[.int .i64 t219, .int .i64 t223, .int .i64 t227, .int .i64 t231, .int .i64 t235, .slice Ao75 x219005_1.length co75, .int .i64 t254, .bool false]) ?_ 7 _ rfl; refine bz_ ?_; refine blk_put (cs := #[.int .i64 t219, .int .i64 t223, .int .i64 t227, .int .i64 t231, .int .i64 t235, .slice Ao75 x219005_1.length co75, .int .i64 0, .bool false]) ?_ 6 _ rfl; refine bz_ ?_; refine blk_put (cs := #[.int .i64 t219, .int .i64 t223, .int .i64 t227, .int .i64 t231, .int .i64 t235, .slice none 0 0, .int .i64 0, .bool false]) ?_ 5 _ rfl; refine bz_ ?_; refine blk_put (cs := #[.int .i64 t219, .int .i64 t223, .int .i64 t227, .int .i64 t231, .int .i64 0, .slice none 0 0, .int .i64 0, .bool false]) ?_ 4 _ rfl; refine bz_ ?_; refine blk_put (cs := #[.int .i64 t219, .int .i64 t223, .int .i64 t227, .int .i64 0, .int .i64 0, .slice none 0 0, .int .i64 0, .bool false]) ?_ 3 _ rfl; refine bz_ ?_; refine blk_put (cs := #[.int .i64 t219, .int .i64 t223, .int .i64 0, .int .i64 0, .int .i64 0, .slice none 0 0, .int .i64 0, .bool false]) ?_ 2 _ rfl; refine bz_ ?_; refine blk_put (cs := #[.int .i64 t219, .int .i64 0, .int .i64 0, .int .i64 0, .int .i64 0, .slice none 0 0, .int .i64 0, .bool false]) ?_ 1 _ rfl; refine bz_ ?_; refine blk_put (cs := #[.int .i64 0, .int .i64 0, .int .i64 0, .int .i64 0, .int .i64 0, .slice none 0 0, .int .i64 0, .bool false]) ?_ 0 _ rfl; refine bz_ ?_; exact BK216.out) Try.underlying24 rfl (by kernel_rfl)) rfl ?_
          exact ⟨_, er_q, by (with_reducible repeat (first | apply Kd.R_alloc | apply Kd.R_drewN | apply Kd.R_drew)); exact Kd.R_mono (Kd.R_far (p := ⟨gb216, 7, none⟩) (Kd.R_far (p := ⟨gb216, 6, none⟩) (Kd.R_far (p := ⟨gb216, 5, none⟩) (Kd.R_far (p := ⟨gb216, 4, none⟩) (Kd.R_far (p := ⟨gb216, 3, none⟩) (Kd.R_far (p := ⟨gb216, 2, none⟩) (Kd.R_far (p := ⟨gb216, 1, none⟩) (Kd.R_far (p := ⟨gb216, 0, none⟩) (Kd.R_types HO_219005.out BK216.out (by decide)) (fun _ hk => hk.2) (.int .i64 t219)) (fun _ hk => hk.2) (.int .i64 t223)) (fun _ hk => hk.2) (.int .i64 t227)) (fun _ hk => hk.2) (.int .i64 t231)) (fun _ hk => hk.2) (.int .i64 t235)) (fun _ hk => hk.2) (.slice Ao75 x219005_1.length co75)) (fun _ hk => hk.2) (.int .i64 t254)) (fun _ hk => hk.2) (.bool (t258 == 1))) (fun _ hk => trivial), by repeat (first | (with_reducible first | exact HB.out | apply below_alloc | apply pw_below_drewN | apply below_drew1 | refine below_set ?_ (IsS66.ge HI217.out) | refine below_set ?_ GE216.out | refine below_set ?_ GE218.out) | exact HB.out)⟩
         ·replace c77 := Bool.eq_false_iff.mpr c77
          subst c77
          have H1 : (some (0, 0, 0, 0, 0, ([] : List (S63)), 0, false, false)) = some (r1, r2, r3, r4, r5, r6, r7, r8, r9) := by rw [if_neg (show ¬ (false = true) by decide)] at H; exact H
          clear H
          have H := H1
          clear H1
          simp only [Option.some.injEq, Prod.mk.injEq] at H
          obtain ⟨rfl, rfl, rfl, rfl, rfl, rfl, rfl, rfl, rfl⟩ := H
          have hnb83 := NB216_218.out
          have hnc83 := NB218_216.out
          have hnb84 := NB216_217.out
          have hnc84 := NB217_216.out
          obtain ⟨hcz85_0, hcz85_1, hcz85_2, hcz85_3, hcz85_4, hcz85_5, hcz85_6, hcz85_7⟩ := cz8_ BK216
          obtain ⟨hfz85_0, hfz85_1, hfz85_2, hfz85_3, hfz85_4, hfz85_5, hfz85_6, hfz85_7⟩ := fz8_ BK216
          go_wp2
          refine bodyPost_ret (results_ct rfl _ _ gb216 24 #[.int .i64 0, .int .i64 0, .int .i64 0, .int .i64 0, .int .i64 0, .slice none 0 0, .int .i64 0, .bool false] (0, 0) _ rfl (by refine bz_ ?_; refine blk_put (cs := #[.int .i64 0, .int .i64 0, .int .i64 0, .int .i64 0, .int .i64 0, .slice none 0 0, .int .i64 0, .bool false]) ?_ 7 _ rfl; refine bz_ ?_; refine blk_put (cs := #[.int .i64 0, .int .i64 0, .int .i64 0, .int .i64 0, .int .i64 0, .slice none 0 0, .int .i64 0, .bool false]) ?_ 6 _ rfl; refine bz_ ?_; refine blk_put (cs := #[.int .i64 0, .int .i64 0, .int .i64 0, .int .i64 0, .int .i64 0, .slice none 0 0, .int .i64 0, .bool false]) ?_ 5 _ rfl; refine bz_ ?_; refine blk_put (cs := #[.int .i64 0, .int .i64 0, .int .i64 0, .int .i64 0, .int .i64 0, .slice none 0 0, .int .i64 0, .bool false]) ?_ 4 _ rfl; refine bz_ ?_; refine blk_put (cs := #[.int .i64 0, .int .i64 0, .int .i64 0, .int .i64 0, .int .i64 0, .slice none 0 0, .int .i64 0, .bool false]) ?_ 3 _ rfl; refine bz_ ?_; refine blk_put (cs := #[.int .i64 0, .int .i64 0, .int .i64 0, .int .i64 0, .int .i64 0, .slice none 0 0, .int .i64 0, .bool false]) ?_ 2 _ rfl; refine bz_ ?_; refine blk_put (cs := #[.int .i64 0, .int .i64 0, .int .i64 0, .int .i64 0, .int .i64 0, .slice none 0 0, .int .i64 0, .bool false]) ?_ 1 _ rfl; refine bz_ ?_; refine blk_put (cs := #[.int .i64 0, .int .i64 0, .int .i64 0, .int .i64 0, .int .i64 0, .slice none 0 0, .int .i64 0, .bool false]) ?_ 0 _ rfl; refine bz_ ?_; exact BK216.out) Try.underlying24 rfl (by kernel_rfl)) rfl ?_
          exact ⟨_, er_q, by first | exact Kd.R_nil _ _ _ _ _ | exact Kd.N_nil _ _ _ _ _ | exact Kd.V_nil _ _ _ _ _ | exact Kd.Q_nil _ _ _ _ _ | exact Kd.S_nil _ _ _ _ _, by repeat (first | (with_reducible first | exact HB.out | apply below_alloc | apply pw_below_drewN | apply below_drew1 | refine below_set ?_ (IsS66.ge HI217.out) | refine below_set ?_ GE216.out | refine below_set ?_ GE218.out) | exact HB.out)⟩
        ·rw [if_neg c65] at H
         have c65b0 : (t260 == (a0.size : Int)) = false := beq_eq_false_iff_ne.mpr c65
         have c65b1 : (t260 != (a0.size : Int)) = true := bne_iff_ne.mpr c65
         have HC86 := Aside0.mk H
         clear H
         go_upto_if 80 with (first | ((with_reducible refine gate_callee (f := 42) rfl ?_); refine goesL_ (some 52) rfl rfl Try.func42 (by kernel_rfl) rfl #[.pointer (some ⟨gb217, 0, none⟩)] rfl mp_q ?_; (with_reducible refine (impl_reader_num.calls kj23 gb217 x218000_1 x218001_1 x218002_1 t254 t255 t256 t257 w _ ?side1 ?side2 A37.out).mono ?_); (case side1 => repeat (first | (with_reducible first | exact HI217.out | apply IsS66.alloc | apply IsS66.drewN | apply IsS66.drew | apply IsS66.set_0 | apply IsS66.set_1 | apply IsS66.set_2 | refine IsS66.far ?_ NB217_216.out _ | refine IsS66.far ?_ NB217_218.out _) | exact HI217.out)); (case side2 => repeat (first | (with_reducible first | exact HB.out | apply below_alloc | apply pw_below_drewN | apply below_drew1 | refine below_set ?_ (IsS66.ge HI217.out) | refine below_set ?_ GE216.out | refine below_set ?_ GE218.out) | exact HB.out)); rintro e w87 ⟨rfl, hi, hb, hk⟩; refine ⟨_, rfl, ?_⟩; replace HO_219005 := Aside0.mk (Kd.R_mono (Kd.R_keep (IsS66.apart (show IsS66 w _ gb217 x218000_1 x218001_1 x218002_1 from by repeat (first | (with_reducible first | exact HI217.out | apply IsS66.alloc | apply IsS66.drewN | apply IsS66.drew | apply IsS66.set_0 | apply IsS66.set_1 | apply IsS66.set_2 | refine IsS66.far ?_ NB217_216.out _ | refine IsS66.far ?_ NB217_218.out _) | exact HI217.out)) (kR_q HO_219005) (by decide)) hk (fun _ h => h.2)) (fun _ h => h.1)); replace BK216 := Aside0.mk (KeepBut.blk hk (g' := gb216) (o := .cells #[.int .i64 0, .int .i64 0, .int .i64 0, .int .i64 0, .int .i64 0, .slice none 0 0, .int .i64 0, .bool false] 24 (0, 0)) (bk_q BK216) NB216_217.out (by simp)); replace BK218 := Aside0.mk (KeepBut.blk hk (g' := gb218) (o := .cells #[.int .i64 t219, .int .i64 t223, .int .i64 t227, .int .i64 t231, .int .i64 t235, u219005, .int .i64 0, .bool false] 24 (0, 0)) (bk_q BK218) NB218_217.out (by simp)); replace HB := Aside0.mk (hb); replace HI217 := Aside0.mk (hi); (try clear hb); (try clear hb2); (try clear hk); (try clear hi); have hnb88 := NB218_216.out; have hnc88 := NB216_218.out; have hnb89 := NB218_217.out; have hnc89 := NB217_218.out; have hcz90_0 : w87.cell? ⟨gb218, 0, none⟩ = some (.int .i64 t219) := (blk_cell BK218.out 0).trans rfl; have hcz90_1 : w87.cell? ⟨gb218, 1, none⟩ = some (.int .i64 t223) := (blk_cell BK218.out 1).trans rfl; have hcz90_2 : w87.cell? ⟨gb218, 2, none⟩ = some (.int .i64 t227) := (blk_cell BK218.out 2).trans rfl; have hcz90_3 : w87.cell? ⟨gb218, 3, none⟩ = some (.int .i64 t231) := (blk_cell BK218.out 3).trans rfl; have hcz90_4 : w87.cell? ⟨gb218, 4, none⟩ = some (.int .i64 t235) := (blk_cell BK218.out 4).trans rfl; have hcz90_5 : w87.cell? ⟨gb218, 5, none⟩ = some (u219005) := (blk_cell BK218.out 5).trans rfl; have hcz90_6 : w87.cell? ⟨gb218, 6, none⟩ = some (.int .i64 0) := (blk_cell BK218.out 6).trans rfl; have hcz90_7 : w87.cell? ⟨gb218, 7, none⟩ = some (.bool false) := (blk_cell BK218.out 7).trans rfl; have hfz90_0 := blk_frozen BK218.out 0; have hfz90_1 := blk_frozen BK218.out 1; have hfz90_2 := blk_frozen BK218.out 2; have hfz90_3 := blk_frozen BK218.out 3; have hfz90_4 := blk_frozen BK218.out 4; have hfz90_5 := blk_frozen BK218.out 5; have hfz90_6 := blk_frozen BK218.out 6; have hfz90_7 := blk_frozen BK218.out 7) | ((with_reducible refine gate_callee (f := 41) rfl ?_); refine goesL_ (some 55) rfl rfl Try.func41 (by kernel_rfl) rfl #[.pointer (some ⟨gb217, 0, none⟩)] rfl mp_q ?_; (with_reducible refine (impl_reader_one.calls gb217 t255 t256 t257 t258 t259 t260 false w _ ?side1 ?side2 A38.out).mono ?_); (case side1 => repeat (first | (with_reducible first | exact HI217.out | apply IsS66.alloc | apply IsS66.drewN | apply IsS66.drew | apply IsS66.set_0 | apply IsS66.set_1 | apply IsS66.set_2 | refine IsS66.far ?_ NB217_216.out _ | refine IsS66.far ?_ NB217_218.out _) | exact HI217.out)); (case side2 => repeat (first | (with_reducible first | exact HB.out | apply below_alloc | apply pw_below_drewN | apply below_drew1 | refine below_set ?_ (IsS66.ge HI217.out) | refine below_set ?_ GE216.out | refine below_set ?_ GE218.out) | exact HB.out)); rintro e w91 ⟨rfl, hi, hb, hk⟩; refine ⟨_, rfl, ?_⟩; replace HO_219005 := Aside0.mk (Kd.R_mono (Kd.R_keep (IsS66.apart (show IsS66 w _ gb217 t255 t256 t257 from by repeat (first | (with_reducible first | exact HI217.out | apply IsS66.alloc | apply IsS66.drewN | apply IsS66.drew | apply IsS66.set_0 | apply IsS66.set_1 | apply IsS66.set_2 | refine IsS66.far ?_ NB217_216.out _ | refine IsS66.far ?_ NB217_218.out _) | exact HI217.out)) (by (with_reducible repeat (first | apply Kd.R_alloc | apply Kd.R_drewN | apply Kd.R_drew)); exact (Kd.R_mono (Kd.R_far (p := ⟨gb218, 6, none⟩) (Kd.R_types HO_219005.out BK218.out (by decide)) (fun _ hk => hk.2) (.int .i64 t254)) (fun _ h_ => h_.1))) (by decide)) hk (fun _ h => h.2)) (fun _ h => h.1)); replace BK216 := Aside0.mk (KeepBut.blk hk (g' := gb216) (o := .cells #[.int .i64 0, .int .i64 0, .int .i64 0, .int .i64 0, .int .i64 0, .slice none 0 0, .int .i64 0, .bool false] 24 (0, 0)) (by refine bz_ ?_; refine blk_far ?_ NB216_218.out _; refine bz_ ?_; exact BK216.out) NB216_217.out (by simp)); replace BK218 := Aside0.mk (KeepBut.blk hk (g' := gb218) (o := .cells #[.int .i64 t219, .int .i64 t223, .int .i64 t227, .int .i64 t231, .int .i64 t235, u219005, .int .i64 t254, .bool false] 24 (0, 0)) (by refine bz_ ?_; refine blk_put (cs := #[.int .i64 t219, .int .i64 t223, .int .i64 t227, .int .i64 t231, .int .i64 t235, u219005, .int .i64 0, .bool false]) ?_ 6 _ rfl; refine bz_ ?_; exact BK218.out) NB218_217.out (by simp)); replace HB := Aside0.mk (hb); replace HI217 := Aside0.mk (hi); (try clear hb); (try clear hb2); (try clear hk); (try clear hi); have hcz92_0 : w91.cell? ⟨gb218, 0, none⟩ = some (.int .i64 t219) := (blk_cell BK218.out 0).trans rfl; have hcz92_1 : w91.cell? ⟨gb218, 1, none⟩ = some (.int .i64 t223) := (blk_cell BK218.out 1).trans rfl; have hcz92_2 : w91.cell? ⟨gb218, 2, none⟩ = some (.int .i64 t227) := (blk_cell BK218.out 2).trans rfl; have hcz92_3 : w91.cell? ⟨gb218, 3, none⟩ = some (.int .i64 t231) := (blk_cell BK218.out 3).trans rfl; have hcz92_4 : w91.cell? ⟨gb218, 4, none⟩ = some (.int .i64 t235) := (blk_cell BK218.out 4).trans rfl; have hcz92_5 : w91.cell? ⟨gb218, 5, none⟩ = some (u219005) := (blk_cell BK218.out 5).trans rfl; have hcz92_6 : w91.cell? ⟨gb218, 6, none⟩ = some (.int .i64 t254) := (blk_cell BK218.out 6).trans rfl; have hcz92_7 : w91.cell? ⟨gb218, 7, none⟩ = some (.bool false) := (blk_cell BK218.out 7).trans rfl; have hfz92_0 := blk_frozen BK218.out 0; have hfz92_1 := blk_frozen BK218.out 1; have hfz92_2 := blk_frozen BK218.out 2; have hfz92_3 := blk_frozen BK218.out 3; have hfz92_4 := blk_frozen BK218.out 4; have hfz92_5 := blk_frozen BK218.out 5; have hfz92_6 := blk_frozen BK218.out 6; have hfz92_7 := blk_frozen BK218.out 7; obtain ⟨HGz93, hgz93⟩ := HI217.out; have hcz93_0 := cellS66_0 HGz93; have hcz93_1 := cellS66_1 HGz93; have hcz93_2 := cellS66_2 HGz93; have hfz93_0 := blk_frozen HGz93 0; have hfz93_1 := blk_frozen HGz93 1; have hfz93_2 := blk_frozen HGz93 2; clear HGz93 hgz93))
         have n0_ : Aside0 (Kd.R k63 63 (w91.setCell ⟨gb218, 7, none⟩ (.bool (t258 == 1))) w.heap.size (fun _ => True) u219005 x219005_1) := ⟨by (with_reducible repeat (first | apply Kd.R_alloc | apply Kd.R_drewN | apply Kd.R_drew)); exact Kd.R_mono (Kd.R_far (p := ⟨gb218, 7, none⟩) (Kd.R_types HO_219005.out BK218.out (by decide)) (fun _ hk => hk.2) (.bool (t258 == 1))) (fun _ hk => trivial)⟩
         have n1_ : Aside0 ((w91.setCell ⟨gb218, 7, none⟩ (.bool (t258 == 1))).heap[gb216]? = some (.cells #[.int .i64 0, .int .i64 0, .int .i64 0, .int .i64 0, .int .i64 0, .slice none 0 0, .int .i64 0, .bool false] 24 (0, 0))) := ⟨by refine bz_ ?_; refine blk_far ?_ NB216_218.out _; refine bz_ ?_; exact BK216.out⟩
         have n2_ : Aside0 ((w91.setCell ⟨gb218, 7, none⟩ (.bool (t258 == 1))).heap[gb218]? = some (.cells #[.int .i64 t219, .int .i64 t223, .int .i64 t227, .int .i64 t231, .int .i64 t235, u219005, .int .i64 t254, .bool (t258 == 1)] 24 (0, 0))) := ⟨by refine bz_ ?_; refine blk_put (cs := #[.int .i64 t219, .int .i64 t223, .int .i64 t227, .int .i64 t231, .int .i64 t235, u219005, .int .i64 t254, .bool false]) ?_ 7 _ rfl; refine bz_ ?_; exact BK218.out⟩
         have n3_ : Aside0 (IsS66 w (w91.setCell ⟨gb218, 7, none⟩ (.bool (t258 == 1))) gb217 t259 t260 false) := ⟨by repeat (first | (with_reducible first | exact HI217.out | apply IsS66.alloc | apply IsS66.drewN | apply IsS66.drew | apply IsS66.set_0 | apply IsS66.set_1 | apply IsS66.set_2 | refine IsS66.far ?_ NB217_216.out _ | refine IsS66.far ?_ NB217_218.out _) | exact HI217.out)⟩
         have n4_ : Aside0 (Below w.heap.size w (w91.setCell ⟨gb218, 7, none⟩ (.bool (t258 == 1)))) := ⟨by repeat (first | (with_reducible first | exact HB.out | apply below_alloc | apply pw_below_drewN | apply below_drew1 | refine below_set ?_ (IsS66.ge HI217.out) | refine below_set ?_ GE216.out | refine below_set ?_ GE218.out) | exact HB.out)⟩
         (try clear HO_219005)
         (try clear BK216)
         (try clear BK218)
         (try clear HI217)
         (try clear HB)
         generalize (w91.setCell ⟨gb218, 7, none⟩ (.bool (t258 == 1))) = w94 at n0_ n1_ n2_ n3_ n4_ ⊢
         have HO_219005 := n0_
         have BK216 := n1_
         have BK218 := n2_
         have HI217 := n3_
         have HB := n4_
         clear n0_ n1_ n2_ n3_ n4_
         have H := HC86.out
         clear HC86
         simp only [Option.some.injEq, Prod.mk.injEq] at H
         obtain ⟨rfl, rfl, rfl, rfl, rfl, rfl, rfl, rfl, rfl⟩ := H
         have hnb95 := NB216_218.out
         have hnc95 := NB218_216.out
         have hnb96 := NB216_217.out
         have hnc96 := NB217_216.out
         obtain ⟨hcz97_0, hcz97_1, hcz97_2, hcz97_3, hcz97_4, hcz97_5, hcz97_6, hcz97_7⟩ := cz8_ BK216
         obtain ⟨hfz97_0, hfz97_1, hfz97_2, hfz97_3, hfz97_4, hfz97_5, hfz97_6, hfz97_7⟩ := fz8_ BK216
         go_wp2
         refine bodyPost_ret (results_ct rfl _ _ gb216 24 #[.int .i64 0, .int .i64 0, .int .i64 0, .int .i64 0, .int .i64 0, .slice none 0 0, .int .i64 0, .bool false] (0, 0) _ rfl (by refine bz_ ?_; refine blk_put (cs := #[.int .i64 0, .int .i64 0, .int .i64 0, .int .i64 0, .int .i64 0, .slice none 0 0, .int .i64 0, .bool false]) ?_ 7 _ rfl; refine bz_ ?_; refine blk_put (cs := #[.int .i64 0, .int .i64 0, .int .i64 0, .int .i64 0, .int .i64 0, .slice none 0 0, .int .i64 0, .bool false]) ?_ 6 _ rfl; refine bz_ ?_; refine blk_put (cs := #[.int .i64 0, .int .i64 0, .int .i64 0, .int .i64 0, .int .i64 0, .slice none 0 0, .int .i64 0, .bool false]) ?_ 5 _ rfl; refine bz_ ?_; refine blk_put (cs := #[.int .i64 0, .int .i64 0, .int .i64 0, .int .i64 0, .int .i64 0, .slice none 0 0, .int .i64 0, .bool false]) ?_ 4 _ rfl; refine bz_ ?_; refine blk_put (cs := #[.int .i64 0, .int .i64 0, .int .i64 0, .int .i64 0, .int .i64 0, .slice none 0 0, .int .i64 0, .bool false]) ?_ 3 _ rfl; refine bz_ ?_; refine blk_put (cs := #[.int .i64 0, .int .i64 0, .int .i64 0, .int .i64 0, .int .i64 0, .slice none 0 0, .int .i64 0, .bool false]) ?_ 2 _ rfl; refine bz_ ?_; refine blk_put (cs := #[.int .i64 0, .int .i64 0, .int .i64 0, .int .i64 0, .int .i64 0, .slice none 0 0, .int .i64 0, .bool false]) ?_ 1 _ rfl; refine bz_ ?_; refine blk_put (cs := #[.int .i64 0, .int .i64 0, .int .i64 0, .int .i64 0, .int .i64 0, .slice none 0 0, .int .i64 0, .bool false]) ?_ 0 _ rfl; refine bz_ ?_; exact BK216.out) Try.underlying24 rfl (by kernel_rfl)) rfl ?_
         exact ⟨_, er_q, by first | exact Kd.R_nil _ _ _ _ _ | exact Kd.N_nil _ _ _ _ _ | exact Kd.V_nil _ _ _ _ _ | exact Kd.Q_nil _ _ _ _ _ | exact Kd.S_nil _ _ _ _ _, by repeat (first | (with_reducible first | exact HB.out | apply below_alloc | apply pw_below_drewN | apply below_drew1 | refine below_set ?_ (IsS66.ge HI217.out) | refine below_set ?_ GE216.out | refine below_set ?_ GE218.out) | exact HB.out)⟩

end Go.Proofs.Ytnecbkognpponaa.Q
