import Derived.Test.YtnecbkognpponaaXPacketTextQlawstoNearS
import Derived.Test.YtnecbkognpponaaXPacketTextQimplPacketOk
import Derived.Test.YtnecbkognpponaaXPacketTextQimplShortText
import Derived.Test.YtnecbkognpponaaXPacketTextQlawseqRecord
import Derived.Test.YtnecbkognpponaaXPacketTextQspecl04Near
import Derived.Test.YtnecbkognpponaaXPacketTextQspecPacketText
/- A Go function as a Lean function, and its contract: for every input the Go code comes to what the Lean function tells. -/






namespace Go.Proofs.Ytnecbkognpponaa.Q
open Go.RowKit Go.Proofs.YtnecbkognpponaaW.PrintWords Go.Proofs.YtnecbkognpponaaW.PrintLast Go.Proofs.YtnecbkognpponaaW.PrintMore
attribute [local go_sem] max2_int min2_int max_two min_two max_three min_three max_four min_four   -- for this text's walks alone
set_option linter.unusedVariables false
set_option linter.unusedSimpArgs false

/-! ### impl_PacketText: function 17 -/
mutual
def impl_PacketText.l0 : Nat → ByteArray → List Int → Int → Int → Int → Int → Int → Int → List Int → List (S24) → Option (ByteArray × Bool)
 | 0, _, _, _, _, _, _, _, _, _, _ => none
 | k + 1, x6, x46, x47, x48, x590000, x590001, x590002, x590003, x590004, x590005 => if x48 < x47 then (if 0 ≤ x48 then (if x48 < (x46.length : Int) then ((some (([(rd x46 x48) % 256] : List Int) : List Int)).bind fun y597 => (if x6.size + (strOfNums y597).size ≤ 9223372036854775807 then (impl_PacketText.l0 k (x6 ++ (strOfNums y597)) x46 x47 (wrap64 (x48 + 1)) x590000 x590001 x590002 x590003 x590004 x590005) else (none))) else (none)) else (none)) else ((impl_VarText.f k (x590005.length : Int)).bind fun bt600 => (if x6.size + bt600.1.size ≤ 9223372036854775807 then (impl_PacketText.l1 k (x6 ++ bt600.1) x590005 (x590005.length : Int) 0) else (none)))
def impl_PacketText.l1 : Nat → ByteArray → List (S24) → Int → Int → Option (ByteArray × Bool)
 | 0, _, _, _, _ => none
 | k + 1, x6, x70, x71, x72 => if x72 < x71 then (if 0 ≤ x72 then (if x72 < (x70.length : Int) then ((impl_RecordText.f k ((rd_T24 x70 x72).f0) ((rd_T24 x70 x72).f1) ((rd_T24 x70 x72).f2) ((rd_T24 x70 x72).f3) ((rd_T24 x70 x72).f4) ((rd_T24 x70 x72).f5) ((rd_T24 x70 x72).f6) ((rd_T24 x70 x72).f7)).bind fun bt606 => ((impl_ShortText.f k bt606.1).bind fun bt608 => (if bt608.2 = true then (if x6.size + bt608.1.size ≤ 9223372036854775807 then (impl_PacketText.l1 k (x6 ++ bt608.1) x70 x71 (wrap64 (x72 + 1))) else (none)) else (some ((⟨#[]⟩ : ByteArray), false))))) else (none)) else (none)) else ((impl_Sealed.f k x6).bind fun bt602 => (some (bt602.1, bt602.2)))
end
def impl_PacketText.f (k : Nat) (a0_0 : Int) (a0_1 : Int) (a0_2 : Int) (a0_3 : Int) (l0_4 : List Int) (l0_5 : List (S24)) : Option (ByteArray × Bool) := (impl_PacketOk.f k a0_0 a0_1 a0_2 a0_3 l0_4 l0_5).bind fun t590 => (if t590 = true then ((impl_VarText.f k (l0_4.length : Int)).bind fun bt591 => ((some (([(a0_0) % 256, (a0_1) % 256, (a0_2) % 256, (a0_3) % 256] : List Int) : List Int)).bind fun y593 => (if (strOfNums y593).size + bt591.1.size ≤ 9223372036854775807 then (impl_PacketText.l0 k ((strOfNums y593) ++ bt591.1) l0_4 (l0_4.length : Int) 0 a0_0 a0_1 a0_2 a0_3 l0_4 l0_5) else (none)))) else (some ((⟨#[]⟩ : ByteArray), false)))
theorem impl_PacketText.mono_l : ∀ k, (∀ y0 y1 y2 y3 y4 y5 y6 y7 y8 y9, LeO (impl_PacketText.l0 k y0 y1 y2 y3 y4 y5 y6 y7 y8 y9) (impl_PacketText.l0 (k + 1) y0 y1 y2 y3 y4 y5 y6 y7 y8 y9)) ∧ (∀ y0 y1 y2 y3, LeO (impl_PacketText.l1 k y0 y1 y2 y3) (impl_PacketText.l1 (k + 1) y0 y1 y2 y3))
 | 0 => ⟨fun _ _ _ _ _ _ _ _ _ _ r h => by simp [impl_PacketText.l0] at h, fun _ _ _ _ r h => by simp [impl_PacketText.l1] at h⟩
 | k + 1 => by
  obtain ⟨ih0, ih1⟩ := impl_PacketText.mono_l k
  refine ⟨?_, ?_⟩
  ·intro y0 y1 y2 y3 y4 y5 y6 y7 y8 y9
   unfold impl_PacketText.l0
   repeat' first
   | (with_reducible exact ih0 _ _ _ _ _ _ _ _ _ _)
   | (with_reducible exact ih1 _ _ _ _)
   | (with_reducible exact impl_PacketOk.mono _ _ _ _ _ _ _)
   | (with_reducible exact impl_RecordText.mono _ _ _ _ _ _ _ _ _)
   | (with_reducible exact impl_Sealed.mono _ _)
   | (with_reducible exact impl_ShortText.mono _ _)
   | (with_reducible exact impl_VarText.mono _ _)
   | (with_reducible exact LeO.refl _)
   | (with_reducible exact LeO.none _)
   | (with_reducible refine LeO.ite ?_ ?_)
   | (with_reducible refine LeO.bind ?_ (fun _ => ?_))
   | exact ih0 _ _ _ _ _ _ _ _ _ _
   | exact ih1 _ _ _ _
   | exact impl_PacketOk.mono _ _ _ _ _ _ _
   | exact impl_RecordText.mono _ _ _ _ _ _ _ _ _
   | exact impl_Sealed.mono _ _
   | exact impl_ShortText.mono _ _
   | exact impl_VarText.mono _ _
   | exact LeO.none _
   | refine LeO.ite ?_ ?_
   | refine LeO.bind ?_ (fun _ => ?_)
  ·intro y0 y1 y2 y3
   unfold impl_PacketText.l1
   repeat' first
   | (with_reducible exact ih0 _ _ _ _ _ _ _ _ _ _)
   | (with_reducible exact ih1 _ _ _ _)
   | (with_reducible exact impl_PacketOk.mono _ _ _ _ _ _ _)
   | (with_reducible exact impl_RecordText.mono _ _ _ _ _ _ _ _ _)
   | (with_reducible exact impl_Sealed.mono _ _)
   | (with_reducible exact impl_ShortText.mono _ _)
   | (with_reducible exact impl_VarText.mono _ _)
   | (with_reducible exact LeO.refl _)
   | (with_reducible exact LeO.none _)
   | (with_reducible refine LeO.ite ?_ ?_)
   | (with_reducible refine LeO.bind ?_ (fun _ => ?_))
   | exact ih0 _ _ _ _ _ _ _ _ _ _
   | exact ih1 _ _ _ _
   | exact impl_PacketOk.mono _ _ _ _ _ _ _
   | exact impl_RecordText.mono _ _ _ _ _ _ _ _ _
   | exact impl_Sealed.mono _ _
   | exact impl_ShortText.mono _ _
   | exact impl_VarText.mono _ _
   | exact LeO.none _
   | refine LeO.ite ?_ ?_
   | refine LeO.bind ?_ (fun _ => ?_)
theorem impl_PacketText.mono : ∀ a0 a1 a2 a3 a4 a5 k, LeO (impl_PacketText.f k a0 a1 a2 a3 a4 a5) (impl_PacketText.f (k + 1) a0 a1 a2 a3 a4 a5) := by
 intro a0 a1 a2 a3 a4 a5 k
 obtain ⟨ih0, ih1⟩ := impl_PacketText.mono_l k
 unfold impl_PacketText.f
 repeat' first
   | (with_reducible exact ih0 _ _ _ _ _ _ _ _ _ _)
   | (with_reducible exact ih1 _ _ _ _)
   | (with_reducible exact impl_PacketOk.mono _ _ _ _ _ _ _)
   | (with_reducible exact impl_RecordText.mono _ _ _ _ _ _ _ _ _)
   | (with_reducible exact impl_Sealed.mono _ _)
   | (with_reducible exact impl_ShortText.mono _ _)
   | (with_reducible exact impl_VarText.mono _ _)
   | (with_reducible exact LeO.refl _)
   | (with_reducible exact LeO.none _)
   | (with_reducible refine LeO.ite ?_ ?_)
   | (with_reducible refine LeO.bind ?_ (fun _ => ?_))
   | exact ih0 _ _ _ _ _ _ _ _ _ _
   | exact ih1 _ _ _ _
   | exact impl_PacketOk.mono _ _ _ _ _ _ _
   | exact impl_RecordText.mono _ _ _ _ _ _ _ _ _
   | exact impl_Sealed.mono _ _
   | exact impl_ShortText.mono _ _
   | exact impl_VarText.mono _ _
   | exact LeO.none _
   | refine LeO.ite ?_ ?_
   | refine LeO.bind ?_ (fun _ => ?_)
set_option maxHeartbeats 8000000 in
set_option maxRecDepth 100000 in
theorem impl_PacketText.calls (k : Nat) (a0_0 : Int) (a0_1 : Int) (a0_2 : Int) (a0_3 : Int) (A0_4 : Option Addr) (c0_4 : Nat) (l0_4 : List Int) (A0_5 : Option Addr) (c0_5 : Nat) (l0_5 : List (S24)) (r1 : ByteArray) (r2 : Bool) (w : World) (hr0_4 : Kd.C (Kd.int .i64) w A0_4 l0_4.length l0_4) (hc0_4 : l0_4.length ≤ c0_4) (hr0_5 : Kd.C k24 w A0_5 l0_5.length l0_5) (hc0_5 : l0_5.length ≤ c0_5) (h : impl_PacketText.f k a0_0 a0_1 a0_2 a0_3 l0_4 l0_5 = some (r1, r2)) :
  Calls Try.prog 17 #[.agg #[.int .i64 a0_0, .int .i64 a0_1, .int .i64 a0_2, .int .i64 a0_3, .slice A0_4 l0_4.length c0_4, .slice A0_5 l0_5.length c0_5]] w fun e w' => e = .returned (.tuple #[.string r1, .bool r2]) ∧ Below w.heap.size w w' := by
 have hu39 := Try.underlying39; have hu24 := Try.underlying24; have HR0_4 := Aside0.mk hr0_4; have HC0_4 := Aside0.mk hc0_4; clear hr0_4 hc0_4; have HR0_5 := Aside0.mk hr0_5; have HC0_5 := Aside0.mk hc0_5; clear hr0_5 hc0_5; have HB := Aside0.mk (Below.refl w.heap.size w)
 have H : ((impl_PacketOk.f k a0_0 a0_1 a0_2 a0_3 l0_4 l0_5).bind fun t590 => (if t590 = true then ((impl_VarText.f k (l0_4.length : Int)).bind fun bt591 => ((some (([(a0_0) % 256, (a0_1) % 256, (a0_2) % 256, (a0_3) % 256] : List Int) : List Int)).bind fun y593 => (if (strOfNums y593).size + bt591.1.size ≤ 9223372036854775807 then (impl_PacketText.l0 k ((strOfNums y593) ++ bt591.1) l0_4 (l0_4.length : Int) 0 a0_0 a0_1 a0_2 a0_3 l0_4 l0_5) else (none)))) else (some ((⟨#[]⟩ : ByteArray), false)))) = some (r1, r2) := h
 clear h; replace H := Option.bind_eq_some_iff.mp H; obtain ⟨t590, A20, H⟩ := H
 replace H : (if t590 = true then ((impl_VarText.f k (l0_4.length : Int)).bind fun bt591 => ((some (([(a0_0) % 256, (a0_1) % 256, (a0_2) % 256, (a0_3) % 256] : List Int) : List Int)).bind fun y593 => (if (strOfNums y593).size + bt591.1.size ≤ 9223372036854775807 then (impl_PacketText.l0 k ((strOfNums y593) ++ bt591.1) l0_4 (l0_4.length : Int) 0 a0_0 a0_1 a0_2 a0_3 l0_4 l0_5) else (none)))) else (some ((⟨#[]⟩ : ByteArray), false))) = some (r1, r2) := H
 have A2 := Aside0.mk A20; clear A20; have HC3 := Aside0.mk H; clear H
 go_enter Try.func17, Try.ntmps17
 go_upto_if 21 with (first | ((with_reducible refine gate_dst (N := 1) rfl ?_); refine box_q 1 #[.int .i64 a0_0, .int .i64 a0_1, .int .i64 a0_2, .int .i64 a0_3, .slice A0_4 l0_4.length c0_4, .slice A0_5 l0_5.length c0_5] 39 ?_; intro gb589 hg w4 hbox hb; have BK589 := Aside0.mk (hbox); have GW589 := Aside0.mk ((by rw [hg]; exact (below_size (bw_q HB)) : w.heap.size ≤ gb589)); have GE589 := Aside0.mk ((by rw [hg]; exact (below_size (bw_q HB)) : w.heap.size ≤ gb589)); replace HB := Aside0.mk (below_step (bw_q HB) hb); clear hb hbox hg; have hcz5_0 : w4.cell? ⟨gb589, 0, none⟩ = some (.int .i64 a0_0) := (blk_cell BK589.out 0).trans rfl; have hcz5_1 : w4.cell? ⟨gb589, 1, none⟩ = some (.int .i64 a0_1) := (blk_cell BK589.out 1).trans rfl; have hcz5_2 : w4.cell? ⟨gb589, 2, none⟩ = some (.int .i64 a0_2) := (blk_cell BK589.out 2).trans rfl; have hcz5_3 : w4.cell? ⟨gb589, 3, none⟩ = some (.int .i64 a0_3) := (blk_cell BK589.out 3).trans rfl; have hcz5_4 : w4.cell? ⟨gb589, 4, none⟩ = some (.slice A0_4 l0_4.length c0_4) := (blk_cell BK589.out 4).trans rfl; have hcz5_5 : w4.cell? ⟨gb589, 5, none⟩ = some (.slice A0_5 l0_5.length c0_5) := (blk_cell BK589.out 5).trans rfl; have hfz5_0 := blk_frozen BK589.out 0; have hfz5_1 := blk_frozen BK589.out 1; have hfz5_2 := blk_frozen BK589.out 2; have hfz5_3 := blk_frozen BK589.out 3; have hfz5_4 := blk_frozen BK589.out 4; have hfz5_5 := blk_frozen BK589.out 5) | ((with_reducible refine gate_callee (f := 31) rfl ?_); refine goesL_ (some 20) rfl rfl Try.func31 (by kernel_rfl) rfl #[.agg #[.int .i64 a0_0, .int .i64 a0_1, .int .i64 a0_2, .int .i64 a0_3, .slice A0_4 l0_4.length c0_4, .slice A0_5 l0_5.length c0_5]] rfl mp_q ?_; (with_reducible refine (impl_PacketOk.calls k a0_0 a0_1 a0_2 a0_3 _ _ l0_4 _ _ l0_5 t590 _ ?side1 ?side2 ?side3 ?side4 A2.out).mono ?_); (case side1 => exact cs_q (Kd.C_below HR0_4.out HB.out)); (case side2 => exact HC0_4.out); (case side3 => exact cs_q (Kd.C_below HR0_5.out HB.out)); (case side4 => exact HC0_5.out); rintro e w6 ⟨rfl, hb⟩; refine ⟨_, rfl, ?_⟩; replace BK589 := Aside0.mk (blk_below (g := gb589) (bk_q BK589) hb); replace HB := Aside0.mk (below_step (bw_q HB) hb); (try clear hb); (try clear hb2); (try clear hk); (try clear hi)))
 have H := HC3.out; clear HC3
 by_cases c7 : t590 = true
 ·subst c7
  replace H : ((impl_VarText.f k (l0_4.length : Int)).bind fun bt591 => ((some (([(a0_0) % 256, (a0_1) % 256, (a0_2) % 256, (a0_3) % 256] : List Int) : List Int)).bind fun y593 => (if (strOfNums y593).size + bt591.1.size ≤ 9223372036854775807 then (impl_PacketText.l0 k ((strOfNums y593) ++ bt591.1) l0_4 (l0_4.length : Int) 0 a0_0 a0_1 a0_2 a0_3 l0_4 l0_5) else (none)))) = some (r1, r2) := by rw [if_pos rfl] at H; exact H
  replace H := Option.bind_eq_some_iff.mp H; obtain ⟨⟨t591, t592⟩, A80, H⟩ := H
  replace H : ((some (([(a0_0) % 256, (a0_1) % 256, (a0_2) % 256, (a0_3) % 256] : List Int) : List Int)).bind fun y593 => (if (strOfNums y593).size + t591.size ≤ 9223372036854775807 then (impl_PacketText.l0 k ((strOfNums y593) ++ t591) l0_4 (l0_4.length : Int) 0 a0_0 a0_1 a0_2 a0_3 l0_4 l0_5) else (none))) = some (r1, r2) := H
  have A8 := Aside0.mk A80; clear A80; obtain ⟨y593, hy593⟩ : ∃ y_ : List Int, y_ = (([(a0_0) % 256, (a0_1) % 256, (a0_2) % 256, (a0_3) % 256] : List Int)) := ⟨_, rfl⟩
  replace H : (if (strOfNums y593).size + t591.size ≤ 9223372036854775807 then (impl_PacketText.l0 k ((strOfNums y593) ++ t591) l0_4 (l0_4.length : Int) 0 a0_0 a0_1 a0_2 a0_3 l0_4 l0_5) else (none)) = some (r1, r2) := by first | (rw [hy593]; with_reducible exact H) | (have H2_ := (Option.bind_some _ _).symm.trans H; rw [hy593]; with_reducible exact H2_) | (have H2_ := (Option.bind_some _ _).symm.trans H; with_reducible exact H2_) | with_reducible exact H | (rw [hy593]; exact H) | exact H
  have Ny593 := Aside0.mk hy593; clear hy593
  by_cases c9 : (strOfNums y593).size + t591.size ≤ 9223372036854775807
  ·rw [if_pos c9] at H; have c9b0 := eq_true c9
   have c9b1 : decide ((strOfNums y593).size + t591.size ≤ 9223372036854775807) = true := decide_eq_true c9
   try have c9b2 : (9223372036854775807 < (strOfNums y593).size + t591.size) = False := eq_false (Nat.not_lt.2 c9)
   try (have c9b3 := c9b2; simp only [ByteArray.size_append] at c9b3)
   have H' := Aside0.mk H; clear H
   have hcz10_0 : w6.cell? ⟨gb589, 0, none⟩ = some (.int .i64 a0_0) := (blk_cell BK589.out 0).trans rfl
   have hcz10_1 : w6.cell? ⟨gb589, 1, none⟩ = some (.int .i64 a0_1) := (blk_cell BK589.out 1).trans rfl
   have hcz10_2 : w6.cell? ⟨gb589, 2, none⟩ = some (.int .i64 a0_2) := (blk_cell BK589.out 2).trans rfl
   have hcz10_3 : w6.cell? ⟨gb589, 3, none⟩ = some (.int .i64 a0_3) := (blk_cell BK589.out 3).trans rfl
   have hcz10_4 : w6.cell? ⟨gb589, 4, none⟩ = some (.slice A0_4 l0_4.length c0_4) := (blk_cell BK589.out 4).trans rfl
   have hcz10_5 : w6.cell? ⟨gb589, 5, none⟩ = some (.slice A0_5 l0_5.length c0_5) := (blk_cell BK589.out 5).trans rfl
   have hfz10_0 := blk_frozen BK589.out 0; have hfz10_1 := blk_frozen BK589.out 1; have hfz10_2 := blk_frozen BK589.out 2; have hfz10_3 := blk_frozen BK589.out 3; have hfz10_4 := blk_frozen BK589.out 4; have hfz10_5 := blk_frozen BK589.out 5
   go_wp2_with (first | ((with_reducible refine gate_callee (f := 54) rfl ?_); refine goesL_ (some 26) rfl rfl Try.func54 (by kernel_rfl) rfl #[.int .i64 (l0_4.length : Int)] rfl mp_q ?_; (with_reducible refine (impl_VarText.calls k (l0_4.length : Int) t591 t592 _ A8.out).mono ?_); rintro e w11 ⟨rfl, hb⟩; refine ⟨_, rfl, ?_⟩; replace BK589 := Aside0.mk (blk_below (g := gb589) (bk_q BK589) hb); replace HB := Aside0.mk (below_step (bw_q HB) hb); (try clear hb); (try clear hb2); (try clear hk); (try clear hi); have hcz12_0 : w11.cell? ⟨gb589, 0, none⟩ = some (.int .i64 a0_0) := (blk_cell BK589.out 0).trans rfl; have hcz12_1 : w11.cell? ⟨gb589, 1, none⟩ = some (.int .i64 a0_1) := (blk_cell BK589.out 1).trans rfl; have hcz12_2 : w11.cell? ⟨gb589, 2, none⟩ = some (.int .i64 a0_2) := (blk_cell BK589.out 2).trans rfl; have hcz12_3 : w11.cell? ⟨gb589, 3, none⟩ = some (.int .i64 a0_3) := (blk_cell BK589.out 3).trans rfl; have hcz12_4 : w11.cell? ⟨gb589, 4, none⟩ = some (.slice A0_4 l0_4.length c0_4) := (blk_cell BK589.out 4).trans rfl; have hcz12_5 : w11.cell? ⟨gb589, 5, none⟩ = some (.slice A0_5 l0_5.length c0_5) := (blk_cell BK589.out 5).trans rfl; have hfz12_0 := blk_frozen BK589.out 0; have hfz12_1 := blk_frozen BK589.out 1; have hfz12_2 := blk_frozen BK589.out 2; have hfz12_3 := blk_frozen BK589.out 3; have hfz12_4 := blk_frozen BK589.out 4; have hfz12_5 := blk_frozen BK589.out 5) | ((with_reducible refine gate_dst (N := 41) rfl ?_); refine Kd.R_lit (Kd.int .u8) _ 5 ?hg (N := 41) ?hd (xs := ([(a0_0) % 256, (a0_1) % 256, (a0_2) % 256, (a0_3) % 256] : List Int)) (inner := [.int .u8 ((a0_0) % 256), .int .u8 ((a0_1) % 256), .int .u8 ((a0_2) % 256), .int .u8 ((a0_3) % 256)]) (ok := fun _ => True) (okp := fun _ => True) ?hr ?hp (fun _ hk => hk) trivial (Below.refl _ _) (Nat.le_refl _) (by simp) ?_; (case hd => rfl); (case hg => rfl); (case hr => first | (go_simp; done) | (go_simp; rfl)); (case hp => exact (Reps.one (show Kd.M (Kd.int .u8) _ _ _ ((a0_0) % 256) [.int .u8 ((a0_0) % 256)] from rfl) (Reps.one (show Kd.M (Kd.int .u8) _ _ _ ((a0_1) % 256) [.int .u8 ((a0_1) % 256)] from rfl) (Reps.one (show Kd.M (Kd.int .u8) _ _ _ ((a0_2) % 256) [.int .u8 ((a0_2) % 256)] from rfl) (Reps.one (show Kd.M (Kd.int .u8) _ _ _ ((a0_3) % 256) [.int .u8 ((a0_3) % 256)] from rfl) (Reps.none _ _)))))); intro v594 w13 ho14 hb hg_ hnew_; clear hg_ hnew_; (first | rw [← Ny593.out] at ho14 | (simp only [Int.reduceToNat] at ho14; rw [← Ny593.out] at ho14)); have HO595 := Aside0.mk (Kd.R_lower ho14 (below_size (bw_q HB))); replace BK589 := Aside0.mk (blk_below (g := gb589) (bk_q BK589) hb); replace HB := Aside0.mk (below_step (bw_q HB) hb); clear hb ho14; have hcv15 := own_string (P := Try.prog) Try.underlying46 Try.underlying5 Try.underlying9 (Kd.own_of_R HO595.out); have hcz16_0 : w13.cell? ⟨gb589, 0, none⟩ = some (.int .i64 a0_0) := (blk_cell BK589.out 0).trans rfl; have hcz16_1 : w13.cell? ⟨gb589, 1, none⟩ = some (.int .i64 a0_1) := (blk_cell BK589.out 1).trans rfl; have hcz16_2 : w13.cell? ⟨gb589, 2, none⟩ = some (.int .i64 a0_2) := (blk_cell BK589.out 2).trans rfl; have hcz16_3 : w13.cell? ⟨gb589, 3, none⟩ = some (.int .i64 a0_3) := (blk_cell BK589.out 3).trans rfl; have hcz16_4 : w13.cell? ⟨gb589, 4, none⟩ = some (.slice A0_4 l0_4.length c0_4) := (blk_cell BK589.out 4).trans rfl; have hcz16_5 : w13.cell? ⟨gb589, 5, none⟩ = some (.slice A0_5 l0_5.length c0_5) := (blk_cell BK589.out 5).trans rfl; have hfz16_0 := blk_frozen BK589.out 0; have hfz16_1 := blk_frozen BK589.out 1; have hfz16_2 := blk_frozen BK589.out 2; have hfz16_3 := blk_frozen BK589.out 3; have hfz16_4 := blk_frozen BK589.out 4; have hfz16_5 := blk_frozen BK589.out 5))
   go_loopg [6, 48] k (fun kq v6 v48 w' => ∃ (x6_1 : ByteArray) (x48_1 : Int), v6 = .string x6_1 ∧ v48 = .int .i64 x48_1 ∧ Aside0 (impl_PacketText.l0 kq x6_1 l0_4 (l0_4.length : Int) x48_1 a0_0 a0_1 a0_2 a0_3 l0_4 l0_5 = some (r1, r2)) ∧ Aside0 (kq ≤ k) ∧ Aside0 (w'.heap[gb589]? = some (.cells #[.int .i64 a0_0, .int .i64 a0_1, .int .i64 a0_2, .int .i64 a0_3, (.slice A0_4 l0_4.length c0_4), (.slice A0_5 l0_5.length c0_5)] 39 (0, 0))) ∧ Aside0 (Below w.heap.size w w'))
   case atStart => exact ⟨((strOfNums y593) ++ t591), (0), (by first | rfl | (simp; done) | (simp [*]; done)), (by first | rfl | (simp; done) | (simp [*]; done)), H', ⟨Nat.le_refl _⟩, ⟨by refine bz_ ?_; exact BK589.out⟩, ⟨bw_q HB⟩⟩
   case round =>
    clear H'; (try clear c1); (try clear hcv1); (try clear p2); (try clear c3); (try clear c5); (try clear c7); (try clear c9); (try clear c9b0); (try clear c9b1); (try clear c9b2); (try clear hcv15); (try clear hcz10_0); (try clear hcz10_1); (try clear hcz10_2); (try clear hcz10_3); (try clear hcz10_4); (try clear hcz10_5); (try clear hcz12_0); (try clear hcz12_1); (try clear hcz12_2); (try clear hcz12_3); (try clear hcz12_4); (try clear hcz12_5); (try clear hcz16_0); (try clear hcz16_1); (try clear hcz16_2); (try clear hcz16_3); (try clear hcz16_4); (try clear hcz16_5); (try clear hcz5_0); (try clear hcz5_1); (try clear hcz5_2); (try clear hcz5_3); (try clear hcz5_4); (try clear hcz5_5); (try clear hfz10_0); (try clear hfz10_1); (try clear hfz10_2); (try clear hfz10_3); (try clear hfz10_4); (try clear hfz10_5); (try clear hfz12_0); (try clear hfz12_1); (try clear hfz12_2); (try clear hfz12_3); (try clear hfz12_4); (try clear hfz12_5); (try clear hfz16_0); (try clear hfz16_1); (try clear hfz16_2); (try clear hfz16_3); (try clear hfz16_4); (try clear hfz16_5); (try clear hfz5_0); (try clear hfz5_1); (try clear hfz5_2); (try clear hfz5_3); (try clear hfz5_4); (try clear hfz5_5); obtain ⟨x6_1, x48_1, rfl, rfl, HA, HK1, BK589, HB⟩ := hrel
    cases gk with
    | zero => exact absurd HA.out (by simp [impl_PacketText.l0])
    | succ k1 =>
     have H := HA.out; clear HA
     simp only [impl_PacketText.l0] at H
     by_cases c17 : x48_1 < (l0_4.length : Int)
     ·rw [if_pos c17] at H
      have c17b0 : decide (x48_1 < (l0_4.length : Int)) = true := decide_eq_true c17
      clear c17
      (first | rw [c17b0] | rw [c17b1] | (simp only [i64_w, i32_w]; first | rw [c17b0] | rw [c17b1]) | skip)
      by_cases c18 : 0 ≤ x48_1
      ·rw [if_pos c18] at H
       have c18b0 : decide (0 ≤ x48_1) = true := decide_eq_true c18
       clear c18
       by_cases c19 : x48_1 < (l0_4.length : Int)
       ·rw [if_pos c19] at H
        have c19b0 : decide (x48_1 < (l0_4.length : Int)) = true := decide_eq_true c19
        clear c19; obtain ⟨y597, hy597⟩ : ∃ y_ : List Int, y_ = (([(rd l0_4 x48_1) % 256] : List Int)) := ⟨_, rfl⟩
        replace H : (if x6_1.size + (strOfNums y597).size ≤ 9223372036854775807 then (impl_PacketText.l0 k1 (x6_1 ++ (strOfNums y597)) l0_4 (l0_4.length : Int) (wrap64 (x48_1 + 1)) a0_0 a0_1 a0_2 a0_3 l0_4 l0_5) else (none)) = some (r1, r2) := by first | (rw [hy597]; with_reducible exact H) | (have H2_ := (Option.bind_some _ _).symm.trans H; rw [hy597]; with_reducible exact H2_) | (have H2_ := (Option.bind_some _ _).symm.trans H; with_reducible exact H2_) | with_reducible exact H | (rw [hy597]; exact H) | exact H
        have Ny597 := Aside0.mk hy597; clear hy597
        by_cases c20 : x6_1.size + (strOfNums y597).size ≤ 9223372036854775807
        ·rw [if_pos c20] at H; have c20b0 := eq_true c20
         have c20b1 : decide (x6_1.size + (strOfNums y597).size ≤ 9223372036854775807) = true := decide_eq_true c20
         try have c20b2 : (9223372036854775807 < x6_1.size + (strOfNums y597).size) = False := eq_false (Nat.not_lt.2 c20)
         try (have c20b3 := c20b2; simp only [ByteArray.size_append] at c20b3)
         have H' := Aside0.mk H; clear H
         have p596 : 0 ≤ (x48_1 : Int) := of_decide_eq_true as_q
         have q596 : x48_1 < (l0_4.length : Int) := of_decide_eq_true as_q
         obtain ⟨ad596, e596, hx596_0⟩ := Kd.at_int HR0_4.out x48_1 p596 q596
         cases e596
         replace hx596_0 := (HB.out.cell (World.block_lt_of_cell? w _ hx596_0)).trans hx596_0
         replace p596 := eq_true p596; replace q596 := eq_true q596
         go_wp2_with (first | ((with_reducible refine gate_dst (N := 55) rfl ?_); refine Kd.R_lit (Kd.int .u8) _ 5 ?hg (N := 55) ?hd (xs := ([(rd l0_4 x48_1) % 256] : List Int)) (inner := [.int .u8 ((rd l0_4 x48_1) % 256)]) (ok := fun _ => True) (okp := fun _ => True) ?hr ?hp (fun _ hk => hk) trivial (Below.refl _ _) (Nat.le_refl _) (by simp) ?_; (case hd => rfl); (case hg => rfl); (case hr => first | (go_simp; done) | (go_simp; rfl)); (case hp => exact (Reps.one (show Kd.M (Kd.int .u8) _ _ _ ((rd l0_4 x48_1) % 256) [.int .u8 ((rd l0_4 x48_1) % 256)] from rfl) (Reps.none _ _))); intro v598 w21 ho22 hb hg_ hnew_; clear hg_ hnew_; (first | rw [← Ny597.out] at ho22 | (simp only [Int.reduceToNat] at ho22; rw [← Ny597.out] at ho22)); have HO599 := Aside0.mk (Kd.R_lower ho22 (below_size (bw_q HB))); replace BK589 := Aside0.mk (blk_below (g := gb589) (bk_q BK589) hb); replace HB := Aside0.mk (below_step (bw_q HB) hb); clear hb ho22; have hcv23 := own_string (P := Try.prog) Try.underlying46 Try.underlying5 Try.underlying9 (Kd.own_of_R HO599.out)))
         go_roundg k1
         case measure => have := HK1.out; omega
         case rel => exact ⟨(x6_1 ++ (strOfNums y597)), (wrap64 (x48_1 + 1)), (by first | rfl | (simp; done) | (simp [*]; done)), (by first | rfl | (simp; done) | (simp [*]; done)), H', ⟨by have := HK1.out; omega⟩, ⟨by refine bz_ ?_; exact BK589.out⟩, ⟨bw_q HB⟩⟩
        ·rw [if_neg c20] at H
         exact absurd H (by simp)
       ·rw [if_neg c19] at H
        exact absurd H (by simp)
      ·rw [if_neg c18] at H
       exact absurd H (by simp)
     ·rw [if_neg c17] at H
      have c17b0 : decide (x48_1 < (l0_4.length : Int)) = false := decide_eq_false c17
      clear c17
      (first | rw [c17b0] | rw [c17b1] | (simp only [i64_w, i32_w]; first | rw [c17b0] | rw [c17b1]) | skip)
      replace H := Option.bind_eq_some_iff.mp H; obtain ⟨⟨t600, t601⟩, A240, H⟩ := H
      replace H : (if x6_1.size + t600.size ≤ 9223372036854775807 then (impl_PacketText.l1 k1 (x6_1 ++ t600) l0_5 (l0_5.length : Int) 0) else (none)) = some (r1, r2) := H
      have A24 := Aside0.mk A240; clear A240
      by_cases c25 : x6_1.size + t600.size ≤ 9223372036854775807
      ·rw [if_pos c25] at H; have c25b0 := eq_true c25
       have c25b1 : decide (x6_1.size + t600.size ≤ 9223372036854775807) = true := decide_eq_true c25
       try have c25b2 : (9223372036854775807 < x6_1.size + t600.size) = False := eq_false (Nat.not_lt.2 c25)
       try (have c25b3 := c25b2; simp only [ByteArray.size_append] at c25b3)
       have H' := Aside0.mk H; clear H
       have hcz26_0 : wr.cell? ⟨gb589, 0, none⟩ = some (.int .i64 a0_0) := (blk_cell BK589.out 0).trans rfl
       have hcz26_1 : wr.cell? ⟨gb589, 1, none⟩ = some (.int .i64 a0_1) := (blk_cell BK589.out 1).trans rfl
       have hcz26_2 : wr.cell? ⟨gb589, 2, none⟩ = some (.int .i64 a0_2) := (blk_cell BK589.out 2).trans rfl
       have hcz26_3 : wr.cell? ⟨gb589, 3, none⟩ = some (.int .i64 a0_3) := (blk_cell BK589.out 3).trans rfl
       have hcz26_4 : wr.cell? ⟨gb589, 4, none⟩ = some (.slice A0_4 l0_4.length c0_4) := (blk_cell BK589.out 4).trans rfl
       have hcz26_5 : wr.cell? ⟨gb589, 5, none⟩ = some (.slice A0_5 l0_5.length c0_5) := (blk_cell BK589.out 5).trans rfl
       have hfz26_0 := blk_frozen BK589.out 0; have hfz26_1 := blk_frozen BK589.out 1; have hfz26_2 := blk_frozen BK589.out 2; have hfz26_3 := blk_frozen BK589.out 3; have hfz26_4 := blk_frozen BK589.out 4; have hfz26_5 := blk_frozen BK589.out 5
       go_wp2_with (first | ((with_reducible refine gate_callee (f := 54) rfl ?_); refine goesL_ (some 63) rfl rfl Try.func54 (by kernel_rfl) rfl #[.int .i64 (l0_5.length : Int)] rfl mp_q ?_; (with_reducible refine (impl_VarText.calls k1 (l0_5.length : Int) t600 t601 _ A24.out).mono ?_); rintro e w27 ⟨rfl, hb⟩; refine ⟨_, rfl, ?_⟩; replace BK589 := Aside0.mk (blk_below (g := gb589) (bk_q BK589) hb); replace HB := Aside0.mk (below_step (bw_q HB) hb); (try clear hb); (try clear hb2); (try clear hk); (try clear hi); have hcz28_0 : w27.cell? ⟨gb589, 0, none⟩ = some (.int .i64 a0_0) := (blk_cell BK589.out 0).trans rfl; have hcz28_1 : w27.cell? ⟨gb589, 1, none⟩ = some (.int .i64 a0_1) := (blk_cell BK589.out 1).trans rfl; have hcz28_2 : w27.cell? ⟨gb589, 2, none⟩ = some (.int .i64 a0_2) := (blk_cell BK589.out 2).trans rfl; have hcz28_3 : w27.cell? ⟨gb589, 3, none⟩ = some (.int .i64 a0_3) := (blk_cell BK589.out 3).trans rfl; have hcz28_4 : w27.cell? ⟨gb589, 4, none⟩ = some (.slice A0_4 l0_4.length c0_4) := (blk_cell BK589.out 4).trans rfl; have hcz28_5 : w27.cell? ⟨gb589, 5, none⟩ = some (.slice A0_5 l0_5.length c0_5) := (blk_cell BK589.out 5).trans rfl; have hfz28_0 := blk_frozen BK589.out 0; have hfz28_1 := blk_frozen BK589.out 1; have hfz28_2 := blk_frozen BK589.out 2; have hfz28_3 := blk_frozen BK589.out 3; have hfz28_4 := blk_frozen BK589.out 4; have hfz28_5 := blk_frozen BK589.out 5))
       go_loopg [6, 72] k1 (fun kq v6 v72 w' => ∃ (x6_2 : ByteArray) (x72_2 : Int), v6 = .string x6_2 ∧ v72 = .int .i64 x72_2 ∧ Aside0 (impl_PacketText.l1 kq x6_2 l0_5 (l0_5.length : Int) x72_2 = some (r1, r2)) ∧ Aside0 (kq ≤ k1) ∧ Aside0 (w'.heap[gb589]? = some (.cells #[.int .i64 a0_0, .int .i64 a0_1, .int .i64 a0_2, .int .i64 a0_3, (.slice A0_4 l0_4.length c0_4), (.slice A0_5 l0_5.length c0_5)] 39 (0, 0))) ∧ Aside0 (Below w.heap.size w w'))
       case atStart => exact ⟨(x6_1 ++ t600), (0), (by first | rfl | (simp; done) | (simp [*]; done)), (by first | rfl | (simp; done) | (simp [*]; done)), H', ⟨Nat.le_refl _⟩, ⟨by refine bz_ ?_; exact BK589.out⟩, ⟨bw_q HB⟩⟩
       case round =>
        clear H'; (try clear c1); (try clear hcv1); (try clear c2); (try clear p2); (try clear hcv2); (try clear c3); (try clear c5); (try clear p5); (try clear q5); (try clear hx5); (try clear p6); (try clear c7); (try clear c9); (try clear c9b0); (try clear c9b1); (try clear c9b2); (try clear hcv15); (try clear c17); (try clear c17b0); (try clear c17b1); (try clear c18); (try clear c18b0); (try clear c19); (try clear c19b0); (try clear c20); (try clear c20b0); (try clear c20b1); (try clear c20b2); (try clear hcv23); (try clear c25); (try clear c25b0); (try clear c25b1); (try clear c25b2); (try clear hcz10_0); (try clear hcz10_1); (try clear hcz10_2); (try clear hcz10_3); (try clear hcz10_4); (try clear hcz10_5); (try clear hcz12_0); (try clear hcz12_1); (try clear hcz12_2); (try clear hcz12_3); (try clear hcz12_4); (try clear hcz12_5); (try clear hcz16_0); (try clear hcz16_1); (try clear hcz16_2); (try clear hcz16_3); (try clear hcz16_4); (try clear hcz16_5); (try clear hcz26_0); (try clear hcz26_1); (try clear hcz26_2); (try clear hcz26_3); (try clear hcz26_4); (try clear hcz26_5); (try clear hcz28_0); (try clear hcz28_1); (try clear hcz28_2); (try clear hcz28_3); (try clear hcz28_4); (try clear hcz28_5); (try clear hcz5_0); (try clear hcz5_1); (try clear hcz5_2); (try clear hcz5_3); (try clear hcz5_4); (try clear hcz5_5); (try clear hfz10_0); (try clear hfz10_1); (try clear hfz10_2); (try clear hfz10_3); (try clear hfz10_4); (try clear hfz10_5); (try clear hfz12_0); (try clear hfz12_1); (try clear hfz12_2); (try clear hfz12_3); (try clear hfz12_4); (try clear hfz12_5); (try clear hfz16_0); (try clear hfz16_1); (try clear hfz16_2); (try clear hfz16_3); (try clear hfz16_4); (try clear hfz16_5); (try clear hfz26_0); (try clear hfz26_1); (try clear hfz26_2); (try clear hfz26_3); (try clear hfz26_4); (try clear hfz26_5); (try clear hfz28_0); (try clear hfz28_1); (try clear hfz28_2); (try clear hfz28_3); (try clear hfz28_4); (try clear hfz28_5); (try clear hfz5_0); (try clear hfz5_1); (try clear hfz5_2); (try clear hfz5_3); (try clear hfz5_4); (try clear hfz5_5); (try clear hx596_0); (try clear p2); (try clear p596); (try clear q596); obtain ⟨x6_2, x72_2, rfl, rfl, HA, HK2, BK589, HB⟩ := hrel
        cases gk with
        | zero => exact absurd HA.out (by simp [impl_PacketText.l1])
        | succ k2 =>
         have H := HA.out; clear HA
         simp only [impl_PacketText.l1] at H
         by_cases c29 : x72_2 < (l0_5.length : Int)
         ·rw [if_pos c29] at H
          have c29b0 : decide (x72_2 < (l0_5.length : Int)) = true := decide_eq_true c29
          clear c29
          by_cases c30 : 0 ≤ x72_2
          ·rw [if_pos c30] at H
           have c30b0 : decide (0 ≤ x72_2) = true := decide_eq_true c30
           clear c30
           by_cases c31 : x72_2 < (l0_5.length : Int)
           ·rw [if_pos c31] at H
            have c31b0 : decide (x72_2 < (l0_5.length : Int)) = true := decide_eq_true c31
            clear c31; replace H := Option.bind_eq_some_iff.mp H; obtain ⟨⟨t606, t607⟩, A320, H⟩ := H
            replace H : ((impl_ShortText.f k2 t606).bind fun bt608 => (if bt608.2 = true then (if x6_2.size + bt608.1.size ≤ 9223372036854775807 then (impl_PacketText.l1 k2 (x6_2 ++ bt608.1) l0_5 (l0_5.length : Int) (wrap64 (x72_2 + 1))) else (none)) else (some ((⟨#[]⟩ : ByteArray), false)))) = some (r1, r2) := H
            have A32 := Aside0.mk A320; clear A320; replace H := Option.bind_eq_some_iff.mp H; obtain ⟨⟨t608, t609⟩, A330, H⟩ := H
            replace H : (if t609 = true then (if x6_2.size + t608.size ≤ 9223372036854775807 then (impl_PacketText.l1 k2 (x6_2 ++ t608) l0_5 (l0_5.length : Int) (wrap64 (x72_2 + 1))) else (none)) else (some ((⟨#[]⟩ : ByteArray), false))) = some (r1, r2) := H
            have A33 := Aside0.mk A330; clear A330; have HC34 := Aside0.mk H; clear H
            have p604 : 0 ≤ (x72_2 : Int) := of_decide_eq_true as_q
            have q604 : x72_2 < (l0_5.length : Int) := of_decide_eq_true as_q
            obtain ⟨ad604, A604_5, c604_5, e604, hx604_0, hx604_1, hx604_2, hx604_3, hx604_4, hx604_5, hx604_6, hx604_7, hl604_5, hi604_5⟩ := at_T24 HR0_5.out x72_2 p604 q604
            cases e604
            replace hx604_0 := (HB.out.cell (World.block_lt_of_cell? w _ hx604_0)).trans hx604_0
            replace hx604_1 := (HB.out.cell (World.block_lt_of_cell? w _ hx604_1)).trans hx604_1
            replace hx604_2 := (HB.out.cell (World.block_lt_of_cell? w _ hx604_2)).trans hx604_2
            replace hx604_3 := (HB.out.cell (World.block_lt_of_cell? w _ hx604_3)).trans hx604_3
            replace hx604_4 := (HB.out.cell (World.block_lt_of_cell? w _ hx604_4)).trans hx604_4
            replace hx604_5 := (HB.out.cell (World.block_lt_of_cell? w _ hx604_5)).trans hx604_5
            replace hx604_6 := (HB.out.cell (World.block_lt_of_cell? w _ hx604_6)).trans hx604_6
            replace hx604_7 := (HB.out.cell (World.block_lt_of_cell? w _ hx604_7)).trans hx604_7
            have HR604_5 := Aside0.mk hi604_5; have HC604_5 := Aside0.mk hl604_5; clear hi604_5 hl604_5; replace p604 := eq_true p604; replace q604 := eq_true q604
            go_upto_if 87 with (first | ((with_reducible refine gate_dst (N := 12) rfl ?_); refine box_q 12 #[.int .i64 0, .int .i64 0, .int .i64 0, .int .i64 0, .int .i64 0, .slice none 0 0, .int .i64 0, .bool false] 24 ?_; intro gb605 hg w35 hbox hb; have BK605 := Aside0.mk (hbox); have GW605 := Aside0.mk ((by rw [hg]; exact (below_size (bw_q HB)) : w.heap.size ≤ gb605)); have GE605 := Aside0.mk ((by rw [hg]; exact (below_size (bw_q HB)) : w.heap.size ≤ gb605)); replace HB := Aside0.mk (below_step (bw_q HB) hb); have NB589_605 := Aside0.mk ((by rw [hg]; exact Nat.ne_of_lt (blk_lt (g := gb589) (o := .cells #[.int .i64 a0_0, .int .i64 a0_1, .int .i64 a0_2, .int .i64 a0_3, .slice A0_4 l0_4.length c0_4, .slice (some ad604) l0_5.length c0_5] 39 (0, 0)) (bk_q BK589)) : gb589 ≠ gb605)); have NB605_589 := Aside0.mk ((by rw [hg]; exact Nat.ne_of_gt (blk_lt (g := gb589) (o := .cells #[.int .i64 a0_0, .int .i64 a0_1, .int .i64 a0_2, .int .i64 a0_3, .slice A0_4 l0_4.length c0_4, .slice (some ad604) l0_5.length c0_5] 39 (0, 0)) (bk_q BK589)) : gb605 ≠ gb589)); replace BK589 := Aside0.mk (blk_below (g := gb589) (bk_q BK589) hb); clear hb hbox hg; have hnb36 := NB605_589.out; have hnc36 := NB589_605.out; have hcz37_0 : w35.cell? ⟨gb605, 0, none⟩ = some (.int .i64 0) := (blk_cell BK605.out 0).trans rfl; have hcz37_1 : w35.cell? ⟨gb605, 1, none⟩ = some (.int .i64 0) := (blk_cell BK605.out 1).trans rfl; have hcz37_2 : w35.cell? ⟨gb605, 2, none⟩ = some (.int .i64 0) := (blk_cell BK605.out 2).trans rfl; have hcz37_3 : w35.cell? ⟨gb605, 3, none⟩ = some (.int .i64 0) := (blk_cell BK605.out 3).trans rfl; have hcz37_4 : w35.cell? ⟨gb605, 4, none⟩ = some (.int .i64 0) := (blk_cell BK605.out 4).trans rfl; have hcz37_5 : w35.cell? ⟨gb605, 5, none⟩ = some (.slice none 0 0) := (blk_cell BK605.out 5).trans rfl; have hcz37_6 : w35.cell? ⟨gb605, 6, none⟩ = some (.int .i64 0) := (blk_cell BK605.out 6).trans rfl; have hcz37_7 : w35.cell? ⟨gb605, 7, none⟩ = some (.bool false) := (blk_cell BK605.out 7).trans rfl; have hfz37_0 := blk_frozen BK605.out 0; have hfz37_1 := blk_frozen BK605.out 1; have hfz37_2 := blk_frozen BK605.out 2; have hfz37_3 := blk_frozen BK605.out 3; have hfz37_4 := blk_frozen BK605.out 4; have hfz37_5 := blk_frozen BK605.out 5; have hfz37_6 := blk_frozen BK605.out 6; have hfz37_7 := blk_frozen BK605.out 7) | ((with_reducible refine gate_callee (f := 25) rfl ?_); refine goesL_ (some 78) rfl rfl Try.func25 (by kernel_rfl) rfl #[.agg #[.int .i64 ((rd_T24 l0_5 x72_2).f0), .int .i64 ((rd_T24 l0_5 x72_2).f1), .int .i64 ((rd_T24 l0_5 x72_2).f2), .int .i64 ((rd_T24 l0_5 x72_2).f3), .int .i64 ((rd_T24 l0_5 x72_2).f4), .slice A604_5 ((rd_T24 l0_5 x72_2).f5).length c604_5, .int .i64 ((rd_T24 l0_5 x72_2).f6), .bool ((rd_T24 l0_5 x72_2).f7)]] rfl mp_q ?_; (with_reducible refine (impl_RecordText.calls k2 ((rd_T24 l0_5 x72_2).f0) ((rd_T24 l0_5 x72_2).f1) ((rd_T24 l0_5 x72_2).f2) ((rd_T24 l0_5 x72_2).f3) ((rd_T24 l0_5 x72_2).f4) _ _ ((rd_T24 l0_5 x72_2).f5) ((rd_T24 l0_5 x72_2).f6) ((rd_T24 l0_5 x72_2).f7) t606 t607 _ ?side1 ?side2 A32.out).mono ?_); (case side1 => exact Kd.C_below HR604_5.out (bw_q HB)); (case side2 => exact HC604_5.out); rintro e w38 ⟨rfl, hb⟩; refine ⟨_, rfl, ?_⟩; replace BK589 := Aside0.mk (blk_below (g := gb589) (o := .cells #[.int .i64 a0_0, .int .i64 a0_1, .int .i64 a0_2, .int .i64 a0_3, .slice A0_4 l0_4.length c0_4, .slice (some ad604) l0_5.length c0_5] 39 (0, 0)) (by refine bz_ ?_; refine blk_far ?_ NB589_605.out _; refine bz_ ?_; refine blk_far ?_ NB589_605.out _; refine bz_ ?_; refine blk_far ?_ NB589_605.out _; refine bz_ ?_; refine blk_far ?_ NB589_605.out _; refine bz_ ?_; refine blk_far ?_ NB589_605.out _; refine bz_ ?_; refine blk_far ?_ NB589_605.out _; refine bz_ ?_; refine blk_far ?_ NB589_605.out _; refine bz_ ?_; refine blk_far ?_ NB589_605.out _; refine bz_ ?_; exact BK589.out) hb); replace BK605 := Aside0.mk (blk_below (g := gb605) (o := .cells #[.int .i64 ((rd_T24 l0_5 x72_2).f0), .int .i64 ((rd_T24 l0_5 x72_2).f1), .int .i64 ((rd_T24 l0_5 x72_2).f2), .int .i64 ((rd_T24 l0_5 x72_2).f3), .int .i64 ((rd_T24 l0_5 x72_2).f4), .slice A604_5 ((rd_T24 l0_5 x72_2).f5).length c604_5, .int .i64 ((rd_T24 l0_5 x72_2).f6), .bool ((rd_T24 l0_5 x72_2).f7)] 24 (0, 0)) (by refine bz_ ?_; refine blk_put (cs := #[.int .i64 ((rd_T24 l0_5 x72_2).f0), .int .i64 ((rd_T24 l0_5 x72_2).f1), .int .i64 ((rd_T24 l0_5 x72_2).f2), .int .i64 ((rd_T24 l0_5 x72_2).f3), .int .i64 ((rd_T24 l0_5 x72_2).f4), .slice A604_5 ((rd_T24 l0_5 x72_2).f5).length c604_5, .int .i64 ((rd_T24 l0_5 x72_2).f6), .bool false]) ?_ 7 _ rfl; refine bz_ ?_; refine blk_put (cs := #[.int .i64 ((rd_T24 l0_5 x72_2).f0), .int .i64 ((rd_T24 l0_5 x72_2).f1), .int .i64 ((rd_T24 l0_5 x72_2).f2), .int .i64 ((rd_T24 l0_5 x72_2).f3), .int .i64 ((rd_T24 l0_5 x72_2).f4), .slice A604_5 ((rd_T24 l0_5 x72_2).f5).length c604_5, .int .i64 0, .bool false]) ?_ 6 _ rfl; refine bz_ ?_; refine blk_put (cs := #[.int .i64 ((rd_T24 l0_5 x72_2).f0), .int .i64 ((rd_T24 l0_5 x72_2).f1), .int .i64 ((rd_T24 l0_5 x72_2).f2), .int .i64 ((rd_T24 l0_5 x72_2).f3), .int .i64 ((rd_T24 l0_5 x72_2).f4), .slice none 0 0, .int .i64 0, .bool false]) ?_ 5 _ rfl; refine bz_ ?_; refine blk_put (cs := #[.int .i64 ((rd_T24 l0_5 x72_2).f0), .int .i64 ((rd_T24 l0_5 x72_2).f1), .int .i64 ((rd_T24 l0_5 x72_2).f2), .int .i64 ((rd_T24 l0_5 x72_2).f3), .int .i64 0, .slice none 0 0, .int .i64 0, .bool false]) ?_ 4 _ rfl; refine bz_ ?_; refine blk_put (cs := #[.int .i64 ((rd_T24 l0_5 x72_2).f0), .int .i64 ((rd_T24 l0_5 x72_2).f1), .int .i64 ((rd_T24 l0_5 x72_2).f2), .int .i64 0, .int .i64 0, .slice none 0 0, .int .i64 0, .bool false]) ?_ 3 _ rfl; refine bz_ ?_; refine blk_put (cs := #[.int .i64 ((rd_T24 l0_5 x72_2).f0), .int .i64 ((rd_T24 l0_5 x72_2).f1), .int .i64 0, .int .i64 0, .int .i64 0, .slice none 0 0, .int .i64 0, .bool false]) ?_ 2 _ rfl; refine bz_ ?_; refine blk_put (cs := #[.int .i64 ((rd_T24 l0_5 x72_2).f0), .int .i64 0, .int .i64 0, .int .i64 0, .int .i64 0, .slice none 0 0, .int .i64 0, .bool false]) ?_ 1 _ rfl; refine bz_ ?_; refine blk_put (cs := #[.int .i64 0, .int .i64 0, .int .i64 0, .int .i64 0, .int .i64 0, .slice none 0 0, .int .i64 0, .bool false]) ?_ 0 _ rfl; refine bz_ ?_; exact BK605.out) hb); replace HB := Aside0.mk (below_step (bw_q HB) hb); (try clear hb); (try clear hb2); (try clear hk); (try clear hi)) | ((with_reducible refine gate_callee (f := 55) rfl ?_); refine goesL_ (some 83) rfl rfl Try.func55 (by kernel_rfl) rfl #[.string t606] rfl mp_q ?_; (with_reducible refine (impl_ShortText.calls k2 t606 t608 t609 _ A33.out).mono ?_); rintro e w39 ⟨rfl, hb⟩; refine ⟨_, rfl, ?_⟩; replace BK589 := Aside0.mk (blk_below (g := gb589) (bk_q BK589) hb); replace BK605 := Aside0.mk (blk_below (g := gb605) (bk_q BK605) hb); replace HB := Aside0.mk (below_step (bw_q HB) hb); (try clear hb); (try clear hb2); (try clear hk); (try clear hi)))
            (try clear hx604_0); (try clear hx604_1); (try clear hx604_2); (try clear hx604_3); (try clear hx604_4); (try clear hx604_5); (try clear hx604_6); (try clear hx604_7); have H := HC34.out; clear HC34
            by_cases c40 : t609 = true
            ·subst c40
             replace H : (if x6_2.size + t608.size ≤ 9223372036854775807 then (impl_PacketText.l1 k2 (x6_2 ++ t608) l0_5 (l0_5.length : Int) (wrap64 (x72_2 + 1))) else (none)) = some (r1, r2) := by rw [if_pos rfl] at H; exact H
             by_cases c41 : x6_2.size + t608.size ≤ 9223372036854775807
             ·rw [if_pos c41] at H; have c41b0 := eq_true c41
              have c41b1 : decide (x6_2.size + t608.size ≤ 9223372036854775807) = true := decide_eq_true c41
              try have c41b2 : (9223372036854775807 < x6_2.size + t608.size) = False := eq_false (Nat.not_lt.2 c41)
              try (have c41b3 := c41b2; simp only [ByteArray.size_append] at c41b3)
              have H' := Aside0.mk H; clear H
              go_wp2
              go_roundg k2
              case measure => have := HK1.out; have := HK2.out; omega
              case rel => exact ⟨(x6_2 ++ t608), (wrap64 (x72_2 + 1)), (by first | rfl | (simp; done) | (simp [*]; done)), (by first | rfl | (simp; done) | (simp [*]; done)), H', ⟨by have := HK1.out; have := HK2.out; omega⟩, ⟨by refine bz_ ?_; exact BK589.out⟩, ⟨bw_q HB⟩⟩
             ·rw [if_neg c41] at H
              exact absurd H (by simp)
            ·replace c40 := Bool.eq_false_iff.mpr c40; subst c40
             replace H : (some ((⟨#[]⟩ : ByteArray), false)) = some (r1, r2) := by rw [if_neg (show ¬ (false = true) by decide)] at H; exact H
             simp only [Option.some.injEq, Prod.mk.injEq] at H
             obtain ⟨rfl, rfl⟩ := H
             go_wp2
             go_ret2
             exact ⟨er_q, bw_q HB⟩
           ·rw [if_neg c31] at H
            exact absurd H (by simp)
          ·rw [if_neg c30] at H
           exact absurd H (by simp)
         ·rw [if_neg c29] at H
          have c29b0 : decide (x72_2 < (l0_5.length : Int)) = false := decide_eq_false c29
          clear c29; replace H := Option.bind_eq_some_iff.mp H; obtain ⟨⟨t602, t603⟩, A420, H⟩ := H
          replace H : (some (t602, t603)) = some (r1, r2) := H
          have A42 := Aside0.mk A420; clear A420
          simp only [Option.some.injEq, Prod.mk.injEq] at H
          obtain ⟨rfl, rfl⟩ := H
          go_wp2_with (first | ((with_reducible refine gate_callee (f := 34) rfl ?_); refine goesL_ (some 94) rfl rfl Try.func34 (by kernel_rfl) rfl #[.string x6_2] rfl mp_q ?_; (with_reducible refine (impl_Sealed.calls k2 x6_2 t602 t603 _ A42.out).mono ?_); rintro e w43 ⟨rfl, hb⟩; refine ⟨_, rfl, ?_⟩; replace BK589 := Aside0.mk (blk_below (g := gb589) (bk_q BK589) hb); replace HB := Aside0.mk (below_step (bw_q HB) hb); (try clear hb); (try clear hb2); (try clear hk); (try clear hi)))
          go_ret2
          exact ⟨er_q, bw_q HB⟩
      ·rw [if_neg c25] at H
       exact absurd H (by simp)
  ·rw [if_neg c9] at H
   exact absurd H (by simp)
 ·replace c7 := Bool.eq_false_iff.mpr c7; subst c7
  replace H : (some ((⟨#[]⟩ : ByteArray), false)) = some (r1, r2) := by rw [if_neg (show ¬ (false = true) by decide)] at H; exact H
  simp only [Option.some.injEq, Prod.mk.injEq] at H
  obtain ⟨rfl, rfl⟩ := H
  go_wp2
  go_ret2
  exact ⟨er_q, bw_q HB⟩

end Go.Proofs.Ytnecbkognpponaa.Q

/- A Go function as a Lean function, and its contract: for every input the Go code comes to what the Lean function tells. -/






namespace Go.Proofs.Ytnecbkognpponaa.Q
open Go.RowKit Go.Proofs.YtnecbkognpponaaW.PrintWords Go.Proofs.YtnecbkognpponaaW.PrintLast Go.Proofs.YtnecbkognpponaaW.PrintMore
attribute [local go_sem] max2_int min2_int max_two min_two max_three min_three max_four min_four   -- for this text's walks alone
set_option linter.unusedVariables false
set_option linter.unusedSimpArgs false

/-! ### laws_FnExactPacketText: function 4 -/
def laws_FnExactPacketText.j0 : Nat → Bool → Int → Int → Int → Int → List Int → List (S100) → Int → Int → Int → Int → List Int → List (S24) → Option (Bool)
 | 0, _, _, _, _, _, _, _, _, _, _, _, _, _ => none
 | k + 1, x34, x631000, x631001, x631002, x631003, x631004, x631005, x655000, x655001, x655002, x655003, x655004, x655005 => if x34 = true then (some false) else ((laws_toPacket.f k x631000 x631001 x631002 x631003 x631004 x631005).bind fun bt657 => ((laws_eqPacket.f k x655000 x655001 x655002 x655003 x655004 x655005 bt657.1 bt657.2.1 bt657.2.2.1 bt657.2.2.2.1 bt657.2.2.2.2.1 bt657.2.2.2.2.2).bind fun t667 => (if t667 = true then (some true) else (some false))))
def laws_FnExactPacketText.f (k : Nat) (a0_0 : Int) (a0_1 : Int) (a0_2 : Int) (a0_3 : Int) (l0_4 : List Int) (l0_5 : List (S100)) : Option (Bool) := (laws_szPacket.f k a0_0 a0_1 a0_2 a0_3 l0_4 l0_5 1048576).bind fun t631 => (if t631 < 0 then (some true) else ((laws_toPacket.f k a0_0 a0_1 a0_2 a0_3 l0_4 l0_5).bind fun bt632 => ((spec_PacketText.f k bt632.1 bt632.2.1 bt632.2.2.1 bt632.2.2.2.1 bt632.2.2.2.2.1 bt632.2.2.2.2.2).bind fun bt642 => ((laws_toPacket.f k a0_0 a0_1 a0_2 a0_3 l0_4 l0_5).bind fun bt644 => ((impl_PacketText.f k bt644.1 bt644.2.1 bt644.2.2.1 bt644.2.2.2.1 bt644.2.2.2.2.1 bt644.2.2.2.2.2).bind fun bt655 => (if bt655.1.toList = bt642.1.toList then (laws_FnExactPacketText.j0 k (bt655.2 != bt642.2) a0_0 a0_1 a0_2 a0_3 l0_4 l0_5 bt644.1 bt644.2.1 bt644.2.2.1 bt644.2.2.2.1 bt644.2.2.2.2.1 bt644.2.2.2.2.2) else (laws_FnExactPacketText.j0 k true a0_0 a0_1 a0_2 a0_3 l0_4 l0_5 bt644.1 bt644.2.1 bt644.2.2.1 bt644.2.2.2.1 bt644.2.2.2.2.1 bt644.2.2.2.2.2)))))))
theorem laws_FnExactPacketText.mono_l : ∀ k, (∀ y0 y1 y2 y3 y4 y5 y6 y7 y8 y9 y10 y11 y12, LeO (laws_FnExactPacketText.j0 k y0 y1 y2 y3 y4 y5 y6 y7 y8 y9 y10 y11 y12) (laws_FnExactPacketText.j0 (k + 1) y0 y1 y2 y3 y4 y5 y6 y7 y8 y9 y10 y11 y12))
 | 0 => fun _ _ _ _ _ _ _ _ _ _ _ _ _ r h => by simp [laws_FnExactPacketText.j0] at h
 | k + 1 => by
  have ih0 := laws_FnExactPacketText.mono_l k
  ·intro y0 y1 y2 y3 y4 y5 y6 y7 y8 y9 y10 y11 y12
   unfold laws_FnExactPacketText.j0
   repeat' first
   | (with_reducible exact ih0 _ _ _ _ _ _ _ _ _ _ _ _ _)
   | (with_reducible exact impl_PacketText.mono _ _ _ _ _ _ _)
   | (with_reducible exact laws_eqPacket.mono _ _ _ _ _ _ _ _ _ _ _ _ _)
   | (with_reducible exact laws_szPacket.mono _ _ _ _ _ _ _ _)
   | (with_reducible exact laws_toPacket.mono _ _ _ _ _ _ _)
   | (with_reducible exact spec_PacketText.mono _ _ _ _ _ _ _)
   | (with_reducible exact LeO.refl _)
   | (with_reducible exact LeO.none _)
   | (with_reducible refine LeO.ite ?_ ?_)
   | (with_reducible refine LeO.bind ?_ (fun _ => ?_))
   | exact ih0 _ _ _ _ _ _ _ _ _ _ _ _ _
   | exact impl_PacketText.mono _ _ _ _ _ _ _
   | exact laws_eqPacket.mono _ _ _ _ _ _ _ _ _ _ _ _ _
   | exact laws_szPacket.mono _ _ _ _ _ _ _ _
   | exact laws_toPacket.mono _ _ _ _ _ _ _
   | exact spec_PacketText.mono _ _ _ _ _ _ _
   | exact LeO.none _
   | refine LeO.ite ?_ ?_
   | refine LeO.bind ?_ (fun _ => ?_)
theorem laws_FnExactPacketText.mono : ∀ a0 a1 a2 a3 a4 a5 k, LeO (laws_FnExactPacketText.f k a0 a1 a2 a3 a4 a5) (laws_FnExactPacketText.f (k + 1) a0 a1 a2 a3 a4 a5) := by
 intro a0 a1 a2 a3 a4 a5 k
 have ih0 := laws_FnExactPacketText.mono_l k
 unfold laws_FnExactPacketText.f
 repeat' first
   | (with_reducible exact ih0 _ _ _ _ _ _ _ _ _ _ _ _ _)
   | (with_reducible exact impl_PacketText.mono _ _ _ _ _ _ _)
   | (with_reducible exact laws_eqPacket.mono _ _ _ _ _ _ _ _ _ _ _ _ _)
   | (with_reducible exact laws_szPacket.mono _ _ _ _ _ _ _ _)
   | (with_reducible exact laws_toPacket.mono _ _ _ _ _ _ _)
   | (with_reducible exact spec_PacketText.mono _ _ _ _ _ _ _)
   | (with_reducible exact LeO.refl _)
   | (with_reducible exact LeO.none _)
   | (with_reducible refine LeO.ite ?_ ?_)
   | (with_reducible refine LeO.bind ?_ (fun _ => ?_))
   | exact ih0 _ _ _ _ _ _ _ _ _ _ _ _ _
   | exact impl_PacketText.mono _ _ _ _ _ _ _
   | exact laws_eqPacket.mono _ _ _ _ _ _ _ _ _ _ _ _ _
   | exact laws_szPacket.mono _ _ _ _ _ _ _ _
   | exact laws_toPacket.mono _ _ _ _ _ _ _
   | exact spec_PacketText.mono _ _ _ _ _ _ _
   | exact LeO.none _
   | refine LeO.ite ?_ ?_
   | refine LeO.bind ?_ (fun _ => ?_)
set_option maxHeartbeats 8000000 in
set_option maxRecDepth 100000 in
theorem laws_FnExactPacketText.calls (k : Nat) (a0_0 : Int) (a0_1 : Int) (a0_2 : Int) (a0_3 : Int) (A0_4 : Option Addr) (c0_4 : Nat) (l0_4 : List Int) (A0_5 : Option Addr) (c0_5 : Nat) (l0_5 : List (S100)) (r : Bool) (w : World) (hr0_4 : Kd.C (Kd.int .i64) w A0_4 l0_4.length l0_4) (hc0_4 : l0_4.length ≤ c0_4) (hr0_5 : Kd.C k100 w A0_5 l0_5.length l0_5) (hc0_5 : l0_5.length ≤ c0_5) (hr_ : r = true) (h : laws_FnExactPacketText.f k a0_0 a0_1 a0_2 a0_3 l0_4 l0_5 = some r) :
  Calls Try.prog 4 #[.agg #[.int .i64 a0_0, .int .i64 a0_1, .int .i64 a0_2, .int .i64 a0_3, .slice A0_4 l0_4.length c0_4, .slice A0_5 l0_5.length c0_5]] w fun e w' => e = .returned (.bool r) ∧ Below w.heap.size w w' := by
 have hu33 := Try.underlying33; have hu39 := Try.underlying39; have HR0_4 := Aside0.mk hr0_4; have HC0_4 := Aside0.mk hc0_4; clear hr0_4 hc0_4; have HR0_5 := Aside0.mk hr0_5; have HC0_5 := Aside0.mk hc0_5; clear hr0_5 hc0_5; have HB := Aside0.mk (Below.refl w.heap.size w)
 have H : ((laws_szPacket.f k a0_0 a0_1 a0_2 a0_3 l0_4 l0_5 1048576).bind fun t631 => (if t631 < 0 then (some true) else ((laws_toPacket.f k a0_0 a0_1 a0_2 a0_3 l0_4 l0_5).bind fun bt632 => ((spec_PacketText.f k bt632.1 bt632.2.1 bt632.2.2.1 bt632.2.2.2.1 bt632.2.2.2.2.1 bt632.2.2.2.2.2).bind fun bt642 => ((laws_toPacket.f k a0_0 a0_1 a0_2 a0_3 l0_4 l0_5).bind fun bt644 => ((impl_PacketText.f k bt644.1 bt644.2.1 bt644.2.2.1 bt644.2.2.2.1 bt644.2.2.2.2.1 bt644.2.2.2.2.2).bind fun bt655 => (if bt655.1.toList = bt642.1.toList then (laws_FnExactPacketText.j0 k (bt655.2 != bt642.2) a0_0 a0_1 a0_2 a0_3 l0_4 l0_5 bt644.1 bt644.2.1 bt644.2.2.1 bt644.2.2.2.1 bt644.2.2.2.2.1 bt644.2.2.2.2.2) else (laws_FnExactPacketText.j0 k true a0_0 a0_1 a0_2 a0_3 l0_4 l0_5 bt644.1 bt644.2.1 bt644.2.2.1 bt644.2.2.2.1 bt644.2.2.2.2.1 bt644.2.2.2.2.2)))))))) = some r := h
 clear h; replace H := Option.bind_eq_some_iff.mp H; obtain ⟨t631, A20, H⟩ := H
 replace H : (if t631 < 0 then (some true) else ((laws_toPacket.f k a0_0 a0_1 a0_2 a0_3 l0_4 l0_5).bind fun bt632 => ((spec_PacketText.f k bt632.1 bt632.2.1 bt632.2.2.1 bt632.2.2.2.1 bt632.2.2.2.2.1 bt632.2.2.2.2.2).bind fun bt642 => ((laws_toPacket.f k a0_0 a0_1 a0_2 a0_3 l0_4 l0_5).bind fun bt644 => ((impl_PacketText.f k bt644.1 bt644.2.1 bt644.2.2.1 bt644.2.2.2.1 bt644.2.2.2.2.1 bt644.2.2.2.2.2).bind fun bt655 => (if bt655.1.toList = bt642.1.toList then (laws_FnExactPacketText.j0 k (bt655.2 != bt642.2) a0_0 a0_1 a0_2 a0_3 l0_4 l0_5 bt644.1 bt644.2.1 bt644.2.2.1 bt644.2.2.2.1 bt644.2.2.2.2.1 bt644.2.2.2.2.2) else (laws_FnExactPacketText.j0 k true a0_0 a0_1 a0_2 a0_3 l0_4 l0_5 bt644.1 bt644.2.1 bt644.2.2.1 bt644.2.2.2.1 bt644.2.2.2.2.1 bt644.2.2.2.2.2))))))) = some r := H
 have A2 := Aside0.mk A20; clear A20; have HC3 := Aside0.mk H; clear H
 go_enter Try.func4, Try.ntmps4
 go_upto_if 13 with (first | ((with_reducible refine gate_dst (N := 1) rfl ?_); refine box_q 1 #[.int .i64 a0_0, .int .i64 a0_1, .int .i64 a0_2, .int .i64 a0_3, .slice A0_4 l0_4.length c0_4, .slice A0_5 l0_5.length c0_5] 33 ?_; intro gb630 hg w4 hbox hb; have BK630 := Aside0.mk (hbox); have GW630 := Aside0.mk ((by rw [hg]; exact (below_size (bw_q HB)) : w.heap.size ≤ gb630)); have GE630 := Aside0.mk ((by rw [hg]; exact (below_size (bw_q HB)) : w.heap.size ≤ gb630)); replace HB := Aside0.mk (below_step (bw_q HB) hb); clear hb hbox hg; have hcz5_0 : w4.cell? ⟨gb630, 0, none⟩ = some (.int .i64 a0_0) := (blk_cell BK630.out 0).trans rfl; have hcz5_1 : w4.cell? ⟨gb630, 1, none⟩ = some (.int .i64 a0_1) := (blk_cell BK630.out 1).trans rfl; have hcz5_2 : w4.cell? ⟨gb630, 2, none⟩ = some (.int .i64 a0_2) := (blk_cell BK630.out 2).trans rfl; have hcz5_3 : w4.cell? ⟨gb630, 3, none⟩ = some (.int .i64 a0_3) := (blk_cell BK630.out 3).trans rfl; have hcz5_4 : w4.cell? ⟨gb630, 4, none⟩ = some (.slice A0_4 l0_4.length c0_4) := (blk_cell BK630.out 4).trans rfl; have hcz5_5 : w4.cell? ⟨gb630, 5, none⟩ = some (.slice A0_5 l0_5.length c0_5) := (blk_cell BK630.out 5).trans rfl; have hfz5_0 := blk_frozen BK630.out 0; have hfz5_1 := blk_frozen BK630.out 1; have hfz5_2 := blk_frozen BK630.out 2; have hfz5_3 := blk_frozen BK630.out 3; have hfz5_4 := blk_frozen BK630.out 4; have hfz5_5 := blk_frozen BK630.out 5) | ((with_reducible refine gate_callee (f := 14) rfl ?_); refine goesL_ (some 11) rfl rfl Try.func14 (by kernel_rfl) rfl #[.agg #[.int .i64 a0_0, .int .i64 a0_1, .int .i64 a0_2, .int .i64 a0_3, .slice A0_4 l0_4.length c0_4, .slice A0_5 l0_5.length c0_5], .int .i64 1048576] rfl mp_q ?_; (with_reducible refine (laws_szPacket.calls k a0_0 a0_1 a0_2 a0_3 _ _ l0_4 _ _ l0_5 1048576 t631 _ ?side1 ?side2 ?side3 ?side4 A2.out).mono ?_); (case side1 => exact cs_q (Kd.C_below HR0_4.out HB.out)); (case side2 => exact HC0_4.out); (case side3 => exact cs_q (Kd.C_below HR0_5.out HB.out)); (case side4 => exact HC0_5.out); rintro e w6 ⟨rfl, hb⟩; refine ⟨_, rfl, ?_⟩; replace BK630 := Aside0.mk (blk_below (g := gb630) (bk_q BK630) hb); replace HB := Aside0.mk (below_step (bw_q HB) hb); (try clear hb); (try clear hb2); (try clear hk); (try clear hi)))
 have H := HC3.out; clear HC3
 by_cases c7 : t631 < 0
 ·rw [if_pos c7] at H
  have c7b0 : decide (t631 < 0) = true := decide_eq_true c7
  clear c7
  (first | rw [c7b0] | rw [c7b1] | (simp only [i64_w, i32_w]; first | rw [c7b0] | rw [c7b1]) | skip)
  obtain rfl := Option.some.inj H
  go_wp2
  go_ret
  exact ⟨er_q, bw_q HB⟩
 ·rw [if_neg c7] at H
  have c7b0 : decide (t631 < 0) = false := decide_eq_false c7
  clear c7
  (first | rw [c7b0] | rw [c7b1] | (simp only [i64_w, i32_w]; first | rw [c7b0] | rw [c7b1]) | skip)
  replace H := Option.bind_eq_some_iff.mp H; obtain ⟨⟨t632, t633, t634, t635, t636, t639⟩, A80, H⟩ := H
  replace H : ((spec_PacketText.f k t632 t633 t634 t635 t636 t639).bind fun bt642 => ((laws_toPacket.f k a0_0 a0_1 a0_2 a0_3 l0_4 l0_5).bind fun bt644 => ((impl_PacketText.f k bt644.1 bt644.2.1 bt644.2.2.1 bt644.2.2.2.1 bt644.2.2.2.2.1 bt644.2.2.2.2.2).bind fun bt655 => (if bt655.1.toList = bt642.1.toList then (laws_FnExactPacketText.j0 k (bt655.2 != bt642.2) a0_0 a0_1 a0_2 a0_3 l0_4 l0_5 bt644.1 bt644.2.1 bt644.2.2.1 bt644.2.2.2.1 bt644.2.2.2.2.1 bt644.2.2.2.2.2) else (laws_FnExactPacketText.j0 k true a0_0 a0_1 a0_2 a0_3 l0_4 l0_5 bt644.1 bt644.2.1 bt644.2.2.1 bt644.2.2.2.1 bt644.2.2.2.2.1 bt644.2.2.2.2.2))))) = some r := H
  have A8 := Aside0.mk A80; clear A80; replace H := Option.bind_eq_some_iff.mp H; obtain ⟨⟨t642, t643⟩, A90, H⟩ := H
  replace H : ((laws_toPacket.f k a0_0 a0_1 a0_2 a0_3 l0_4 l0_5).bind fun bt644 => ((impl_PacketText.f k bt644.1 bt644.2.1 bt644.2.2.1 bt644.2.2.2.1 bt644.2.2.2.2.1 bt644.2.2.2.2.2).bind fun bt655 => (if bt655.1.toList = t642.toList then (laws_FnExactPacketText.j0 k (bt655.2 != t643) a0_0 a0_1 a0_2 a0_3 l0_4 l0_5 bt644.1 bt644.2.1 bt644.2.2.1 bt644.2.2.2.1 bt644.2.2.2.2.1 bt644.2.2.2.2.2) else (laws_FnExactPacketText.j0 k true a0_0 a0_1 a0_2 a0_3 l0_4 l0_5 bt644.1 bt644.2.1 bt644.2.2.1 bt644.2.2.2.1 bt644.2.2.2.2.1 bt644.2.2.2.2.2)))) = some r := H
  have A9 := Aside0.mk A90; clear A90; replace H := Option.bind_eq_some_iff.mp H; obtain ⟨⟨t644, t645, t646, t647, t648, t651⟩, A100, H⟩ := H
  replace H : ((impl_PacketText.f k t644 t645 t646 t647 t648 t651).bind fun bt655 => (if bt655.1.toList = t642.toList then (laws_FnExactPacketText.j0 k (bt655.2 != t643) a0_0 a0_1 a0_2 a0_3 l0_4 l0_5 t644 t645 t646 t647 t648 t651) else (laws_FnExactPacketText.j0 k true a0_0 a0_1 a0_2 a0_3 l0_4 l0_5 t644 t645 t646 t647 t648 t651))) = some r := H
  have A10 := Aside0.mk A100; clear A100; replace H := Option.bind_eq_some_iff.mp H; obtain ⟨⟨t655, t656⟩, A110, H⟩ := H
  replace H : (if t655.toList = t642.toList then (laws_FnExactPacketText.j0 k (t656 != t643) a0_0 a0_1 a0_2 a0_3 l0_4 l0_5 t644 t645 t646 t647 t648 t651) else (laws_FnExactPacketText.j0 k true a0_0 a0_1 a0_2 a0_3 l0_4 l0_5 t644 t645 t646 t647 t648 t651)) = some r := H
  have A11 := Aside0.mk A110; clear A110; have HC12 := Aside0.mk H; clear H
  have hcz13_0 : w6.cell? ⟨gb630, 0, none⟩ = some (.int .i64 a0_0) := (blk_cell BK630.out 0).trans rfl
  have hcz13_1 : w6.cell? ⟨gb630, 1, none⟩ = some (.int .i64 a0_1) := (blk_cell BK630.out 1).trans rfl
  have hcz13_2 : w6.cell? ⟨gb630, 2, none⟩ = some (.int .i64 a0_2) := (blk_cell BK630.out 2).trans rfl
  have hcz13_3 : w6.cell? ⟨gb630, 3, none⟩ = some (.int .i64 a0_3) := (blk_cell BK630.out 3).trans rfl
  have hcz13_4 : w6.cell? ⟨gb630, 4, none⟩ = some (.slice A0_4 l0_4.length c0_4) := (blk_cell BK630.out 4).trans rfl
  have hcz13_5 : w6.cell? ⟨gb630, 5, none⟩ = some (.slice A0_5 l0_5.length c0_5) := (blk_cell BK630.out 5).trans rfl
  have hfz13_0 := blk_frozen BK630.out 0; have hfz13_1 := blk_frozen BK630.out 1; have hfz13_2 := blk_frozen BK630.out 2; have hfz13_3 := blk_frozen BK630.out 3; have hfz13_4 := blk_frozen BK630.out 4; have hfz13_5 := blk_frozen BK630.out 5
  go_upto_region 8 with (first | ((with_reducible refine gate_callee (f := 16) rfl ?_); refine goesL_ (some 16) rfl rfl Try.func16 (by kernel_rfl) rfl #[.agg #[.int .i64 a0_0, .int .i64 a0_1, .int .i64 a0_2, .int .i64 a0_3, .slice A0_4 l0_4.length c0_4, .slice A0_5 l0_5.length c0_5]] rfl mp_q ?_; (with_reducible refine (laws_toPacket.calls k a0_0 a0_1 a0_2 a0_3 _ _ l0_4 _ _ l0_5 t632 t633 t634 t635 t636 t639 _ ?side1 ?side2 ?side3 ?side4 A8.out).mono ?_); (case side1 => exact cs_q (Kd.C_below HR0_4.out HB.out)); (case side2 => exact HC0_4.out); (case side3 => exact cs_q (Kd.C_below HR0_5.out HB.out)); (case side4 => exact HC0_5.out); rintro e w14 ⟨v637, v640, rfl, ho0, ho1, hb⟩; refine ⟨_, rfl, ?_⟩; have hs_v637 : (v637 : Value).oneCell' = true := (by first | (have h_ := Kd.R_slice ho0; obtain ⟨A_, c_, e_⟩ := h_; simp [e_, Value.oneCell']) | (have h_ := Kd.S_slice ho0; obtain ⟨A_, c_, e_⟩ := h_; simp [e_, Value.oneCell']) | (have h_ := Kd.N_slice ho0; obtain ⟨A_, c_, e_⟩ := h_; simp [e_, Value.oneCell']) | (have h_ := Kd.V_slice ho0; obtain ⟨A_, c_, e_⟩ := h_; simp [e_, Value.oneCell'])); have hst_v637 := fun (w_ : World) (a_ : Addr) m_ => run_store Try.prog w_ a_ v637 m_ hs_v637; have hs_v640 : (v640 : Value).oneCell' = true := (by first | (have h_ := Kd.R_slice ho1; obtain ⟨A_, c_, e_⟩ := h_; simp [e_, Value.oneCell']) | (have h_ := Kd.S_slice ho1; obtain ⟨A_, c_, e_⟩ := h_; simp [e_, Value.oneCell']) | (have h_ := Kd.N_slice ho1; obtain ⟨A_, c_, e_⟩ := h_; simp [e_, Value.oneCell']) | (have h_ := Kd.V_slice ho1; obtain ⟨A_, c_, e_⟩ := h_; simp [e_, Value.oneCell'])); have hst_v640 := fun (w_ : World) (a_ : Addr) m_ => run_store Try.prog w_ a_ v640 m_ hs_v640; have HO638 := Aside0.mk (Kd.R_lower ho0 (below_size (bw_q HB))); have HO641 := Aside0.mk (Kd.S_lower ho1 (below_size (bw_q HB))); replace BK630 := Aside0.mk (blk_below (g := gb630) (bk_q BK630) hb); replace HB := Aside0.mk (below_step (bw_q HB) hb); (try clear hb); (try clear hb2); (try clear hk); (try clear hi); (try clear ho0); (try clear ho1); obtain ⟨Ao15, co15, eo15⟩ := Kd.R_slice HO638.out; subst eo15; obtain ⟨Ao16, co16, eo16⟩ := Kd.S_slice HO641.out; subst eo16) | ((with_reducible refine gate_callee (f := 15) rfl ?_); refine goesL_ (some 17) rfl rfl Try.func15 (by kernel_rfl) rfl #[.agg #[.int .i64 t632, .int .i64 t633, .int .i64 t634, .int .i64 t635, .slice Ao15 t636.length co15, .slice Ao16 t639.length co16]] rfl mp_q ?_; (with_reducible refine (spec_PacketText.calls k t632 t633 t634 t635 _ _ t636 _ _ t639 t642 t643 _ ?side1 ?side2 ?side3 ?side4 A9.out).mono ?_); (case side1 => repeat (first | exact (Kd.R_reads' HO638.out).2.2 | (with_reducible refine Kd.C_alloc ?_ _) | (with_reducible refine Kd.C_drewN ?_ _) | (with_reducible refine Kd.C_drew ?_))); (case side2 => exact (Kd.R_reads' HO638.out).2.1); (case side3 => repeat (first | exact (Kd.S_reads' HO641.out).2.2 | (with_reducible refine Kd.C_alloc ?_ _) | (with_reducible refine Kd.C_drewN ?_ _) | (with_reducible refine Kd.C_drew ?_))); (case side4 => exact (Kd.S_reads' HO641.out).2.1); rintro e w17 ⟨rfl, hb⟩; refine ⟨_, rfl, ?_⟩; replace HO638 := Aside0.mk (Kd.R_below (kR_q HO638) hb); replace HO641 := Aside0.mk (Kd.S_below (kS_q HO641) hb); replace BK630 := Aside0.mk (blk_below (g := gb630) (bk_q BK630) hb); replace HB := Aside0.mk (below_step (bw_q HB) hb); (try clear hb); (try clear hb2); (try clear hk); (try clear hi); have hcz18_0 : w17.cell? ⟨gb630, 0, none⟩ = some (.int .i64 a0_0) := (blk_cell BK630.out 0).trans rfl; have hcz18_1 : w17.cell? ⟨gb630, 1, none⟩ = some (.int .i64 a0_1) := (blk_cell BK630.out 1).trans rfl; have hcz18_2 : w17.cell? ⟨gb630, 2, none⟩ = some (.int .i64 a0_2) := (blk_cell BK630.out 2).trans rfl; have hcz18_3 : w17.cell? ⟨gb630, 3, none⟩ = some (.int .i64 a0_3) := (blk_cell BK630.out 3).trans rfl; have hcz18_4 : w17.cell? ⟨gb630, 4, none⟩ = some (.slice A0_4 l0_4.length c0_4) := (blk_cell BK630.out 4).trans rfl; have hcz18_5 : w17.cell? ⟨gb630, 5, none⟩ = some (.slice A0_5 l0_5.length c0_5) := (blk_cell BK630.out 5).trans rfl; have hfz18_0 := blk_frozen BK630.out 0; have hfz18_1 := blk_frozen BK630.out 1; have hfz18_2 := blk_frozen BK630.out 2; have hfz18_3 := blk_frozen BK630.out 3; have hfz18_4 := blk_frozen BK630.out 4; have hfz18_5 := blk_frozen BK630.out 5) | ((with_reducible refine gate_callee (f := 16) rfl ?_); refine goesL_ (some 21) rfl rfl Try.func16 (by kernel_rfl) rfl #[.agg #[.int .i64 a0_0, .int .i64 a0_1, .int .i64 a0_2, .int .i64 a0_3, .slice A0_4 l0_4.length c0_4, .slice A0_5 l0_5.length c0_5]] rfl mp_q ?_; (with_reducible refine (laws_toPacket.calls k a0_0 a0_1 a0_2 a0_3 _ _ l0_4 _ _ l0_5 t644 t645 t646 t647 t648 t651 _ ?side1 ?side2 ?side3 ?side4 A10.out).mono ?_); (case side1 => exact cs_q (Kd.C_below HR0_4.out HB.out)); (case side2 => exact HC0_4.out); (case side3 => exact cs_q (Kd.C_below HR0_5.out HB.out)); (case side4 => exact HC0_5.out); rintro e w19 ⟨v649, v652, rfl, ho0, ho1, hb⟩; refine ⟨_, rfl, ?_⟩; have hs_v649 : (v649 : Value).oneCell' = true := (by first | (have h_ := Kd.R_slice ho0; obtain ⟨A_, c_, e_⟩ := h_; simp [e_, Value.oneCell']) | (have h_ := Kd.S_slice ho0; obtain ⟨A_, c_, e_⟩ := h_; simp [e_, Value.oneCell']) | (have h_ := Kd.N_slice ho0; obtain ⟨A_, c_, e_⟩ := h_; simp [e_, Value.oneCell']) | (have h_ := Kd.V_slice ho0; obtain ⟨A_, c_, e_⟩ := h_; simp [e_, Value.oneCell'])); have hst_v649 := fun (w_ : World) (a_ : Addr) m_ => run_store Try.prog w_ a_ v649 m_ hs_v649; have hs_v652 : (v652 : Value).oneCell' = true := (by first | (have h_ := Kd.R_slice ho1; obtain ⟨A_, c_, e_⟩ := h_; simp [e_, Value.oneCell']) | (have h_ := Kd.S_slice ho1; obtain ⟨A_, c_, e_⟩ := h_; simp [e_, Value.oneCell']) | (have h_ := Kd.N_slice ho1; obtain ⟨A_, c_, e_⟩ := h_; simp [e_, Value.oneCell']) | (have h_ := Kd.V_slice ho1; obtain ⟨A_, c_, e_⟩ := h_; simp [e_, Value.oneCell'])); have hst_v652 := fun (w_ : World) (a_ : Addr) m_ => run_store Try.prog w_ a_ v652 m_ hs_v652; have HO650 := Aside0.mk (Kd.R_lower (Kd.R_new' ho0 (Kd.R_lt (kR_q HO638))) (below_size (bw_q HB))); replace HO638 := Aside0.mk (Kd.R_elder' (kR_q HO638) (Kd.R_base ho0) hb); have HO653 := Aside0.mk (Kd.S_lower (Kd.S_new' ho1 (Kd.S_lt (kS_q HO641))) (below_size (bw_q HB))); replace HO641 := Aside0.mk (Kd.S_elder' (kS_q HO641) (Kd.S_base ho1) hb); replace BK630 := Aside0.mk (blk_below (g := gb630) (bk_q BK630) hb); replace HB := Aside0.mk (below_step (bw_q HB) hb); (try clear hb); (try clear hb2); (try clear hk); (try clear hi); (try clear ho0); (try clear ho1)) | ((with_reducible refine gate_dst (N := 6) rfl ?_); refine box_q 6 #[.int .i64 0, .int .i64 0, .int .i64 0, .int .i64 0, .slice none 0 0, .slice none 0 0] 39 ?_; intro gb654 hg w20 hbox hb; replace HO638 := Aside0.mk (Kd.R_below (kR_q HO638) hb); replace HO641 := Aside0.mk (Kd.S_below (kS_q HO641) hb); replace HO650 := Aside0.mk (Kd.R_below (kR_q HO650) hb); replace HO653 := Aside0.mk (Kd.S_below (kS_q HO653) hb); have BK654 := Aside0.mk (hbox); have GW654 := Aside0.mk ((by rw [hg]; exact (below_size (bw_q HB)) : w.heap.size ≤ gb654)); have GE654 := Aside0.mk ((by rw [hg]; exact (below_size (bw_q HB)) : w.heap.size ≤ gb654)); replace HB := Aside0.mk (below_step (bw_q HB) hb); have NB630_654 := Aside0.mk ((by rw [hg]; exact Nat.ne_of_lt (blk_lt (g := gb630) (o := .cells #[.int .i64 a0_0, .int .i64 a0_1, .int .i64 a0_2, .int .i64 a0_3, .slice A0_4 l0_4.length c0_4, .slice A0_5 l0_5.length c0_5] 33 (0, 0)) (bk_q BK630)) : gb630 ≠ gb654)); have NB654_630 := Aside0.mk ((by rw [hg]; exact Nat.ne_of_gt (blk_lt (g := gb630) (o := .cells #[.int .i64 a0_0, .int .i64 a0_1, .int .i64 a0_2, .int .i64 a0_3, .slice A0_4 l0_4.length c0_4, .slice A0_5 l0_5.length c0_5] 33 (0, 0)) (bk_q BK630)) : gb654 ≠ gb630)); replace BK630 := Aside0.mk (blk_below (g := gb630) (bk_q BK630) hb); clear hb hbox hg; have hnb21 := NB654_630.out; have hnc21 := NB630_654.out; have hcz22_0 : w20.cell? ⟨gb654, 0, none⟩ = some (.int .i64 0) := (blk_cell BK654.out 0).trans rfl; have hcz22_1 : w20.cell? ⟨gb654, 1, none⟩ = some (.int .i64 0) := (blk_cell BK654.out 1).trans rfl; have hcz22_2 : w20.cell? ⟨gb654, 2, none⟩ = some (.int .i64 0) := (blk_cell BK654.out 2).trans rfl; have hcz22_3 : w20.cell? ⟨gb654, 3, none⟩ = some (.int .i64 0) := (blk_cell BK654.out 3).trans rfl; have hcz22_4 : w20.cell? ⟨gb654, 4, none⟩ = some (.slice none 0 0) := (blk_cell BK654.out 4).trans rfl; have hcz22_5 : w20.cell? ⟨gb654, 5, none⟩ = some (.slice none 0 0) := (blk_cell BK654.out 5).trans rfl; have hfz22_0 := blk_frozen BK654.out 0; have hfz22_1 := blk_frozen BK654.out 1; have hfz22_2 := blk_frozen BK654.out 2; have hfz22_3 := blk_frozen BK654.out 3; have hfz22_4 := blk_frozen BK654.out 4; have hfz22_5 := blk_frozen BK654.out 5; obtain ⟨Ao23, co23, eo23⟩ := Kd.R_slice HO650.out; subst eo23; obtain ⟨Ao24, co24, eo24⟩ := Kd.S_slice HO653.out; subst eo24) | ((with_reducible refine gate_callee (f := 17) rfl ?_); refine goesL_ (some 24) rfl rfl Try.func17 (by kernel_rfl) rfl #[.agg #[.int .i64 t644, .int .i64 t645, .int .i64 t646, .int .i64 t647, .slice Ao23 t648.length co23, .slice Ao24 t651.length co24]] rfl mp_q ?_; (with_reducible refine (impl_PacketText.calls k t644 t645 t646 t647 _ _ t648 _ _ t651 t655 t656 _ ?side1 ?side2 ?side3 ?side4 A11.out).mono ?_); (case side1 => refine (Kd.R_reads' (e := 3) (base := w.heap.size) (ok := fun k_ => (True ∧ some k_ ≠ (.slice Ao15 t636.length co15 : Value).ownBlock)) (n := t648.length) (c := co23) ?_).2.2; exact (by (with_reducible repeat (first | apply Kd.R_alloc | apply Kd.R_drewN | apply Kd.R_drew)); exact (Kd.R_mono (Kd.R_far (p := ⟨gb654, 5, none⟩) (Kd.R_far (p := ⟨gb654, 4, none⟩) (Kd.R_far (p := ⟨gb654, 3, none⟩) (Kd.R_far (p := ⟨gb654, 2, none⟩) (Kd.R_far (p := ⟨gb654, 1, none⟩) (Kd.R_far (p := ⟨gb654, 0, none⟩) (Kd.R_types HO650.out BK654.out (by decide)) (fun _ hk => hk.2) (.int .i64 t644)) (fun _ hk => hk.2) (.int .i64 t645)) (fun _ hk => hk.2) (.int .i64 t646)) (fun _ hk => hk.2) (.int .i64 t647)) (fun _ hk => hk.2) (.slice Ao23 t648.length co23)) (fun _ hk => hk.2) (.slice Ao24 t651.length co24)) (fun _ h_ => h_.1)))); (case side2 => exact (Kd.R_reads' HO650.out).2.1); (case side3 => refine (Kd.S_reads' (e := 24) (base := w.heap.size) (ok := fun k_ => (True ∧ some k_ ≠ (.slice Ao16 t639.length co16 : Value).ownBlock)) (n := t651.length) (c := co24) ?_).2.2; exact (by (with_reducible repeat (first | apply Kd.S_alloc | apply Kd.S_drewN | apply Kd.S_drew)); exact (Kd.S_mono (Kd.S_far (p := ⟨gb654, 5, none⟩) (Kd.S_far (p := ⟨gb654, 4, none⟩) (Kd.S_far (p := ⟨gb654, 3, none⟩) (Kd.S_far (p := ⟨gb654, 2, none⟩) (Kd.S_far (p := ⟨gb654, 1, none⟩) (Kd.S_far (p := ⟨gb654, 0, none⟩) (Kd.S_types HO653.out BK654.out (by decide)) (fun _ hk => hk.2) (.int .i64 t644)) (fun _ hk => hk.2) (.int .i64 t645)) (fun _ hk => hk.2) (.int .i64 t646)) (fun _ hk => hk.2) (.int .i64 t647)) (fun _ hk => hk.2) (.slice Ao23 t648.length co23)) (fun _ hk => hk.2) (.slice Ao24 t651.length co24)) (fun _ h_ => h_.1)))); (case side4 => exact (Kd.S_reads' HO653.out).2.1); rintro e w25 ⟨rfl, hb⟩; refine ⟨_, rfl, ?_⟩; replace HO638 := Aside0.mk (Kd.R_below (by (with_reducible repeat (first | apply Kd.R_alloc | apply Kd.R_drewN | apply Kd.R_drew)); exact (Kd.R_mono (Kd.R_far (p := ⟨gb654, 5, none⟩) (Kd.R_far (p := ⟨gb654, 4, none⟩) (Kd.R_far (p := ⟨gb654, 3, none⟩) (Kd.R_far (p := ⟨gb654, 2, none⟩) (Kd.R_far (p := ⟨gb654, 1, none⟩) (Kd.R_far (p := ⟨gb654, 0, none⟩) (Kd.R_types HO638.out BK654.out (by decide)) (fun _ hk => hk.2) (.int .i64 t644)) (fun _ hk => hk.2) (.int .i64 t645)) (fun _ hk => hk.2) (.int .i64 t646)) (fun _ hk => hk.2) (.int .i64 t647)) (fun _ hk => hk.2) (.slice Ao23 t648.length co23)) (fun _ hk => hk.2) (.slice Ao24 t651.length co24)) (fun _ h_ => h_.1))) hb); replace HO641 := Aside0.mk (Kd.S_below (by (with_reducible repeat (first | apply Kd.S_alloc | apply Kd.S_drewN | apply Kd.S_drew)); exact (Kd.S_mono (Kd.S_far (p := ⟨gb654, 5, none⟩) (Kd.S_far (p := ⟨gb654, 4, none⟩) (Kd.S_far (p := ⟨gb654, 3, none⟩) (Kd.S_far (p := ⟨gb654, 2, none⟩) (Kd.S_far (p := ⟨gb654, 1, none⟩) (Kd.S_far (p := ⟨gb654, 0, none⟩) (Kd.S_types HO641.out BK654.out (by decide)) (fun _ hk => hk.2) (.int .i64 t644)) (fun _ hk => hk.2) (.int .i64 t645)) (fun _ hk => hk.2) (.int .i64 t646)) (fun _ hk => hk.2) (.int .i64 t647)) (fun _ hk => hk.2) (.slice Ao23 t648.length co23)) (fun _ hk => hk.2) (.slice Ao24 t651.length co24)) (fun _ h_ => h_.1))) hb); replace HO650 := Aside0.mk (Kd.R_below (by (with_reducible repeat (first | apply Kd.R_alloc | apply Kd.R_drewN | apply Kd.R_drew)); exact (Kd.R_mono (Kd.R_far (p := ⟨gb654, 5, none⟩) (Kd.R_far (p := ⟨gb654, 4, none⟩) (Kd.R_far (p := ⟨gb654, 3, none⟩) (Kd.R_far (p := ⟨gb654, 2, none⟩) (Kd.R_far (p := ⟨gb654, 1, none⟩) (Kd.R_far (p := ⟨gb654, 0, none⟩) (Kd.R_types HO650.out BK654.out (by decide)) (fun _ hk => hk.2) (.int .i64 t644)) (fun _ hk => hk.2) (.int .i64 t645)) (fun _ hk => hk.2) (.int .i64 t646)) (fun _ hk => hk.2) (.int .i64 t647)) (fun _ hk => hk.2) (.slice Ao23 t648.length co23)) (fun _ hk => hk.2) (.slice Ao24 t651.length co24)) (fun _ h_ => h_.1))) hb); replace HO653 := Aside0.mk (Kd.S_below (by (with_reducible repeat (first | apply Kd.S_alloc | apply Kd.S_drewN | apply Kd.S_drew)); exact (Kd.S_mono (Kd.S_far (p := ⟨gb654, 5, none⟩) (Kd.S_far (p := ⟨gb654, 4, none⟩) (Kd.S_far (p := ⟨gb654, 3, none⟩) (Kd.S_far (p := ⟨gb654, 2, none⟩) (Kd.S_far (p := ⟨gb654, 1, none⟩) (Kd.S_far (p := ⟨gb654, 0, none⟩) (Kd.S_types HO653.out BK654.out (by decide)) (fun _ hk => hk.2) (.int .i64 t644)) (fun _ hk => hk.2) (.int .i64 t645)) (fun _ hk => hk.2) (.int .i64 t646)) (fun _ hk => hk.2) (.int .i64 t647)) (fun _ hk => hk.2) (.slice Ao23 t648.length co23)) (fun _ hk => hk.2) (.slice Ao24 t651.length co24)) (fun _ h_ => h_.1))) hb); replace BK630 := Aside0.mk (blk_below (g := gb630) (o := .cells #[.int .i64 a0_0, .int .i64 a0_1, .int .i64 a0_2, .int .i64 a0_3, .slice A0_4 l0_4.length c0_4, .slice A0_5 l0_5.length c0_5] 33 (0, 0)) (by refine bz_ ?_; refine blk_far ?_ NB630_654.out _; refine bz_ ?_; refine blk_far ?_ NB630_654.out _; refine bz_ ?_; refine blk_far ?_ NB630_654.out _; refine bz_ ?_; refine blk_far ?_ NB630_654.out _; refine bz_ ?_; refine blk_far ?_ NB630_654.out _; refine bz_ ?_; refine blk_far ?_ NB630_654.out _; refine bz_ ?_; exact BK630.out) hb); replace BK654 := Aside0.mk (blk_below (g := gb654) (o := .cells #[.int .i64 t644, .int .i64 t645, .int .i64 t646, .int .i64 t647, .slice Ao23 t648.length co23, .slice Ao24 t651.length co24] 39 (0, 0)) (by refine bz_ ?_; refine blk_put (cs := #[.int .i64 t644, .int .i64 t645, .int .i64 t646, .int .i64 t647, .slice Ao23 t648.length co23, .slice none 0 0]) ?_ 5 _ rfl; refine bz_ ?_; refine blk_put (cs := #[.int .i64 t644, .int .i64 t645, .int .i64 t646, .int .i64 t647, .slice none 0 0, .slice none 0 0]) ?_ 4 _ rfl; refine bz_ ?_; refine blk_put (cs := #[.int .i64 t644, .int .i64 t645, .int .i64 t646, .int .i64 0, .slice none 0 0, .slice none 0 0]) ?_ 3 _ rfl; refine bz_ ?_; refine blk_put (cs := #[.int .i64 t644, .int .i64 t645, .int .i64 0, .int .i64 0, .slice none 0 0, .slice none 0 0]) ?_ 2 _ rfl; refine bz_ ?_; refine blk_put (cs := #[.int .i64 t644, .int .i64 0, .int .i64 0, .int .i64 0, .slice none 0 0, .slice none 0 0]) ?_ 1 _ rfl; refine bz_ ?_; refine blk_put (cs := #[.int .i64 0, .int .i64 0, .int .i64 0, .int .i64 0, .slice none 0 0, .slice none 0 0]) ?_ 0 _ rfl; refine bz_ ?_; exact BK654.out) hb); replace HB := Aside0.mk (below_step (bw_q HB) hb); (try clear hb); (try clear hb2); (try clear hk); (try clear hi)))
  (try simp only [Act.put, List.setIfInBounds_toArray, List.set_cons_zero, List.set_cons_succ])
  go_cut [34] (fun v34 wc => ∃ (kq : Nat) (x34_11 : Bool), v34 = .bool x34_11 ∧ Aside0 (laws_FnExactPacketText.j0 kq x34_11 a0_0 a0_1 a0_2 a0_3 l0_4 l0_5 t644 t645 t646 t647 t648 t651 = some r) ∧ Aside0 (kq ≤ k) ∧ Aside0 (Kd.R (Kd.int .i64) 3 wc w.heap.size (fun _ => True) (.slice Ao23 t648.length co23) t648) ∧ Aside0 (Kd.S k24 24 wc w.heap.size (fun _ => True) (.slice Ao24 t651.length co24) t651) ∧ Aside0 (wc.heap[gb630]? = some (.cells #[.int .i64 a0_0, .int .i64 a0_1, .int .i64 a0_2, .int .i64 a0_3, (.slice A0_4 l0_4.length c0_4), (.slice A0_5 l0_5.length c0_5)] 33 (0, 0))) ∧ Aside0 (wc.heap[gb654]? = some (.cells #[.int .i64 t644, .int .i64 t645, .int .i64 t646, .int .i64 t647, (.slice Ao23 t648.length co23), (.slice Ao24 t651.length co24)] 39 (0, 0))) ∧ Aside0 (Below w.heap.size w wc))
  case first =>
   have H := HC12.out; clear HC12
   by_cases c26 : t655.toList = t642.toList
   ·rw [if_pos c26] at H
    have c26b0 : (t655.toList == t642.toList) = true := beq_iff_eq.mpr c26
    have c26b1 : (t655.toList != t642.toList) = false := bne_eq_false_iff_eq.mpr c26
    clear c26
    (first | rw [c26b0] | rw [c26b1] | (simp only [i64_w, i32_w]; first | rw [c26b0] | rw [c26b1]) | skip)
    have H' := Aside0.mk H; clear H
    go_wp2
    go_meet
    case rel => exact ⟨_, ((t656 != t643)), (by first | rfl | (simp; done) | (simp [*]; done)), H', ⟨by first | omega | exact Nat.le_refl _⟩, ⟨by (with_reducible repeat (first | apply Kd.R_alloc | apply Kd.R_drewN | apply Kd.R_drew)); exact Kd.R_mono HO650.out (fun _ hk => trivial)⟩, ⟨by (with_reducible repeat (first | apply Kd.S_alloc | apply Kd.S_drewN | apply Kd.S_drew)); exact Kd.S_mono HO653.out (fun _ hk => trivial)⟩, ⟨by refine bz_ ?_; exact BK630.out⟩, ⟨by refine bz_ ?_; exact BK654.out⟩, ⟨bw_q HB⟩⟩
   ·rw [if_neg c26] at H
    have c26b0 : (t655.toList == t642.toList) = false := beq_eq_false_iff_ne.mpr c26
    have c26b1 : (t655.toList != t642.toList) = true := bne_iff_ne.mpr c26
    (first | rw [c26b0] | rw [c26b1] | (simp only [i64_w, i32_w]; first | rw [c26b0] | rw [c26b1]) | skip)
    have H' := Aside0.mk H; clear H
    go_wp2
    go_meet
    case rel => exact ⟨_, (true), (by first | rfl | (simp; done) | (simp [*]; done)), H', ⟨by first | omega | exact Nat.le_refl _⟩, ⟨by (with_reducible repeat (first | apply Kd.R_alloc | apply Kd.R_drewN | apply Kd.R_drew)); exact Kd.R_mono HO650.out (fun _ hk => trivial)⟩, ⟨by (with_reducible repeat (first | apply Kd.S_alloc | apply Kd.S_drewN | apply Kd.S_drew)); exact Kd.S_mono HO653.out (fun _ hk => trivial)⟩, ⟨by refine bz_ ?_; exact BK630.out⟩, ⟨by refine bz_ ?_; exact BK654.out⟩, ⟨bw_q HB⟩⟩
  case rest =>
   clear HC12; (try clear c1); (try clear c2); (try clear p2); (try clear c4); (try clear c7); (try clear c7b0); (try clear c7b1); (try clear c14); (try clear c15); (try clear c16); (try clear c17); (try clear c21); (try clear c26); (try clear c26b0); (try clear c26b1); (try clear hcz13_0); (try clear hcz13_1); (try clear hcz13_2); (try clear hcz13_3); (try clear hcz13_4); (try clear hcz13_5); (try clear hcz18_0); (try clear hcz18_1); (try clear hcz18_2); (try clear hcz18_3); (try clear hcz18_4); (try clear hcz18_5); (try clear hcz22_0); (try clear hcz22_1); (try clear hcz22_2); (try clear hcz22_3); (try clear hcz22_4); (try clear hcz22_5); (try clear hcz5_0); (try clear hcz5_1); (try clear hcz5_2); (try clear hcz5_3); (try clear hcz5_4); (try clear hcz5_5); (try clear hfz13_0); (try clear hfz13_1); (try clear hfz13_2); (try clear hfz13_3); (try clear hfz13_4); (try clear hfz13_5); (try clear hfz18_0); (try clear hfz18_1); (try clear hfz18_2); (try clear hfz18_3); (try clear hfz18_4); (try clear hfz18_5); (try clear hfz22_0); (try clear hfz22_1); (try clear hfz22_2); (try clear hfz22_3); (try clear hfz22_4); (try clear hfz22_5); (try clear hfz5_0); (try clear hfz5_1); (try clear hfz5_2); (try clear hfz5_3); (try clear hfz5_4); (try clear hfz5_5); obtain ⟨kq, x34_11, rfl, HA, HJ11, HO_655004, HO_655005, BK630, BK654, HB⟩ := hcut
   cases kq with
   | zero => exact absurd HA.out (by simp [laws_FnExactPacketText.j0])
   | succ kj11 =>
    have H := HA.out; clear HA
    simp only [laws_FnExactPacketText.j0] at H
    by_cases c27 : x34_11 = true
    ·subst c27
     replace H : (some false) = some r := by rw [if_pos rfl] at H; exact H
     exact absurd (Option.some.inj H) (by rw [hr_]; decide)
    ·replace c27 := Bool.eq_false_iff.mpr c27; subst c27
     replace H : ((laws_toPacket.f kj11 a0_0 a0_1 a0_2 a0_3 l0_4 l0_5).bind fun bt657 => ((laws_eqPacket.f kj11 t644 t645 t646 t647 t648 t651 bt657.1 bt657.2.1 bt657.2.2.1 bt657.2.2.2.1 bt657.2.2.2.2.1 bt657.2.2.2.2.2).bind fun t667 => (if t667 = true then (some true) else (some false)))) = some r := by rw [if_neg (show ¬ (false = true) by decide)] at H; exact H
     replace H := Option.bind_eq_some_iff.mp H; obtain ⟨⟨t657, t658, t659, t660, t661, t664⟩, A280, H⟩ := H
     replace H : ((laws_eqPacket.f kj11 t644 t645 t646 t647 t648 t651 t657 t658 t659 t660 t661 t664).bind fun t667 => (if t667 = true then (some true) else (some false))) = some r := H
     have A28 := Aside0.mk A280; clear A280; replace H := Option.bind_eq_some_iff.mp H; obtain ⟨t667, A290, H⟩ := H
     replace H : (if t667 = true then (some true) else (some false)) = some r := H
     have A29 := Aside0.mk A290; clear A290
     by_cases c30 : t667 = true
     ·subst c30
      replace H : (some true) = some r := by rw [if_pos rfl] at H; exact H
      obtain rfl := Option.some.inj H
      try go_wp2
      replace HO_655004 := Aside0.mk (Kd.R_drew HO_655004.out); replace HO_655005 := Aside0.mk (Kd.S_drew HO_655005.out); replace BK630 := Aside0.mk (blk_drew BK630.out); replace BK654 := Aside0.mk (blk_drew BK654.out); replace HB := Aside0.mk (below_drew1 HB.out)
      refine start_ (n := 5) (S := fun w' => w'.cell? ⟨gb654, 0, none⟩ = some (.int .i64 t644) ∧ w'.cell? ⟨gb654, 1, none⟩ = some (.int .i64 t645) ∧ w'.cell? ⟨gb654, 2, none⟩ = some (.int .i64 t646) ∧ w'.cell? ⟨gb654, 3, none⟩ = some (.int .i64 t647) ∧ w'.cell? ⟨gb654, 4, none⟩ = some (.slice Ao23 t648.length co23) ∧ w'.cell? ⟨gb654, 5, none⟩ = some (.slice Ao24 t651.length co24) ∧ w'.cell? ⟨gb630, 0, none⟩ = some (.int .i64 a0_0) ∧ w'.cell? ⟨gb630, 1, none⟩ = some (.int .i64 a0_1) ∧ w'.cell? ⟨gb630, 2, none⟩ = some (.int .i64 a0_2) ∧ w'.cell? ⟨gb630, 3, none⟩ = some (.int .i64 a0_3) ∧ w'.cell? ⟨gb630, 4, none⟩ = some (.slice A0_4 l0_4.length c0_4) ∧ w'.cell? ⟨gb630, 5, none⟩ = some (.slice A0_5 l0_5.length c0_5)) (ds := []) (bL 5 0) (by kernel_rfl) rfl rfl ⟨(blk_cell BK654.out 0).trans rfl, (blk_cell BK654.out 1).trans rfl, (blk_cell BK654.out 2).trans rfl, (blk_cell BK654.out 3).trans rfl, (blk_cell BK654.out 4).trans rfl, (blk_cell BK654.out 5).trans rfl, (blk_cell BK630.out 0).trans rfl, (blk_cell BK630.out 1).trans rfl, (blk_cell BK630.out 2).trans rfl, (blk_cell BK630.out 3).trans rfl, (blk_cell BK630.out 4).trans rfl, (blk_cell BK630.out 5).trans rfl⟩ (fun hHeld => ?_)
      generalize wc.drew = w31 at HO_655004 HO_655005 BK630 BK654 HB hHeld ⊢
      refine take_ (i := 0) (N := some 35) (v := ?_) (a' := ?_) (bL 5 1) rfl rfl (by kernel_rfl) (fun _ _ _ h => h) (Or.inl ⟨by rfl, ?_⟩) hHeld ?_ ?_; rotate_left; (rintro w' ⟨s0, s1, s2, s3, s4, s5, s6, s7, s8, s9, s10, s11⟩; go_simp; with_reducible rfl); rotate_left; (exact put_q)
      refine take_ (i := 1) (N := some 36) (v := ?_) (a' := ?_) (bL 5 3) rfl rfl (by kernel_rfl) (fun _ _ _ h => h) (Or.inl ⟨by rfl, ?_⟩) hHeld ?_ ?_; rotate_left; (rintro w' ⟨s0, s1, s2, s3, s4, s5, s6, s7, s8, s9, s10, s11⟩; go_simp; with_reducible rfl); rotate_left; (exact put_q)
      refine one_ (i := 2) (N := some 37) (bL 5 7) rfl rfl (by kernel_rfl) (by decide) (fun K hK => ?_)
      refine goes_ Try.func16 (by kernel_rfl) rfl #[.agg #[.int .i64 a0_0, .int .i64 a0_1, .int .i64 a0_2, .int .i64 a0_3, .slice A0_4 l0_4.length c0_4, .slice A0_5 l0_5.length c0_5]] (by rfl) rfl rfl mp_q ?_
      with_reducible refine (laws_toPacket.calls kj11 a0_0 a0_1 a0_2 a0_3 _ _ l0_4 _ _ l0_5 t657 t658 t659 t660 t661 t664 _ ?side1 ?side2 ?side3 ?side4 A28.out).mono ?_
      (case side1 => exact cs_q (Kd.C_below HR0_4.out HB.out))
      (case side2 => exact HC0_4.out)
      (case side3 => exact cs_q (Kd.C_below HR0_5.out HB.out))
      (case side4 => exact HC0_5.out)
      rintro e w32 ⟨v662, v665, rfl, ho0, ho1, hb⟩
      refine ⟨_, rfl, ?_⟩
      have hs_v662 : (v662 : Value).oneCell' = true := (by first | (have h_ := Kd.R_slice ho0; obtain ⟨A_, c_, e_⟩ := h_; simp [e_, Value.oneCell']) | (have h_ := Kd.S_slice ho0; obtain ⟨A_, c_, e_⟩ := h_; simp [e_, Value.oneCell']) | (have h_ := Kd.N_slice ho0; obtain ⟨A_, c_, e_⟩ := h_; simp [e_, Value.oneCell']) | (have h_ := Kd.V_slice ho0; obtain ⟨A_, c_, e_⟩ := h_; simp [e_, Value.oneCell']))
      have hst_v662 := fun (w_ : World) (a_ : Addr) m_ => run_store Try.prog w_ a_ v662 m_ hs_v662
      have hs_v665 : (v665 : Value).oneCell' = true := (by first | (have h_ := Kd.R_slice ho1; obtain ⟨A_, c_, e_⟩ := h_; simp [e_, Value.oneCell']) | (have h_ := Kd.S_slice ho1; obtain ⟨A_, c_, e_⟩ := h_; simp [e_, Value.oneCell']) | (have h_ := Kd.N_slice ho1; obtain ⟨A_, c_, e_⟩ := h_; simp [e_, Value.oneCell']) | (have h_ := Kd.V_slice ho1; obtain ⟨A_, c_, e_⟩ := h_; simp [e_, Value.oneCell']))
      have hst_v665 := fun (w_ : World) (a_ : Addr) m_ => run_store Try.prog w_ a_ v665 m_ hs_v665
      have HO663 := Aside0.mk (Kd.R_lower (Kd.R_new' ho0 (Kd.R_lt (kR_q HO_655004))) (below_size (bw_q HB))); replace HO_655004 := Aside0.mk (Kd.R_elder' (kR_q HO_655004) (Kd.R_base ho0) hb); have HO666 := Aside0.mk (Kd.S_lower (Kd.S_new' ho1 (Kd.S_lt (kS_q HO_655005))) (below_size (bw_q HB))); replace HO_655005 := Aside0.mk (Kd.S_elder' (kS_q HO_655005) (Kd.S_base ho1) hb); replace BK630 := Aside0.mk (blk_below (g := gb630) (bk_q BK630) hb); replace BK654 := Aside0.mk (blk_below (g := gb654) (bk_q BK654) hb); replace HB := Aside0.mk (below_step (bw_q HB) hb); (try clear hb); (try clear hb2); (try clear hk); (try clear hi); (try clear ho0); (try clear ho1); obtain ⟨Ao33, co33, eo33⟩ := Kd.R_slice HO663.out
      (first | subst eo33 | (injection eo33 with f1_ f2_ f3_; have f4_ := f1_.symm; have f5_ := f3_.symm; clear f1_ f2_ f3_; subst f4_; subst f5_))
      obtain ⟨Ao34, co34, eo34⟩ := Kd.S_slice HO666.out
      (first | subst eo34 | (injection eo34 with f1_ f2_ f3_; have f4_ := f1_.symm; have f5_ := f3_.symm; clear f1_ f2_ f3_; subst f4_; subst f5_))
      refine hK.out _ _ ⟨(blk_cell BK654.out 0).trans rfl, (blk_cell BK654.out 1).trans rfl, (blk_cell BK654.out 2).trans rfl, (blk_cell BK654.out 3).trans rfl, (blk_cell BK654.out 4).trans rfl, (blk_cell BK654.out 5).trans rfl, (blk_cell BK630.out 0).trans rfl, (blk_cell BK630.out 1).trans rfl, (blk_cell BK630.out 2).trans rfl, (blk_cell BK630.out 3).trans rfl, (blk_cell BK630.out 4).trans rfl, (blk_cell BK630.out 5).trans rfl⟩ (fun hHeld => ?_)
      clear hK K
      refine norm_ (a' := ?_) ?_ ?_; rotate_left; (show Act.put _ (some 37) _ = _; simp only [Act.put, List.setIfInBounds_toArray, List.set_cons_zero, List.set_cons_succ, i64_w, i32_w]; rfl)
      refine one_ (i := 3) (N := some 38) (bL 5 15) rfl rfl (by kernel_rfl) (by decide) (fun K hK => ?_)
      refine goes_ Try.func18 (by kernel_rfl) rfl #[.agg #[.int .i64 t644, .int .i64 t645, .int .i64 t646, .int .i64 t647, .slice Ao23 t648.length co23, .slice Ao24 t651.length co24], .agg #[.int .i64 t657, .int .i64 t658, .int .i64 t659, .int .i64 t660, .slice Ao33 t661.length co33, .slice Ao34 t664.length co34]] (by rfl) rfl rfl mp_q ?_
      with_reducible refine (laws_eqPacket.calls kj11 t644 t645 t646 t647 _ _ t648 _ _ t651 t657 t658 t659 t660 _ _ t661 _ _ t664 true _ ?side1 ?side2 ?side3 ?side4 ?side5 ?side6 ?side7 ?side8 A29.out).mono ?_
      (case side1 => repeat (first | exact (Kd.R_reads' HO_655004.out).2.2 | (with_reducible refine Kd.C_alloc ?_ _) | (with_reducible refine Kd.C_drewN ?_ _) | (with_reducible refine Kd.C_drew ?_)))
      (case side2 => exact (Kd.R_reads' HO_655004.out).2.1)
      (case side3 => repeat (first | exact (Kd.S_reads' HO_655005.out).2.2 | (with_reducible refine Kd.C_alloc ?_ _) | (with_reducible refine Kd.C_drewN ?_ _) | (with_reducible refine Kd.C_drew ?_)))
      (case side4 => exact (Kd.S_reads' HO_655005.out).2.1)
      (case side5 => repeat (first | exact (Kd.R_reads' HO663.out).2.2 | (with_reducible refine Kd.C_alloc ?_ _) | (with_reducible refine Kd.C_drewN ?_ _) | (with_reducible refine Kd.C_drew ?_)))
      (case side6 => exact (Kd.R_reads' HO663.out).2.1)
      (case side7 => repeat (first | exact (Kd.S_reads' HO666.out).2.2 | (with_reducible refine Kd.C_alloc ?_ _) | (with_reducible refine Kd.C_drewN ?_ _) | (with_reducible refine Kd.C_drew ?_)))
      (case side8 => exact (Kd.S_reads' HO666.out).2.1)
      rintro e w35 ⟨rfl, hb⟩
      refine ⟨_, rfl, ?_⟩
      replace HO_655004 := Aside0.mk (Kd.R_below (kR_q HO_655004) hb); replace HO_655005 := Aside0.mk (Kd.S_below (kS_q HO_655005) hb); replace HO663 := Aside0.mk (Kd.R_below (kR_q HO663) hb); replace HO666 := Aside0.mk (Kd.S_below (kS_q HO666) hb); replace BK630 := Aside0.mk (blk_below (g := gb630) (bk_q BK630) hb); replace BK654 := Aside0.mk (blk_below (g := gb654) (bk_q BK654) hb); replace HB := Aside0.mk (below_step (bw_q HB) hb); (try clear hb); (try clear hb2); (try clear hk); (try clear hi)
      refine hK.out _ _ ⟨(blk_cell BK654.out 0).trans rfl, (blk_cell BK654.out 1).trans rfl, (blk_cell BK654.out 2).trans rfl, (blk_cell BK654.out 3).trans rfl, (blk_cell BK654.out 4).trans rfl, (blk_cell BK654.out 5).trans rfl, (blk_cell BK630.out 0).trans rfl, (blk_cell BK630.out 1).trans rfl, (blk_cell BK630.out 2).trans rfl, (blk_cell BK630.out 3).trans rfl, (blk_cell BK630.out 4).trans rfl, (blk_cell BK630.out 5).trans rfl⟩ (fun hHeld => ?_)
      clear hK K
      refine norm_ (a' := ?_) ?_ ?_; rotate_left; (show Act.put _ (some 38) _ = _; simp only [Act.put, List.setIfInBounds_toArray, List.set_cons_zero, List.set_cons_succ, i64_w, i32_w]; rfl)
      refine pr_ 4 39 (bL 5 31) rfl rfl ?_
      refine done_ (by kernel_rfl) ?_
      try go_wp2
      go_ret
      exact ⟨er_q, bw_q HB⟩
     ·replace c30 := Bool.eq_false_iff.mpr c30; subst c30
      replace H : (some false) = some r := by rw [if_neg (show ¬ (false = true) by decide)] at H; exact H
      exact absurd (Option.some.inj H) (by rw [hr_]; decide)

end Go.Proofs.Ytnecbkognpponaa.Q
