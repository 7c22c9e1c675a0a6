import Derived.Test.YtnecbkognpponaaXReadPacketQx45
import Derived.Test.YtnecbkognpponaaXReadPacketQimplStoreOk
import Derived.Test.YtnecbkognpponaaXReadPacketQimplreadernum
/- The contract of a Go function. -/




namespace Go.Proofs.Ytnecbkognpponaa.Q
open Go.RowKit Go.Proofs.YtnecbkognpponaaW.PrintWords Go.Proofs.YtnecbkognpponaaW.PrintLast Go.Proofs.YtnecbkognpponaaW.PrintMore
attribute [local go_sem] max2_int min2_int max_two min_two max_three min_three max_four min_four   -- for this text's walks alone
set_option linter.unusedVariables false
set_option linter.unusedSimpArgs false
abbrev zrecord0 : Array Value := #[.int .i64 0, .int .i64 0, .int .i64 0, .int .i64 0, .int .i64 0, .slice none 0 0, .int .i64 0, .bool false]

/-! ### impl_ReadRecord: function 10 -/
mutual
def impl_ReadRecord.l0 : Nat → ByteArray → Int → ByteArray → Int → Bool → Int → Int → Int → Int → Int → List (S63) → Int → Bool → Option (Int × Int × Int × Int × Int × (List (S63)) × Int × Bool × Bool)
 | 0, _, _, _, _, _, _, _, _, _, _, _, _, _ => none
 | k + 1, o, n, b, c, a, d, e, g, h, i, j, l, m => if n > 0 then (impl_ReadRecord.j1 k o n (!a) b c a d e g h i j l m) else (impl_ReadRecord.j1 k o n false b c a d e g h i j l m)
def impl_ReadRecord.j1 : Nat → ByteArray → Int → Bool → ByteArray → Int → Bool → Int → Int → Int → Int → Int → List (S63) → Int → Bool → Option (Int × Int × Int × Int × Int × (List (S63)) × Int × Bool × Bool)
 | 0, _, _, _, _, _, _, _, _, _, _, _, _, _, _ => none
 | k + 1, t, v, u, m, n, o, d, e, g, h, i, a, p, q => if u = true then ((impl_reader_one.f m n o).bind fun j => ((impl_reader_num.f k j.2.1 j.2.2.1 j.2.2.2).bind fun l => (if a.length < 8796093022208 then (impl_ReadRecord.l0 k t (wrap64 (v - 1)) l.2.1 l.2.2.1 l.2.2.2 d e g h i (a ++ [(⟨j.1, l.1⟩ : S63)]) p q) else (none)))) else ((impl_reader_num.f k m n o).bind fun b => ((impl_reader_one.f b.2.1 b.2.2.1 b.2.2.2).bind fun c => (if c.2.2.2 = true then (some (0, 0, 0, 0, 0, ([] : List (S63)), 0, false, false)) else (if c.1 > 1 then (some (0, 0, 0, 0, 0, ([] : List (S63)), 0, false, false)) else (if c.2.2.1 = (t.size : Int) then ((impl_RecordOk.f k d e g h i a b.1 (c.1 == 1)).bind fun s => (if s = true then (some (d, e, g, h, i, a, b.1, (c.1 == 1), true)) else (some (0, 0, 0, 0, 0, ([] : List (S63)), 0, false, false)))) else (some (0, 0, 0, 0, 0, ([] : List (S63)), 0, false, false)))))))
end
def impl_ReadRecord.f (k : Nat) (a0 : ByteArray) : Option (Int × Int × Int × Int × Int × (List (S63)) × Int × Bool × Bool) := (impl_reader_one.f a0 0 false).bind fun a => ((impl_reader_one.f a.2.1 a.2.2.1 a.2.2.2).bind fun b => ((impl_reader_one.f b.2.1 b.2.2.1 b.2.2.2).bind fun c => ((impl_reader_one.f c.2.1 c.2.2.1 c.2.2.2).bind fun d => ((impl_reader_num.f k d.2.1 d.2.2.1 d.2.2.2).bind fun e => ((impl_reader_num.f k e.2.1 e.2.2.1 e.2.2.2).bind fun g => (impl_ReadRecord.l0 k a0 g.1 g.2.1 g.2.2.1 g.2.2.2 a.1 b.1 c.1 d.1 e.1 ([] : List (S63)) 0 false))))))
theorem impl_ReadRecord.mono_l : ∀ k, (∀ y0 y1 y2 y3 y4 y5 y6 y7 y8 y9 y10 y11 y12, LeO (impl_ReadRecord.l0 k y0 y1 y2 y3 y4 y5 y6 y7 y8 y9 y10 y11 y12) (impl_ReadRecord.l0 (k + 1) y0 y1 y2 y3 y4 y5 y6 y7 y8 y9 y10 y11 y12)) ∧ (∀ y0 y1 y2 y3 y4 y5 y6 y7 y8 y9 y10 y11 y12 y13, LeO (impl_ReadRecord.j1 k y0 y1 y2 y3 y4 y5 y6 y7 y8 y9 y10 y11 y12 y13) (impl_ReadRecord.j1 (k + 1) y0 y1 y2 y3 y4 y5 y6 y7 y8 y9 y10 y11 y12 y13))
 | 0 => ⟨fun _ _ _ _ _ _ _ _ _ _ _ _ _ r h => by simp [impl_ReadRecord.l0] at h, fun _ _ _ _ _ _ _ _ _ _ _ _ _ _ r h => by simp [impl_ReadRecord.j1] at h⟩
 | k + 1 => by
  obtain ⟨ih0, ih1⟩ := impl_ReadRecord.mono_l k
  refine ⟨?_, ?_⟩
  ·intro y0 y1 y2 y3 y4 y5 y6 y7 y8 y9 y10 y11 y12
   unfold impl_ReadRecord.l0
   with_reducible repeat' (first | apply ih0 | apply ih1 | apply impl_RecordOk.mono | apply impl_reader_num.mono | exact LeO.refl _ | exact LeO.none _ | refine LeO.ite ?_ ?_ | refine LeO.bind ?_ (fun _ => ?_))
  ·intro y0 y1 y2 y3 y4 y5 y6 y7 y8 y9 y10 y11 y12 y13
   unfold impl_ReadRecord.j1
   with_reducible repeat' (first | apply ih0 | apply ih1 | apply impl_RecordOk.mono | apply impl_reader_num.mono | exact LeO.refl _ | exact LeO.none _ | refine LeO.ite ?_ ?_ | refine LeO.bind ?_ (fun _ => ?_))
theorem impl_ReadRecord.mono : ∀ a0 k, LeO (impl_ReadRecord.f k a0) (impl_ReadRecord.f (k + 1) a0) := by
 intro a0 k
 obtain ⟨ih0, ih1⟩ := impl_ReadRecord.mono_l k
 unfold impl_ReadRecord.f
 with_reducible repeat' (first | apply ih0 | apply ih1 | apply impl_RecordOk.mono | apply impl_reader_num.mono | exact LeO.refl _ | exact LeO.none _ | refine LeO.ite ?_ ?_ | refine LeO.bind ?_ (fun _ => ?_))
def impl_ReadRecord.T12 : Bool × List (List Nat × List Nat) := (true, [([], []), ([0], [0]), ([], []), ([], []), ([3], [3]), ([2, 4], [2, 4]), ([5], [5]), ([1, 6, 4], [1, 6]), ([0, 1, 2, 3, 4, 5, 6, 7], []), ([8, 7, 7, 0, 1, 2, 3, 4, 5, 6, 7], [7, 8])])
def impl_ReadRecord.B12 : List Nat := [0, 1, 0, 0, 8, 28, 60, 127, 255, 511]
theorem impl_ReadRecord.tab12 : rtab .any (opsOf Try.f10 12) = impl_ReadRecord.T12 := by kernel_rfl
theorem impl_ReadRecord.bits12 : waitsOk impl_ReadRecord.T12.2 impl_ReadRecord.B12 = true := by kernel_rfl
set_option maxHeartbeats 8000000 in
set_option maxRecDepth 100000 in
theorem impl_ReadRecord.calls (k : Nat) (a0 : ByteArray) (r1 : Int) (r2 : Int) (r3 : Int) (r4 : Int) (r5 : Int) (r6 : List (S63)) (r7 : Int) (r8 : Bool) (r9 : Bool) (w : World) (h : impl_ReadRecord.f k a0 = some (r1, r2, r3, r4, r5, r6, r7, r8, r9)) :
  Calls Try.prog 10 #[.string a0] w fun e w' => ∃ v5_ : Value, e = .returned (.tuple #[.agg #[.int .i64 r1, .int .i64 r2, .int .i64 r3, .int .i64 r4, .int .i64 r5, v5_, .int .i64 r7, .bool r8], .bool r9]) ∧ Kd.R k63 63 w' w.heap.size (fun _ => True) v5_ r6 ∧ Below w.heap.size w w' := by
 have hu24 := Try.underlying24; have hu66 := Try.underlying66; have hu63 := Try.underlying63; have HB := ak (Below.refl w.heap.size w); have H := h
 clear h; unfold impl_ReadRecord.f at H; replace H := bsi H; obtain ⟨⟨Aj, Fi, Fj, Fk⟩, A20, H⟩ := H
 (try dsimp only at H)
 have A2 := ak A20; clear A20; replace H := bsi H; obtain ⟨⟨Al, Fl, Fm, Fn⟩, A30, H⟩ := H
 (try dsimp only at H)
 have A3 := ak A30; clear A30; replace H := bsi H; obtain ⟨⟨Am, Fo, Fp, Fq⟩, A40, H⟩ := H
 (try dsimp only at H)
 have A4 := ak A40; clear A40; replace H := bsi H; obtain ⟨⟨Ao, Fr, Fs, Ft⟩, A50, H⟩ := H
 (try dsimp only at H)
 have A5 := ak A50; clear A50; replace H := bsi H; obtain ⟨⟨Ap, Fu, Fv, Fw⟩, A60, H⟩ := H
 (try dsimp only at H)
 have A6 := ak A60; clear A60; replace H := bsi H; obtain ⟨⟨Fx, Fy, Fz, Ga⟩, A70, H⟩ := H
 (try dsimp only at H)
 have A7 := ak A70; clear A70; have H' := ak H; clear H
 go_enter Try.func10, Try.ntmps10
 go_wp2_with (first | ((with_reducible refine gate_dst (N := 2) rfl ?_); (try (refine gate_guard (by rfl) ?_; dsimp only)); refine box_q 2 #[.int .i64 0, .int .i64 0, .int .i64 0, .int .i64 0, .int .i64 0, .slice none 0 0, .int .i64 0, .bool false] 24 ?_; intro Ag hg w8 hbox hb; have Ac := ak (hbox); have Qd := gsz w (below_size (bw_q HB)) hg; have Qe := gsz w (below_size (bw_q HB)) hg; replace HB := ak (below_step (bw_q HB) hb); clear hb hbox hg) | ((with_reducible refine gate_dst (N := 11) rfl ?_); (try (refine gate_guard (by rfl) ?_; dsimp only)); refine box_q 11 #[.string a0, .int .i64 0, .bool false] 66 ?_; intro Af hg w9 hbox hb; have Bk := ak (hbox); have Qf := gsz w (below_size (bw_q HB)) hg; have Gg := gsz w (below_size (bw_q HB)) hg; replace HB := ak (below_step (bw_q HB) hb); have Ak := ak ((by rw [hg]; exact Nat.ne_of_lt (blk_lt (g := Ag) (o := .cells zrecord0 24 (0, 0)) (bk_q Ac)) : Ag ≠ Af)); have Ay := ak ((by rw [hg]; exact Nat.ne_of_gt (blk_lt (g := Ag) (o := .cells zrecord0 24 (0, 0)) (bk_q Ac)) : Af ≠ Ag)); replace Ac := ak (blk_below (g := Ag) (bk_q Ac) hb); clear hb hbox hg) | ((with_reducible refine gate_dst (N := 5) rfl ?_); (try (refine gate_guard (by rfl) ?_; dsimp only)); refine box_q 5 #[.int .i64 0, .int .i64 0, .int .i64 0, .int .i64 0, .int .i64 0, .slice none 0 0, .int .i64 0, .bool false] 24 ?_; intro Ae hg w10 hbox hb; have Aa := ak (hbox); have Qg := gsz w (below_size (bw_q HB)) hg; have Qh := gsz w (below_size (bw_q HB)) hg; replace HB := ak (below_step (bw_q HB) hb); have Ah := ak ((by rw [hg]; exact Nat.ne_of_lt (blk_lt (g := Ag) (o := .cells zrecord0 24 (0, 0)) (bk_q Ac)) : Ag ≠ Ae)); have Au := ak ((by rw [hg]; exact Nat.ne_of_gt (blk_lt (g := Ag) (o := .cells zrecord0 24 (0, 0)) (bk_q Ac)) : Ae ≠ Ag)); replace Ac := ak (blk_below (g := Ag) (bk_q Ac) hb); have Aw := ak ((by rw [hg]; exact Nat.ne_of_lt (blk_lt (g := Af) (o := .cells #[.string a0, .int .i64 0, .bool false] 66 (0, 0)) (bk_q Bk)) : Af ≠ Ae)); have Ai := ak ((by rw [hg]; exact Nat.ne_of_gt (blk_lt (g := Af) (o := .cells #[.string a0, .int .i64 0, .bool false] 66 (0, 0)) (bk_q Bk)) : Ae ≠ Af)); replace Bk := ak (blk_below (g := Af) (bk_q Bk) hb); clear hb hbox hg) | ((with_reducible refine gate_callee (f := 41) rfl ?_); refine goesL_ (some 13) rfl rfl Try.func41 (by kernel_rfl) rfl #[.pointer (some ⟨Af, 0, none⟩)] rfl mp_q ?_; (with_reducible refine (impl_reader_one.calls Af a0 0 false Aj Fi Fj Fk w _ ?side1 ?side2 A2.out).mono ?_); (case side1 => exact ⟨(bk_q Bk), Gg.out⟩); (case side2 => exact bs66 HB); rintro e w11 ⟨rfl, hi, hb, hk⟩; refine ⟨_, rfl, ?_⟩; replace Ac := ak (KeepBut.blk hk (g' := Ag) (o := .cells zrecord0 24 (0, 0)) (bk_q Ac) Ak.out (by simp)); replace Aa := ak (KeepBut.blk hk (g' := Ae) (o := .cells zrecord0 24 (0, 0)) (bk_q Aa) Ai.out (by simp)); replace HB := ak (hb); have Ad := ak (hi); have Qi := Au.out; have Qj := Ah.out; have Qk := Ai.out; have Ql := Aw.out; obtain ⟨Bq, Br, Bs, Bt, Bu, Bv, Bw, Bx, By, Bz, Ca, Cb, Cc, Cd, Ce, Cf⟩ := cf8_ Aa) | ((with_reducible refine gate_callee (f := 41) rfl ?_); refine goesL_ (some 16) rfl rfl Try.func41 (by kernel_rfl) rfl #[.pointer (some ⟨Af, 0, none⟩)] rfl mp_q ?_; (with_reducible refine (impl_reader_one.calls Af Fi Fj Fk Al Fl Fm Fn w _ ?side1 ?side2 A3.out).mono ?_); (case side1 => exact sq66 Ad); (case side2 => exact bs66 HB); rintro e w15 ⟨rfl, hi, hb, hk⟩; refine ⟨_, rfl, ?_⟩; replace Ac := ak (KeepBut.blk hk (g' := Ag) (o := .cells zrecord0 24 (0, 0)) (by refine bz_ ?_; refine blk_far ?_ Ah.out _; refine bz_ ?_; exact Ac.out) Ak.out (by simp)); replace Aa := ak (KeepBut.blk hk (g' := Ae) (o := .cells #[.int .i64 Aj, .int .i64 0, .int .i64 0, .int .i64 0, .int .i64 0, .slice none 0 0, .int .i64 0, .bool false] 24 (0, 0)) (by refine bz_ ?_; refine blk_put (cs := zrecord0) ?_ 0 _ rfl; refine bz_ ?_; exact Aa.out) Ai.out (by simp)); replace HB := ak (hb); replace Ad := ak (hi); obtain ⟨Cg, Ch, Ci, Cj, Ck, Cl, Cm, Cn, Co, Cp, Cq, Cr, Cs, Ct, Cu, Cv⟩ := cf8_ Aa) | ((with_reducible refine gate_callee (f := 41) rfl ?_); refine goesL_ (some 19) rfl rfl Try.func41 (by kernel_rfl) rfl #[.pointer (some ⟨Af, 0, none⟩)] rfl mp_q ?_; (with_reducible refine (impl_reader_one.calls Af Fl Fm Fn Am Fo Fp Fq w _ ?side1 ?side2 A4.out).mono ?_); (case side1 => exact sq66 Ad); (case side2 => exact bs66 HB); rintro e w17 ⟨rfl, hi, hb, hk⟩; refine ⟨_, rfl, ?_⟩; replace Ac := ak (KeepBut.blk hk (g' := Ag) (o := .cells zrecord0 24 (0, 0)) (by refine bz_ ?_; refine blk_far ?_ Ah.out _; refine bz_ ?_; exact Ac.out) Ak.out (by simp)); replace Aa := ak (KeepBut.blk hk (g' := Ae) (o := .cells #[.int .i64 Aj, .int .i64 Al, .int .i64 0, .int .i64 0, .int .i64 0, .slice none 0 0, .int .i64 0, .bool false] 24 (0, 0)) (by refine bz_ ?_; refine blk_put (cs := #[.int .i64 Aj, .int .i64 0, .int .i64 0, .int .i64 0, .int .i64 0, .slice none 0 0, .int .i64 0, .bool false]) ?_ 1 _ rfl; refine bz_ ?_; exact Aa.out) Ai.out (by simp)); replace HB := ak (hb); replace Ad := ak (hi); obtain ⟨Cw, Cx, Cy, Cz, Da, Db, Dc, Dd, De, Df, Dg, Dh, Di, Dj, Dk, Dl⟩ := cf8_ Aa) | ((with_reducible refine gate_callee (f := 41) rfl ?_); refine goesL_ (some 22) rfl rfl Try.func41 (by kernel_rfl) rfl #[.pointer (some ⟨Af, 0, none⟩)] rfl mp_q ?_; (with_reducible refine (impl_reader_one.calls Af Fo Fp Fq Ao Fr Fs Ft w _ ?side1 ?side2 A5.out).mono ?_); (case side1 => exact sq66 Ad); (case side2 => exact bs66 HB); rintro e w19 ⟨rfl, hi, hb, hk⟩; refine ⟨_, rfl, ?_⟩; replace Ac := ak (KeepBut.blk hk (g' := Ag) (o := .cells zrecord0 24 (0, 0)) (by refine bz_ ?_; refine blk_far ?_ Ah.out _; refine bz_ ?_; exact Ac.out) Ak.out (by simp)); replace Aa := ak (KeepBut.blk hk (g' := Ae) (o := .cells #[.int .i64 Aj, .int .i64 Al, .int .i64 Am, .int .i64 0, .int .i64 0, .slice none 0 0, .int .i64 0, .bool false] 24 (0, 0)) (by refine bz_ ?_; refine blk_put (cs := #[.int .i64 Aj, .int .i64 Al, .int .i64 0, .int .i64 0, .int .i64 0, .slice none 0 0, .int .i64 0, .bool false]) ?_ 2 _ rfl; refine bz_ ?_; exact Aa.out) Ai.out (by simp)); replace HB := ak (hb); replace Ad := ak (hi); obtain ⟨Dm, Dn, Do, Dp, Dq, Dr, Ds, Dt, Du, Dv, Dw, Dx, Dy, Dz, Ea, Eb⟩ := cf8_ Aa) | ((with_reducible refine gate_callee (f := 42) rfl ?_); refine goesL_ (some 25) rfl rfl Try.func42 (by kernel_rfl) rfl #[.pointer (some ⟨Af, 0, none⟩)] rfl mp_q ?_; (with_reducible refine (impl_reader_num.calls k Af Fr Fs Ft Ap Fu Fv Fw w _ ?side1 ?side2 A6.out).mono ?_); (case side1 => exact sq66 Ad); (case side2 => exact bs66 HB); rintro e w21 ⟨rfl, hi, hb, hk⟩; refine ⟨_, rfl, ?_⟩; replace Ac := ak (KeepBut.blk hk (g' := Ag) (o := .cells zrecord0 24 (0, 0)) (by refine bz_ ?_; refine blk_far ?_ Ah.out _; refine bz_ ?_; exact Ac.out) Ak.out (by simp)); replace Aa := ak (KeepBut.blk hk (g' := Ae) (o := .cells #[.int .i64 Aj, .int .i64 Al, .int .i64 Am, .int .i64 Ao, .int .i64 0, .slice none 0 0, .int .i64 0, .bool false] 24 (0, 0)) (by refine bz_ ?_; refine blk_put (cs := #[.int .i64 Aj, .int .i64 Al, .int .i64 Am, .int .i64 0, .int .i64 0, .slice none 0 0, .int .i64 0, .bool false]) ?_ 3 _ rfl; refine bz_ ?_; exact Aa.out) Ai.out (by simp)); replace HB := ak (hb); replace Ad := ak (hi); obtain ⟨Ec, Ed, Ee, Ef, Eg, Eh, Ei, Ej, Ek, El, Em, En, Eo, Ep, Eq, Er⟩ := cf8_ Aa) | ((with_reducible refine gate_callee (f := 42) rfl ?_); refine goesL_ (some 28) rfl rfl Try.func42 (by kernel_rfl) rfl #[.pointer (some ⟨Af, 0, none⟩)] rfl mp_q ?_; (with_reducible refine (impl_reader_num.calls k Af Fu Fv Fw Fx Fy Fz Ga w _ ?side1 ?side2 A7.out).mono ?_); (case side1 => exact sq66 Ad); (case side2 => exact bs66 HB); rintro e w23 ⟨rfl, hi, hb, hk⟩; refine ⟨_, rfl, ?_⟩; replace Ac := ak (KeepBut.blk hk (g' := Ag) (o := .cells zrecord0 24 (0, 0)) (by refine bz_ ?_; refine blk_far ?_ Ah.out _; refine bz_ ?_; exact Ac.out) Ak.out (by simp)); replace Aa := ak (KeepBut.blk hk (g' := Ae) (o := .cells #[.int .i64 Aj, .int .i64 Al, .int .i64 Am, .int .i64 Ao, .int .i64 Ap, .slice none 0 0, .int .i64 0, .bool false] 24 (0, 0)) (by refine bz_ ?_; refine blk_put (cs := #[.int .i64 Aj, .int .i64 Al, .int .i64 Am, .int .i64 Ao, .int .i64 0, .slice none 0 0, .int .i64 0, .bool false]) ?_ 4 _ rfl; refine bz_ ?_; exact Aa.out) Ai.out (by simp)); replace HB := ak (hb); replace Ad := ak (hi)))
 go_loopg [6] k (fun kq v6 w' => ∃ (Bc : Int) (As : ByteArray) (At : Int) (Ar : Bool) (An : List (S63)) (u448005 : Value), v6 = .int .i64 Bc ∧ Aside0 (impl_ReadRecord.l0 kq a0 Bc As At Ar Aj Al Am Ao Ap An 0 false = some (r1, r2, r3, r4, r5, r6, r7, r8, r9)) ∧ Aside0 (kq ≤ k) ∧ Aside0 (Kd.R k63 63 w' w.heap.size (fun _ => True) u448005 An) ∧ Aside0 (w'.heap[Ag]? = some (.cells #[.int .i64 0, .int .i64 0, .int .i64 0, .int .i64 0, .int .i64 0, (.slice none 0 0), .int .i64 0, .bool false] 24 (0, 0))) ∧ Aside0 (w'.heap[Ae]? = some (.cells #[.int .i64 Aj, .int .i64 Al, .int .i64 Am, .int .i64 Ao, .int .i64 Ap, u448005, .int .i64 0, .bool false] 24 (0, 0))) ∧ Aside0 (IsS66 w w' Af As At Ar) ∧ Aside0 (Below w.heap.size w w'))
 case atStart => exact ⟨(Fx), (Fy), (Fz), (Ga), (([] : List (S63))), (.slice none 0 0), rs_q, H', ⟨Nat.le_refl _⟩, ⟨by first | exact Kd.R_nil _ _ _ _ _ | exact Kd.N_nil _ _ _ _ _ | exact Kd.V_nil _ _ _ _ _ | exact Kd.Q_nil _ _ _ _ _ | exact Kd.S_nil _ _ _ _ _⟩, ⟨bk_q Ac⟩, ⟨bk_q Aa⟩, ⟨(sq66 Ad)⟩, ⟨(bs66 HB)⟩⟩
 case round =>
  clear H'; (try clear c1); (try clear p2); (try clear c4); (try clear c10); (try clear c12); (try clear c13)
  try clear Bq Br Bs Bt Bu Bv Bw Bx
  try clear Cg Ch Ci Cj Ck Cl Cm Cn
  try clear Cw Cx Cy Cz Da Db Dc Dd
  try clear Dm Dn Do Dp Dq Dr Ds Dt
  try clear Ec Ed Ee Ef Eg Eh Ei Ej
  try clear By Bz Ca Cb Cc Cd Ce Cf
  try clear Co Cp Cq Cr Cs Ct Cu Cv
  try clear De Df Dg Dh Di Dj Dk Dl
  try clear Du Dv Dw Dx Dy Dz Ea Eb
  try clear Ek El Em En Eo Ep Eq Er
  obtain ⟨Bc, As, At, Ar, An, u448005, rfl, HA, Fa, Ab, Ac, Aa, Ad, HB⟩ := hrel
  cases gk with
  | zero => exact absurd HA.out (by simp [impl_ReadRecord.l0])
  | succ k1 =>
   have H := HA.out; clear HA
   simp only [impl_ReadRecord.l0] at H
   have Ew := ak H; clear H
   go_upto_region 9 with (fail)
   go_cut [37] (fun v37 wc => ∃ (kq : Nat) (Bl : Bool), v37 = .bool Bl ∧ Aside0 (impl_ReadRecord.j1 kq a0 Bc Bl As At Ar Aj Al Am Ao Ap An 0 false = some (r1, r2, r3, r4, r5, r6, r7, r8, r9)) ∧ Aside0 (kq ≤ k1) ∧ Aside0 (Kd.R k63 63 wc w.heap.size (fun _ => True) u448005 An) ∧ Aside0 (wc.heap[Ag]? = some (.cells #[.int .i64 0, .int .i64 0, .int .i64 0, .int .i64 0, .int .i64 0, (.slice none 0 0), .int .i64 0, .bool false] 24 (0, 0))) ∧ Aside0 (wc.heap[Ae]? = some (.cells #[.int .i64 Aj, .int .i64 Al, .int .i64 Am, .int .i64 Ao, .int .i64 Ap, u448005, .int .i64 0, .bool false] 24 (0, 0))) ∧ Aside0 (IsS66 w wc Af As At Ar) ∧ Aside0 (Below w.heap.size w wc))
   case first =>
    have H := Ew.out; clear Ew
    by_cases c25 : Bc > 0
    ·rw [if_pos c25] at H
     have Bj : decide (0 < Bc) = true := decide_eq_true c25
     clear c25
     (first | rw [Bj] | rw [Bn] | (simp only [i64_w, i32_w]; first | rw [Bj] | rw [Bn]) | skip)
     have H' := ak H; clear H; obtain ⟨Bd, hgz26⟩ := Ad.out; have Fc := cellS66_0 Bd; have Fd := cellS66_1 Bd; have Fe := cellS66_2 Bd; have Ff := blk_frozen Bd 0; have Fg := blk_frozen Bd 1; have Fh := blk_frozen Bd 2; clear Bd hgz26
     go_wp2
     go_meet
     case rel => exact ⟨_, (!Ar), rs_q, H', ⟨by have := Fa.out; first | omega | exact Nat.le_refl _⟩, ⟨kR_q Ab⟩, ⟨bk_q Ac⟩, ⟨bk_q Aa⟩, ⟨(sq66 Ad)⟩, ⟨(bs66 HB)⟩⟩
    ·rw [if_neg c25] at H
     have Bj : decide (0 < Bc) = false := decide_eq_false c25
     clear c25
     (first | rw [Bj] | rw [Bn] | (simp only [i64_w, i32_w]; first | rw [Bj] | rw [Bn]) | skip)
     have H' := ak H; clear H
     go_wp2
     go_meet
     case rel => exact ⟨_, (false), rs_q, H', ⟨by have := Fa.out; first | omega | exact Nat.le_refl _⟩, ⟨kR_q Ab⟩, ⟨bk_q Ac⟩, ⟨bk_q Aa⟩, ⟨(sq66 Ad)⟩, ⟨(bs66 HB)⟩⟩
   case rest =>
    clear Ew; (try clear c1); (try clear c2); (try clear p2); (try clear c4); (try clear c10); (try clear c12); (try clear c13); (try clear c25); (try clear Bj); (try clear Bn)
    try clear Bq Br Bs Bt Bu Bv Bw Bx
    try clear Cg Ch Ci Cj Ck Cl Cm Cn
    try clear Cw Cx Cy Cz Da Db Dc Dd
    try clear Dm Dn Do Dp Dq Dr Ds Dt
    try clear Ec Ed Ee Ef Eg Eh Ei Ej
    try clear Fc Fd Fe
    try clear By Bz Ca Cb Cc Cd Ce Cf
    try clear Co Cp Cq Cr Cs Ct Cu Cv
    try clear De Df Dg Dh Di Dj Dk Dl
    try clear Du Dv Dw Dx Dy Dz Ea Eb
    try clear Ek El Em En Eo Ep Eq Er
    try clear Ff Fg Fh
    (try clear p2); obtain ⟨kq, Bl, rfl, HA, HJ23, Ab, Ac, Aa, Ad, HB⟩ := hcut
    cases kq with
    | zero => exact absurd HA.out (by simp [impl_ReadRecord.j1])
    | succ kj23 =>
     have H := HA.out; clear HA
     simp only [impl_ReadRecord.j1] at H
     by_cases c27 : Bl = true
     ·subst c27; rw [if_pos rfl] at H; replace H := bsi H; obtain ⟨⟨Bo, Ex, Ey, Ez⟩, A280, H⟩ := H
      (try dsimp only at H)
      have A28 := ak A280; clear A280; replace H := bsi H; obtain ⟨⟨Bp, Es, Et, Eu⟩, A290, H⟩ := H
      (try dsimp only at H)
      have A29 := ak A290; clear A290
      by_cases c30 : An.length < 8796093022208
      ·rw [if_pos c30] at H; have Gh := ak c30; clear c30; obtain ⟨Ev, Bm⟩ : ∃ y_ : List (S63), y_ = (An ++ [(⟨Bo, Bp⟩ : S63)]) := ⟨_, rfl⟩
       replace H : (impl_ReadRecord.l0 kj23 a0 (wrap64 (Bc - 1)) Es Et Eu Aj Al Am Ao Ap Ev 0 false) = some (r1, r2, r3, r4, r5, r6, r7, r8, r9) := by first | (rw [Bm]; with_reducible exact H) | (have H2_ := (Option.bind_some _ _).symm.trans H; rw [Bm]; with_reducible exact H2_) | (have H2_ := (Option.bind_some _ _).symm.trans H; with_reducible exact H2_) | with_reducible exact H | (rw [Bm]; exact H) | exact H
       have Gi := ak Bm; clear Bm; have H' := ak H; clear H
       try go_wp2_with (first | ((with_reducible refine gate_callee (f := 41) rfl ?_); refine goesL_ (some 41) rfl rfl Try.func41 (by kernel_rfl) rfl #[.pointer (some ⟨Af, 0, none⟩)] rfl mp_q ?_; (with_reducible refine (impl_reader_one.calls Af As At Ar Bo Ex Ey Ez w _ ?side1 ?side2 A28.out).mono ?_); (case side1 => exact sq66 Ad); (case side2 => exact bs66 HB); rintro e w31 ⟨rfl, hi, hb, hk⟩; refine ⟨_, rfl, ?_⟩; replace Ab := ak (Kd.R_mono (Kd.R_keep (IsS66.apart (show IsS66 w _ Af As At Ar from (sq66 Ad)) (kR_q Ab) (by decide)) hk (fun _ h => h.2)) (fun _ h => h.1)); replace Ac := ak (KeepBut.blk hk (g' := Ag) (o := .cells zrecord0 24 (0, 0)) (bk_q Ac) Ak.out (by simp)); replace Aa := ak (KeepBut.blk hk (g' := Ae) (o := .cells #[.int .i64 Aj, .int .i64 Al, .int .i64 Am, .int .i64 Ao, .int .i64 Ap, u448005, .int .i64 0, .bool false] 24 (0, 0)) (bk_q Aa) Ai.out (by simp)); replace HB := ak (hb); replace Ad := ak (hi)))
       replace Ab := ak (Kd.R_drew Ab.out); replace Ac := ak (blk_drew Ac.out); replace Aa := ak (blk_drew Aa.out); replace Ad := ak (IsS66.drew Ad.out); replace HB := ak (below_drew1 HB.out)
       refine start_ (n := 10) (S := fun w' => w'.cell? ⟨Ae, 0, none⟩ = some (.int .i64 Aj) ∧ w'.cell? ⟨Ae, 1, none⟩ = some (.int .i64 Al) ∧ w'.cell? ⟨Ae, 2, none⟩ = some (.int .i64 Am) ∧ w'.cell? ⟨Ae, 3, none⟩ = some (.int .i64 Ao) ∧ w'.cell? ⟨Ae, 4, none⟩ = some (.int .i64 Ap) ∧ w'.cell? ⟨Ae, 5, none⟩ = some (u448005) ∧ w'.cell? ⟨Ae, 6, none⟩ = some (.int .i64 0) ∧ w'.cell? ⟨Ae, 7, none⟩ = some (.bool false)) (ds := [9]) (bL 10 0) (by kernel_rfl) rfl rfl (cz8_ Aa) (fun hHeld => ?_); refine with_tabW impl_ReadRecord.tab12 impl_ReadRecord.bits12 (fun HT_ HW_ => ?_)
       generalize w31.drew = w32 at Ab Ac Aa Ad HB hHeld ⊢
       refine pq_ 0 42 (bL 10 1) HT_.out rfl rfl ?_
       refine pq_ 2 44 (bL 10 5) HT_.out rfl rfl ?_
       refine pq_ 3 45 (bL 10 13) HT_.out rfl rfl ?_
       refine take_ (i := 1) (N := some 43) (v := ?_) (a' := ?_) (bL 10 15) rfl rfl (take_ofW HT_.out HW_.out (by kernel_rfl)) (fun _ _ _ h => h) (Or.inl ⟨by rfl, ?_⟩) hHeld ?_ ?_; rotate_left; (rintro w' ⟨s0, s1, s2, s3, s4, s5, s6, s7⟩; go_simp; with_reducible rfl); rotate_left; (exact put_q)
       refine one_ (i := 4) (N := some 46) (bL 10 31) rfl rfl (one_of HT_.out (by kernel_rfl)) (by decide) (fun K hK => ?_)
       refine goes_ Try.func42 (by kernel_rfl) rfl #[.pointer (some ⟨Af, 0, none⟩)] (by rfl) rfl rfl mp_q ?_
       with_reducible refine (impl_reader_num.calls kj23 Af Ex Ey Ez Bp Es Et Eu w _ ?side1 ?side2 A29.out).mono ?_
       (case side1 => exact sq66 Ad)
       (case side2 => exact bs66 HB)
       rintro e w33 ⟨rfl, hi, hb, hk⟩
       refine ⟨_, rfl, ?_⟩
       replace Ab := ak (Kd.R_mono (Kd.R_keep (IsS66.apart (show IsS66 w _ Af Ex Ey Ez from (sq66 Ad)) (kR_q Ab) (by decide)) hk (fun _ h => h.2)) (fun _ h => h.1))
       replace Ac := ak (KeepBut.blk hk (g' := Ag) (o := .cells zrecord0 24 (0, 0)) (bk_q Ac) Ak.out (by simp))
       replace Aa := ak (KeepBut.blk hk (g' := Ae) (o := .cells #[.int .i64 Aj, .int .i64 Al, .int .i64 Am, .int .i64 Ao, .int .i64 Ap, u448005, .int .i64 0, .bool false] 24 (0, 0)) (bk_q Aa) Ai.out (by simp))
       replace HB := ak (hb); replace Ad := ak (hi)
       refine hK.out _ _ (cz8_ Aa) (fun hHeld => ?_)
       clear hK K
       refine norm_ (a' := ?_) ?_ ?_; rotate_left; (show Act.put _ (some 46) _ = _; simp only [Act.put, List.setIfInBounds_toArray, List.set_cons_zero, List.set_cons_succ, i64_w, i32_w]; rfl)
       refine pq_ 5 47 (bL 10 63) HT_.out rfl rfl ?_
       refine one_ (i := 6) (N := some 48) (bL 10 127) rfl rfl (one_of HT_.out (by kernel_rfl)) (by decide) (fun K hK => ?_)
       refine value_ (w1 := ?_) (v := ?_) (by rfl) rfl ?_ ?_
       rotate_left 2
       ·go_simp
        constructor
        ·rfl
        ·rfl
       refine hK.out _ _ ⟨(blk_cell (blk_alloc Aa.out _) 0).trans rfl, (blk_cell (blk_alloc Aa.out _) 1).trans rfl, (blk_cell (blk_alloc Aa.out _) 2).trans rfl, (blk_cell (blk_alloc Aa.out _) 3).trans rfl, (blk_cell (blk_alloc Aa.out _) 4).trans rfl, (blk_cell (blk_alloc Aa.out _) 5).trans rfl, (blk_cell (blk_alloc Aa.out _) 6).trans rfl, (blk_cell (blk_alloc Aa.out _) 7).trans rfl⟩ (fun hHeld => ?_)
       clear hK K
       refine norm_ (a' := ?_) ?_ ?_; rotate_left; (show Act.put _ (some 48) _ = _; simp only [Act.put, List.setIfInBounds_toArray, List.set_cons_zero, List.set_cons_succ, i64_w, i32_w]; rfl)
       refine one_ (i := 7) (N := some 49) (bL 10 255) rfl rfl (one_of HT_.out (by kernel_rfl)) (by decide) (fun K hK => ?_)
       refine Kd.R_append_step k63 (w0 := w) w.heap.size (by rfl) (.tmp 43) (.tmp 48) 22 63 (.agg #[(.int .i64 0), (.int .i64 0)]) 16 rfl Try.underlying22 info63 rfl (by decide) (by omega) u448005 An (⟨Bo, Bp⟩ : S63) [.int .i64 Bo, .int .i64 Bp] (fun _ => True) (fun _ => False) rfl rfl ?aP (fun _ hk => hk.elim) ?aF ?aO ?aB ?aS ?aL ?_
       (case aP => exact k63_mkM _ _ _ (⟨Bo, Bp⟩ : S63))
       (case aB => exact (bs66 HB))
       (case aF => exact (fun _ _ => trivial))
       (case aO => exact (kR_q Ab))
       (case aS => exact (below_size (bs66 HB)))
       (case aL => have := Gh.out; omega)
       intro v481 w34 ho hb hg hat
       rw [← Gi.out] at ho
       replace Ac := ak (blk_grown (g := Ag) (o := .cells zrecord0 24 (0, 0)) (bk_q Ac) hg (Kd.R_ne Ab.out Ac.out (by decide)))
       replace Aa := ak (blk_grown (g := Ae) (o := .cells #[.int .i64 Aj, .int .i64 Al, .int .i64 Am, .int .i64 Ao, .int .i64 Ap, u448005, .int .i64 0, .bool false] 24 (0, 0)) (bk_q Aa) hg (Kd.R_ne Ab.out Aa.out (by decide)))
       replace Ad := ak (IsS66.grown (show IsS66 w _ Af Es Et Eu from (sq66 Ad)) hg (IsS66.own_ne Ad.out Ab.out (by decide)))
       replace HB := ak (hb); have Fb := ak (ho); clear Ab; clear ho hb hg hat; obtain ⟨Ao35, co35, eo35⟩ := Kd.R_slice Fb.out
       (first | subst eo35 | (injection eo35 with f1_ f2_ f3_; have f4_ := f1_.symm; have f5_ := f3_.symm; clear f1_ f2_ f3_; subst f4_; subst f5_))
       refine hK.out _ _ (cz8_ Aa) (fun hHeld => ?_)
       clear hK K
       refine norm_ (a' := ?_) ?_ ?_; rotate_left; (show Act.put _ (some 49) _ = _; simp only [Act.put, List.setIfInBounds_toArray, List.set_cons_zero, List.set_cons_succ, i64_w, i32_w]; rfl)
       refine pq_ 8 50 (bL 10 511) HT_.out rfl rfl ?_
       refine last_ (i := 9) (N := none) (bL 10 1023) rfl rfl (one_of HT_.out (by kernel_rfl)) (by decide) (fun K hK => ?_)
       have hs36 : w34.cell? ⟨Ae, 5, none⟩ = some (u448005) := (blk_cell Aa.out 5).trans rfl
       have hfs36 := blk_frozen Aa.out 5; have hns36_0 := Ah.out; have hms36_0 := Au.out
       refine skip_ (w1 := ?_) (by rfl) rfl ?_ ?_
       rotate_left
       ·go_simp
        rfl
       refine hK.out _ _ ?_
       clear hK K
       refine done_ (done_of HT_.out (by kernel_rfl)) ?_
       try go_wp2
       go_roundg kj23
       case measure => have := Fa.out; have := HJ23.out; omega
       case rel => exact ⟨(wrap64 (Bc - 1)), (Es), (Et), (Eu), (Ev), (.slice Ao35 Ev.length co35), rs_q, H', ⟨by have := Fa.out; have := HJ23.out; omega⟩, ⟨by (with_reducible repeat (first | apply Kd.R_alloc | apply Kd.R_drewN | apply Kd.R_drew)); exact Kd.R_mono (Kd.R_far (p := ⟨Ae, 5, none⟩) (Kd.R_types Fb.out Aa.out (by decide)) (fun _ hk => hk.2) (.slice Ao35 Ev.length co35)) (fun _ hk => trivial)⟩, ⟨by refine bz_ ?_; refine blk_far ?_ Ah.out _; refine bz_ ?_; exact Ac.out⟩, ⟨by refine bz_ ?_; refine blk_put (cs := #[.int .i64 Aj, .int .i64 Al, .int .i64 Am, .int .i64 Ao, .int .i64 Ap, u448005, .int .i64 0, .bool false]) ?_ 5 _ rfl; refine bz_ ?_; exact Aa.out⟩, ⟨(sq66 Ad)⟩, ⟨(bs66 HB)⟩⟩
      ·rw [if_neg c30] at H
       exact absurd H (by simp)
     ·replace c27 := Bool.eq_false_iff.mpr c27; subst c27
      rw [if_neg (show ¬ (false = true) by decide)] at H
      replace H := bsi H; obtain ⟨⟨Av, Az, Ba, Bb⟩, A370, H⟩ := H
      (try dsimp only at H)
      have A37 := ak A370; clear A370; replace H := bsi H; obtain ⟨⟨Aq, Bi, Ax, Gm⟩, A380, H⟩ := H
      (try dsimp only at H)
      have A38 := ak A380; clear A380
      by_cases c39 : Gm = true
      ·subst c39; rw [if_pos rfl] at H; have Gb := ak H; clear H
       go_upto_if 80 with (first | ((with_reducible refine gate_callee (f := 42) rfl ?_); refine goesL_ (some 52) rfl rfl Try.func42 (by kernel_rfl) rfl #[.pointer (some ⟨Af, 0, none⟩)] rfl mp_q ?_; (with_reducible refine (impl_reader_num.calls kj23 Af As At Ar Av Az Ba Bb w _ ?side1 ?side2 A37.out).mono ?_); (case side1 => exact sq66 Ad); (case side2 => exact bs66 HB); rintro e w41 ⟨rfl, hi, hb, hk⟩; refine ⟨_, rfl, ?_⟩; replace Ab := ak (Kd.R_mono (Kd.R_keep (IsS66.apart (show IsS66 w _ Af As At Ar from (sq66 Ad)) (kR_q Ab) (by decide)) hk (fun _ h => h.2)) (fun _ h => h.1)); replace Ac := ak (KeepBut.blk hk (g' := Ag) (o := .cells zrecord0 24 (0, 0)) (bk_q Ac) Ak.out (by simp)); replace Aa := ak (KeepBut.blk hk (g' := Ae) (o := .cells #[.int .i64 Aj, .int .i64 Al, .int .i64 Am, .int .i64 Ao, .int .i64 Ap, u448005, .int .i64 0, .bool false] 24 (0, 0)) (bk_q Aa) Ai.out (by simp)); replace HB := ak (hb); replace Ad := ak (hi); have Qm := Au.out; have Qn := Ah.out; have Qo := Ai.out; have Qp := Aw.out; obtain ⟨Gn, Go, Gp, Gq, Gr, Gs, Gt, Gu, Gv, Gw, Gx, Gy, Gz, Ha, Hb, Hc⟩ := cf8_ Aa) | ((with_reducible refine gate_callee (f := 41) rfl ?_); refine goesL_ (some 55) rfl rfl Try.func41 (by kernel_rfl) rfl #[.pointer (some ⟨Af, 0, none⟩)] rfl mp_q ?_; (with_reducible refine (impl_reader_one.calls Af Az Ba Bb Aq Bi Ax true w _ ?side1 ?side2 A38.out).mono ?_); (case side1 => exact sq66 Ad); (case side2 => exact bs66 HB); rintro e w45 ⟨rfl, hi, hb, hk⟩; refine ⟨_, rfl, ?_⟩; replace Ab := ak (Kd.R_mono (Kd.R_keep (IsS66.apart (show IsS66 w _ Af Az Ba Bb from (sq66 Ad)) (by (with_reducible repeat (first | apply Kd.R_alloc | apply Kd.R_drewN | apply Kd.R_drew)); exact (Kd.R_mono (Kd.R_far (p := ⟨Ae, 6, none⟩) (Kd.R_types Ab.out Aa.out (by decide)) (fun _ hk => hk.2) (.int .i64 Av)) (fun _ h_ => h_.1))) (by decide)) hk (fun _ h => h.2)) (fun _ h => h.1)); replace Ac := ak (KeepBut.blk hk (g' := Ag) (o := .cells zrecord0 24 (0, 0)) (by refine bz_ ?_; refine blk_far ?_ Ah.out _; refine bz_ ?_; exact Ac.out) Ak.out (by simp)); replace Aa := ak (KeepBut.blk hk (g' := Ae) (o := .cells #[.int .i64 Aj, .int .i64 Al, .int .i64 Am, .int .i64 Ao, .int .i64 Ap, u448005, .int .i64 Av, .bool false] 24 (0, 0)) (by refine bz_ ?_; refine blk_put (cs := #[.int .i64 Aj, .int .i64 Al, .int .i64 Am, .int .i64 Ao, .int .i64 Ap, u448005, .int .i64 0, .bool false]) ?_ 6 _ rfl; refine bz_ ?_; exact Aa.out) Ai.out (by simp)); replace HB := ak (hb); replace Ad := ak (hi); obtain ⟨Hd, He, Hf, Hg, Hh, Hi, Hj, Hk, Hl, Hm, Hn, Ho, Hp, Hq, Hr, Hs⟩ := cf8_ Aa; obtain ⟨Be, hgz47⟩ := Ad.out; have Ht := cellS66_0 Be; have Hu := cellS66_1 Be; have Hv := cellS66_2 Be; have Hw := blk_frozen Be 0; have Hx := blk_frozen Be 1; have Hy := blk_frozen Be 2; clear Be hgz47))
       have n0_ : Aside0 (Kd.R k63 63 (w45.setCell ⟨Ae, 7, none⟩ (.bool (Aq == 1))) w.heap.size (fun _ => True) u448005 An) := ⟨by (with_reducible repeat (first | apply Kd.R_alloc | apply Kd.R_drewN | apply Kd.R_drew)); exact Kd.R_mono (Kd.R_far (p := ⟨Ae, 7, none⟩) (Kd.R_types Ab.out Aa.out (by decide)) (fun _ hk => hk.2) (.bool (Aq == 1))) (fun _ hk => trivial)⟩
       have n1_ : Aside0 ((w45.setCell ⟨Ae, 7, none⟩ (.bool (Aq == 1))).heap[Ag]? = some (.cells #[.int .i64 0, .int .i64 0, .int .i64 0, .int .i64 0, .int .i64 0, .slice none 0 0, .int .i64 0, .bool false] 24 (0, 0))) := ⟨by refine bz_ ?_; refine blk_far ?_ Ah.out _; refine bz_ ?_; exact Ac.out⟩
       have n2_ : Aside0 ((w45.setCell ⟨Ae, 7, none⟩ (.bool (Aq == 1))).heap[Ae]? = some (.cells #[.int .i64 Aj, .int .i64 Al, .int .i64 Am, .int .i64 Ao, .int .i64 Ap, u448005, .int .i64 Av, .bool (Aq == 1)] 24 (0, 0))) := ⟨by refine bz_ ?_; refine blk_put (cs := #[.int .i64 Aj, .int .i64 Al, .int .i64 Am, .int .i64 Ao, .int .i64 Ap, u448005, .int .i64 Av, .bool false]) ?_ 7 _ rfl; refine bz_ ?_; exact Aa.out⟩
       have n3_ : Aside0 (IsS66 w (w45.setCell ⟨Ae, 7, none⟩ (.bool (Aq == 1))) Af Bi Ax true) := ⟨(sq66 Ad)⟩
       have n4_ : Aside0 (Below w.heap.size w (w45.setCell ⟨Ae, 7, none⟩ (.bool (Aq == 1)))) := ⟨(bs66 HB)⟩
       (try clear Ab); (try clear Ac); (try clear Aa); (try clear Ad); (try clear HB)
       generalize (w45.setCell ⟨Ae, 7, none⟩ (.bool (Aq == 1))) = w48 at n0_ n1_ n2_ n3_ n4_ ⊢
       have Ab := n0_; have Ac := n1_; have Aa := n2_; have Ad := n3_; have HB := n4_; clear n0_ n1_ n2_ n3_ n4_; have H := Gb.out; clear Gb
       simp only [Option.some.injEq, Prod.mk.injEq] at H
       obtain ⟨rfl, rfl, rfl, rfl, rfl, rfl, rfl, rfl, rfl⟩ := H; have Qq := Ah.out; have Qr := Au.out; have Qs := Ak.out; have Qt := Ay.out; obtain ⟨Hz, Ia, Ib, Ic, Id, Ie, If, Ig, Ih, Ii, Ij, Ik, Il, Im, In, Io⟩ := cf8_ Ac
       go_wp2
       refine bodyPost_ret (results_ct rfl _ _ Ag 24 #[.int .i64 0, .int .i64 0, .int .i64 0, .int .i64 0, .int .i64 0, .slice none 0 0, .int .i64 0, .bool false] (0, 0) _ rfl (by refine bz_ ?_; refine blk_put (cs := zrecord0) ?_ 7 _ rfl; refine bz_ ?_; refine blk_put (cs := zrecord0) ?_ 6 _ rfl; refine bz_ ?_; refine blk_put (cs := zrecord0) ?_ 5 _ rfl; refine bz_ ?_; refine blk_put (cs := zrecord0) ?_ 4 _ rfl; refine bz_ ?_; refine blk_put (cs := zrecord0) ?_ 3 _ rfl; refine bz_ ?_; refine blk_put (cs := zrecord0) ?_ 2 _ rfl; refine bz_ ?_; refine blk_put (cs := zrecord0) ?_ 1 _ rfl; refine bz_ ?_; refine blk_put (cs := zrecord0) ?_ 0 _ rfl; refine bz_ ?_; exact Ac.out) Try.underlying24 rfl (by kernel_rfl)) rfl ?_
       exact ⟨_, er_q, by first | exact Kd.R_nil _ _ _ _ _ | exact Kd.N_nil _ _ _ _ _ | exact Kd.V_nil _ _ _ _ _ | exact Kd.Q_nil _ _ _ _ _ | exact Kd.S_nil _ _ _ _ _, (bs66 HB)⟩
      ·replace c39 := Bool.eq_false_iff.mpr c39; subst c39
       rw [if_neg (show ¬ (false = true) by decide)] at H
       by_cases c52 : Aq > 1
       ·rw [if_pos c52] at H
        have Gj : decide (1 < Aq) = true := decide_eq_true c52
        clear c52; have Gc := ak H; clear H
        go_upto_if 80 with (first | ((with_reducible refine gate_callee (f := 42) rfl ?_); refine goesL_ (some 52) rfl rfl Try.func42 (by kernel_rfl) rfl #[.pointer (some ⟨Af, 0, none⟩)] rfl mp_q ?_; (with_reducible refine (impl_reader_num.calls kj23 Af As At Ar Av Az Ba Bb w _ ?side1 ?side2 A37.out).mono ?_); (case side1 => exact sq66 Ad); (case side2 => exact bs66 HB); rintro e w54 ⟨rfl, hi, hb, hk⟩; refine ⟨_, rfl, ?_⟩; replace Ab := ak (Kd.R_mono (Kd.R_keep (IsS66.apart (show IsS66 w _ Af As At Ar from (sq66 Ad)) (kR_q Ab) (by decide)) hk (fun _ h => h.2)) (fun _ h => h.1)); replace Ac := ak (KeepBut.blk hk (g' := Ag) (o := .cells zrecord0 24 (0, 0)) (bk_q Ac) Ak.out (by simp)); replace Aa := ak (KeepBut.blk hk (g' := Ae) (o := .cells #[.int .i64 Aj, .int .i64 Al, .int .i64 Am, .int .i64 Ao, .int .i64 Ap, u448005, .int .i64 0, .bool false] 24 (0, 0)) (bk_q Aa) Ai.out (by simp)); replace HB := ak (hb); replace Ad := ak (hi); have Qu := Au.out; have Qv := Ah.out; have Qw := Ai.out; have Qx := Aw.out; obtain ⟨Ip, Iq, Ir, Is, It, Iu, Iv, Iw, Ix, Iy, Iz, Ja, Jb, Jc, Jd, Je⟩ := cf8_ Aa) | ((with_reducible refine gate_callee (f := 41) rfl ?_); refine goesL_ (some 55) rfl rfl Try.func41 (by kernel_rfl) rfl #[.pointer (some ⟨Af, 0, none⟩)] rfl mp_q ?_; (with_reducible refine (impl_reader_one.calls Af Az Ba Bb Aq Bi Ax false w _ ?side1 ?side2 A38.out).mono ?_); (case side1 => exact sq66 Ad); (case side2 => exact bs66 HB); rintro e w58 ⟨rfl, hi, hb, hk⟩; refine ⟨_, rfl, ?_⟩; replace Ab := ak (Kd.R_mono (Kd.R_keep (IsS66.apart (show IsS66 w _ Af Az Ba Bb from (sq66 Ad)) (by (with_reducible repeat (first | apply Kd.R_alloc | apply Kd.R_drewN | apply Kd.R_drew)); exact (Kd.R_mono (Kd.R_far (p := ⟨Ae, 6, none⟩) (Kd.R_types Ab.out Aa.out (by decide)) (fun _ hk => hk.2) (.int .i64 Av)) (fun _ h_ => h_.1))) (by decide)) hk (fun _ h => h.2)) (fun _ h => h.1)); replace Ac := ak (KeepBut.blk hk (g' := Ag) (o := .cells zrecord0 24 (0, 0)) (by refine bz_ ?_; refine blk_far ?_ Ah.out _; refine bz_ ?_; exact Ac.out) Ak.out (by simp)); replace Aa := ak (KeepBut.blk hk (g' := Ae) (o := .cells #[.int .i64 Aj, .int .i64 Al, .int .i64 Am, .int .i64 Ao, .int .i64 Ap, u448005, .int .i64 Av, .bool false] 24 (0, 0)) (by refine bz_ ?_; refine blk_put (cs := #[.int .i64 Aj, .int .i64 Al, .int .i64 Am, .int .i64 Ao, .int .i64 Ap, u448005, .int .i64 0, .bool false]) ?_ 6 _ rfl; refine bz_ ?_; exact Aa.out) Ai.out (by simp)); replace HB := ak (hb); replace Ad := ak (hi); obtain ⟨Jf, Jg, Jh, Ji, Jj, Jk, Jl, Jm, Jn, Jo, Jp, Jq, Jr, Js, Jt, Ju⟩ := cf8_ Aa; obtain ⟨Bf, hgz60⟩ := Ad.out; have Jv := cellS66_0 Bf; have Jw := cellS66_1 Bf; have Jx := cellS66_2 Bf; have Jy := blk_frozen Bf 0; have Jz := blk_frozen Bf 1; have Ka := blk_frozen Bf 2; clear Bf hgz60))
        have n0_ : Aside0 (Kd.R k63 63 (w58.setCell ⟨Ae, 7, none⟩ (.bool (Aq == 1))) w.heap.size (fun _ => True) u448005 An) := ⟨by (with_reducible repeat (first | apply Kd.R_alloc | apply Kd.R_drewN | apply Kd.R_drew)); exact Kd.R_mono (Kd.R_far (p := ⟨Ae, 7, none⟩) (Kd.R_types Ab.out Aa.out (by decide)) (fun _ hk => hk.2) (.bool (Aq == 1))) (fun _ hk => trivial)⟩
        have n1_ : Aside0 ((w58.setCell ⟨Ae, 7, none⟩ (.bool (Aq == 1))).heap[Ag]? = some (.cells #[.int .i64 0, .int .i64 0, .int .i64 0, .int .i64 0, .int .i64 0, .slice none 0 0, .int .i64 0, .bool false] 24 (0, 0))) := ⟨by refine bz_ ?_; refine blk_far ?_ Ah.out _; refine bz_ ?_; exact Ac.out⟩
        have n2_ : Aside0 ((w58.setCell ⟨Ae, 7, none⟩ (.bool (Aq == 1))).heap[Ae]? = some (.cells #[.int .i64 Aj, .int .i64 Al, .int .i64 Am, .int .i64 Ao, .int .i64 Ap, u448005, .int .i64 Av, .bool (Aq == 1)] 24 (0, 0))) := ⟨by refine bz_ ?_; refine blk_put (cs := #[.int .i64 Aj, .int .i64 Al, .int .i64 Am, .int .i64 Ao, .int .i64 Ap, u448005, .int .i64 Av, .bool false]) ?_ 7 _ rfl; refine bz_ ?_; exact Aa.out⟩
        have n3_ : Aside0 (IsS66 w (w58.setCell ⟨Ae, 7, none⟩ (.bool (Aq == 1))) Af Bi Ax false) := ⟨(sq66 Ad)⟩
        have n4_ : Aside0 (Below w.heap.size w (w58.setCell ⟨Ae, 7, none⟩ (.bool (Aq == 1)))) := ⟨(bs66 HB)⟩
        (try clear Ab); (try clear Ac); (try clear Aa); (try clear Ad); (try clear HB)
        generalize (w58.setCell ⟨Ae, 7, none⟩ (.bool (Aq == 1))) = w61 at n0_ n1_ n2_ n3_ n4_ ⊢
        have Ab := n0_; have Ac := n1_; have Aa := n2_; have Ad := n3_; have HB := n4_; clear n0_ n1_ n2_ n3_ n4_; have H := Gc.out; clear Gc
        simp only [Option.some.injEq, Prod.mk.injEq] at H
        obtain ⟨rfl, rfl, rfl, rfl, rfl, rfl, rfl, rfl, rfl⟩ := H; have Qy := Ah.out; have Qz := Au.out; have Ra := Ak.out; have Rb := Ay.out; obtain ⟨Kb, Kc, Ke, Kf, Kg, Kh, Ki, Kj, Kk, Kl, Km, Kn, Ko, Kp, Kq, Kr⟩ := cf8_ Ac
        go_wp2
        refine bodyPost_ret (results_ct rfl _ _ Ag 24 #[.int .i64 0, .int .i64 0, .int .i64 0, .int .i64 0, .int .i64 0, .slice none 0 0, .int .i64 0, .bool false] (0, 0) _ rfl (by refine bz_ ?_; refine blk_put (cs := zrecord0) ?_ 7 _ rfl; refine bz_ ?_; refine blk_put (cs := zrecord0) ?_ 6 _ rfl; refine bz_ ?_; refine blk_put (cs := zrecord0) ?_ 5 _ rfl; refine bz_ ?_; refine blk_put (cs := zrecord0) ?_ 4 _ rfl; refine bz_ ?_; refine blk_put (cs := zrecord0) ?_ 3 _ rfl; refine bz_ ?_; refine blk_put (cs := zrecord0) ?_ 2 _ rfl; refine bz_ ?_; refine blk_put (cs := zrecord0) ?_ 1 _ rfl; refine bz_ ?_; refine blk_put (cs := zrecord0) ?_ 0 _ rfl; refine bz_ ?_; exact Ac.out) Try.underlying24 rfl (by kernel_rfl)) rfl ?_
        exact ⟨_, er_q, by first | exact Kd.R_nil _ _ _ _ _ | exact Kd.N_nil _ _ _ _ _ | exact Kd.V_nil _ _ _ _ _ | exact Kd.Q_nil _ _ _ _ _ | exact Kd.S_nil _ _ _ _ _, (bs66 HB)⟩
       ·rw [if_neg c52] at H
        have Gj : decide (1 < Aq) = false := decide_eq_false c52
        clear c52
        by_cases c65 : Ax = (a0.size : Int)
        ·rw [if_pos c65] at H
         have Gk : (Ax == (a0.size : Int)) = true := bqi c65
         have Gl : (Ax != (a0.size : Int)) = false := bnf c65
         clear c65; replace H := bsi H; obtain ⟨Gd, A660, H⟩ := H
         (try dsimp only at H)
         have A66 := ak A660; clear A660; have Ge := ak H; clear H
         go_upto_if 80 with (first | ((with_reducible refine gate_callee (f := 42) rfl ?_); refine goesL_ (some 52) rfl rfl Try.func42 (by kernel_rfl) rfl #[.pointer (some ⟨Af, 0, none⟩)] rfl mp_q ?_; (with_reducible refine (impl_reader_num.calls kj23 Af As At Ar Av Az Ba Bb w _ ?side1 ?side2 A37.out).mono ?_); (case side1 => exact sq66 Ad); (case side2 => exact bs66 HB); rintro e w68 ⟨rfl, hi, hb, hk⟩; refine ⟨_, rfl, ?_⟩; replace Ab := ak (Kd.R_mono (Kd.R_keep (IsS66.apart (show IsS66 w _ Af As At Ar from (sq66 Ad)) (kR_q Ab) (by decide)) hk (fun _ h => h.2)) (fun _ h => h.1)); replace Ac := ak (KeepBut.blk hk (g' := Ag) (o := .cells zrecord0 24 (0, 0)) (bk_q Ac) Ak.out (by simp)); replace Aa := ak (KeepBut.blk hk (g' := Ae) (o := .cells #[.int .i64 Aj, .int .i64 Al, .int .i64 Am, .int .i64 Ao, .int .i64 Ap, u448005, .int .i64 0, .bool false] 24 (0, 0)) (bk_q Aa) Ai.out (by simp)); replace HB := ak (hb); replace Ad := ak (hi); have Rc := Au.out; have Rd := Ah.out; have Re := Ai.out; have Rf := Aw.out; obtain ⟨Ks, Kt, Ku, Kv, Kw, Kx, Ky, Kz, La, Lb, Lc, Ld, Le, Lf, Lg, Lh⟩ := cf8_ Aa) | ((with_reducible refine gate_callee (f := 41) rfl ?_); refine goesL_ (some 55) rfl rfl Try.func41 (by kernel_rfl) rfl #[.pointer (some ⟨Af, 0, none⟩)] rfl mp_q ?_; (with_reducible refine (impl_reader_one.calls Af Az Ba Bb Aq Bi Ax false w _ ?side1 ?side2 A38.out).mono ?_); (case side1 => exact sq66 Ad); (case side2 => exact bs66 HB); rintro e w72 ⟨rfl, hi, hb, hk⟩; refine ⟨_, rfl, ?_⟩; replace Ab := ak (Kd.R_mono (Kd.R_keep (IsS66.apart (show IsS66 w _ Af Az Ba Bb from (sq66 Ad)) (by (with_reducible repeat (first | apply Kd.R_alloc | apply Kd.R_drewN | apply Kd.R_drew)); exact (Kd.R_mono (Kd.R_far (p := ⟨Ae, 6, none⟩) (Kd.R_types Ab.out Aa.out (by decide)) (fun _ hk => hk.2) (.int .i64 Av)) (fun _ h_ => h_.1))) (by decide)) hk (fun _ h => h.2)) (fun _ h => h.1)); replace Ac := ak (KeepBut.blk hk (g' := Ag) (o := .cells zrecord0 24 (0, 0)) (by refine bz_ ?_; refine blk_far ?_ Ah.out _; refine bz_ ?_; exact Ac.out) Ak.out (by simp)); replace Aa := ak (KeepBut.blk hk (g' := Ae) (o := .cells #[.int .i64 Aj, .int .i64 Al, .int .i64 Am, .int .i64 Ao, .int .i64 Ap, u448005, .int .i64 Av, .bool false] 24 (0, 0)) (by refine bz_ ?_; refine blk_put (cs := #[.int .i64 Aj, .int .i64 Al, .int .i64 Am, .int .i64 Ao, .int .i64 Ap, u448005, .int .i64 0, .bool false]) ?_ 6 _ rfl; refine bz_ ?_; exact Aa.out) Ai.out (by simp)); replace HB := ak (hb); replace Ad := ak (hi); obtain ⟨Li, Lj, Lk, Ll, Lm, Ln, Lo, Lp, Lq, Lr, Ls, Lt, Lu, Lv, Lw, Lx⟩ := cf8_ Aa; obtain ⟨Bg, hgz74⟩ := Ad.out; have Ly := cellS66_0 Bg; have Lz := cellS66_1 Bg; have Ma := cellS66_2 Bg; have Mb := blk_frozen Bg 0; have Mc := blk_frozen Bg 1; have Md := blk_frozen Bg 2; clear Bg hgz74; obtain ⟨Ao75, co75, eo75⟩ := Kd.R_slice Ab.out; subst eo75) | (go_at_call 27; (with_reducible refine (impl_RecordOk.calls kj23 Aj Al Am Ao Ap _ _ An Av (Aq == 1) Gd _ ?side1 ?side2 A66.out).mono ?_); (case side1 => refine (Kd.R_reads' (e := 63) (base := w.heap.size) (ok := fun k_ => True) (n := An.length) (c := co75) ?_).2.2; exact (by (with_reducible repeat (first | apply Kd.R_alloc | apply Kd.R_drewN | apply Kd.R_drew)); exact (Kd.R_mono (Kd.R_far (p := ⟨Ae, 7, none⟩) (Kd.R_types Ab.out Aa.out (by decide)) (fun _ hk => hk.2) (.bool (Aq == 1))) (fun _ h_ => h_.1)))); (case side2 => exact (Kd.R_reads' Ab.out).2.1); rintro e w76 ⟨rfl, hb⟩; replace Ab := ak (Kd.R_below (by (with_reducible repeat (first | apply Kd.R_alloc | apply Kd.R_drewN | apply Kd.R_drew)); exact (Kd.R_mono (Kd.R_far (p := ⟨Ae, 7, none⟩) (Kd.R_types Ab.out Aa.out (by decide)) (fun _ hk => hk.2) (.bool (Aq == 1))) (fun _ h_ => h_.1))) hb); replace Ac := ak (blk_below (g := Ag) (o := .cells zrecord0 24 (0, 0)) (by refine bz_ ?_; refine blk_far ?_ Ah.out _; refine bz_ ?_; exact Ac.out) hb); replace Aa := ak (blk_below (g := Ae) (o := .cells #[.int .i64 Aj, .int .i64 Al, .int .i64 Am, .int .i64 Ao, .int .i64 Ap, .slice Ao75 An.length co75, .int .i64 Av, .bool (Aq == 1)] 24 (0, 0)) (by refine bz_ ?_; refine blk_put (cs := #[.int .i64 Aj, .int .i64 Al, .int .i64 Am, .int .i64 Ao, .int .i64 Ap, .slice Ao75 An.length co75, .int .i64 Av, .bool false]) ?_ 7 _ rfl; refine bz_ ?_; exact Aa.out) hb); replace HB := ak (below_step (bs66 HB) hb); replace Ad := ak (IsS66.below (show IsS66 w (w72.setCell ⟨Ae, 7, none⟩ (.bool (Aq == 1))) Af Bi Ax false from (sq66 Ad)) hb)))
         have H := Ge.out; clear Ge
         by_cases c77 : Gd = true
         ·subst c77; rw [if_pos rfl] at H
          simp only [Option.some.injEq, Prod.mk.injEq] at H
          obtain ⟨rfl, rfl, rfl, rfl, rfl, rfl, rfl, rfl, rfl⟩ := H; have Rg := Au.out; have Rh := Ah.out; have Ri := Ai.out; have Rj := Aw.out; obtain ⟨Me, Mf, Mg, Mh, Mi, Mj, Mk, Ml, Mm, Mn, Mo, Mp, Mq, Mr, Ms, Mt⟩ := cf8_ Aa; have Rk := Ak.out; have Rl := Ay.out; obtain ⟨Mu, Mv, Mw, Mx, My, Mz, Na, Nb, Nc, Nd, Ne, Nf, Ng, Nh, Ni, Nj⟩ := cf8_ Ac
          go_wp2
          refine bodyPost_ret (results_ct rfl _ _ Ag 24 #[.int .i64 Aj, .int .i64 Al, .int .i64 Am, .int .i64 Ao, .int .i64 Ap, .slice Ao75 An.length co75, .int .i64 Av, .bool (Aq == 1)] (0, 0) _ rfl (by refine bz_ ?_; refine blk_put (cs := #[.int .i64 Aj, .int .i64 Al, .int .i64 Am, .int .i64 Ao, .int .i64 Ap, .slice Ao75 An.length co75, .int .i64 Av, .bool false]) ?_ 7 _ rfl; refine bz_ ?_; refine blk_put (cs := #[.int .i64 Aj, .int .i64 Al, .int .i64 Am, .int .i64 Ao, .int .i64 Ap, .slice Ao75 An.length co75, .int .i64 0, .bool false]) ?_ 6 _ rfl; refine bz_ ?_; refine blk_put (cs := #[.int .i64 Aj, .int .i64 Al, .int .i64 Am, .int .i64 Ao, .int .i64 Ap, .slice none 0 0, .int .i64 0, .bool false]) ?_ 5 _ rfl; refine bz_ ?_; refine blk_put (cs := #[.int .i64 Aj, .int .i64 Al, .int .i64 Am, .int .i64 Ao, .int .i64 0, .slice none 0 0, .int .i64 0, .bool false]) ?_ 4 _ rfl; refine bz_ ?_; refine blk_put (cs := #[.int .i64 Aj, .int .i64 Al, .int .i64 Am, .int .i64 0, .int .i64 0, .slice none 0 0, .int .i64 0, .bool false]) ?_ 3 _ rfl; refine bz_ ?_; refine blk_put (cs := #[.int .i64 Aj, .int .i64 Al, .int .i64 0, .int .i64 0, .int .i64 0, .slice none 0 0, .int .i64 0, .bool false]) ?_ 2 _ rfl; refine bz_ ?_; refine blk_put (cs := #[.int .i64 Aj, .int .i64 0, .int .i64 0, .int .i64 0, .int .i64 0, .slice none 0 0, .int .i64 0, .bool false]) ?_ 1 _ rfl; refine bz_ ?_; refine blk_put (cs := zrecord0) ?_ 0 _ rfl; refine bz_ ?_; exact Ac.out) Try.underlying24 rfl (by kernel_rfl)) rfl ?_
          exact ⟨_, er_q, by (with_reducible repeat (first | apply Kd.R_alloc | apply Kd.R_drewN | apply Kd.R_drew)); exact Kd.R_mono (Kd.R_far (p := ⟨Ag, 7, none⟩) (Kd.R_far (p := ⟨Ag, 6, none⟩) (Kd.R_far (p := ⟨Ag, 5, none⟩) (Kd.R_far (p := ⟨Ag, 4, none⟩) (Kd.R_far (p := ⟨Ag, 3, none⟩) (Kd.R_far (p := ⟨Ag, 2, none⟩) (Kd.R_far (p := ⟨Ag, 1, none⟩) (Kd.R_far (p := ⟨Ag, 0, none⟩) (Kd.R_types Ab.out Ac.out (by decide)) (fun _ hk => hk.2) (.int .i64 Aj)) (fun _ hk => hk.2) (.int .i64 Al)) (fun _ hk => hk.2) (.int .i64 Am)) (fun _ hk => hk.2) (.int .i64 Ao)) (fun _ hk => hk.2) (.int .i64 Ap)) (fun _ hk => hk.2) (.slice Ao75 An.length co75)) (fun _ hk => hk.2) (.int .i64 Av)) (fun _ hk => hk.2) (.bool (Aq == 1))) (fun _ hk => trivial), (bs66 HB)⟩
         ·replace c77 := Bool.eq_false_iff.mpr c77; subst c77
          rw [if_neg (show ¬ (false = true) by decide)] at H
          simp only [Option.some.injEq, Prod.mk.injEq] at H
          obtain ⟨rfl, rfl, rfl, rfl, rfl, rfl, rfl, rfl, rfl⟩ := H; have Rm := Ah.out; have Rn := Au.out; have Ro := Ak.out; have Rp := Ay.out; obtain ⟨Nk, Nl, Nm, Nn, No, Np, Nq, Nr, Ns, Nt, Nu, Nv, Nw, Nx, Ny, Nz⟩ := cf8_ Ac
          go_wp2
          refine bodyPost_ret (results_ct rfl _ _ Ag 24 #[.int .i64 0, .int .i64 0, .int .i64 0, .int .i64 0, .int .i64 0, .slice none 0 0, .int .i64 0, .bool false] (0, 0) _ rfl (by refine bz_ ?_; refine blk_put (cs := zrecord0) ?_ 7 _ rfl; refine bz_ ?_; refine blk_put (cs := zrecord0) ?_ 6 _ rfl; refine bz_ ?_; refine blk_put (cs := zrecord0) ?_ 5 _ rfl; refine bz_ ?_; refine blk_put (cs := zrecord0) ?_ 4 _ rfl; refine bz_ ?_; refine blk_put (cs := zrecord0) ?_ 3 _ rfl; refine bz_ ?_; refine blk_put (cs := zrecord0) ?_ 2 _ rfl; refine bz_ ?_; refine blk_put (cs := zrecord0) ?_ 1 _ rfl; refine bz_ ?_; refine blk_put (cs := zrecord0) ?_ 0 _ rfl; refine bz_ ?_; exact Ac.out) Try.underlying24 rfl (by kernel_rfl)) rfl ?_
          exact ⟨_, er_q, by first | exact Kd.R_nil _ _ _ _ _ | exact Kd.N_nil _ _ _ _ _ | exact Kd.V_nil _ _ _ _ _ | exact Kd.Q_nil _ _ _ _ _ | exact Kd.S_nil _ _ _ _ _, (bs66 HB)⟩
        ·rw [if_neg c65] at H
         have Gk : (Ax == (a0.size : Int)) = false := bqf c65
         have Gl : (Ax != (a0.size : Int)) = true := bni c65
         have Gf := ak H; clear H
         go_upto_if 80 with (first | ((with_reducible refine gate_callee (f := 42) rfl ?_); refine goesL_ (some 52) rfl rfl Try.func42 (by kernel_rfl) rfl #[.pointer (some ⟨Af, 0, none⟩)] rfl mp_q ?_; (with_reducible refine (impl_reader_num.calls kj23 Af As At Ar Av Az Ba Bb w _ ?side1 ?side2 A37.out).mono ?_); (case side1 => exact sq66 Ad); (case side2 => exact bs66 HB); rintro e w87 ⟨rfl, hi, hb, hk⟩; refine ⟨_, rfl, ?_⟩; replace Ab := ak (Kd.R_mono (Kd.R_keep (IsS66.apart (show IsS66 w _ Af As At Ar from (sq66 Ad)) (kR_q Ab) (by decide)) hk (fun _ h => h.2)) (fun _ h => h.1)); replace Ac := ak (KeepBut.blk hk (g' := Ag) (o := .cells zrecord0 24 (0, 0)) (bk_q Ac) Ak.out (by simp)); replace Aa := ak (KeepBut.blk hk (g' := Ae) (o := .cells #[.int .i64 Aj, .int .i64 Al, .int .i64 Am, .int .i64 Ao, .int .i64 Ap, u448005, .int .i64 0, .bool false] 24 (0, 0)) (bk_q Aa) Ai.out (by simp)); replace HB := ak (hb); replace Ad := ak (hi); have Rq := Au.out; have Rr := Ah.out; have Rs := Ai.out; have Rt := Aw.out; obtain ⟨Oa, Ob, Oc, Od, Oe, Of, Og, Oh, Oi, Oj, Ok, Ol, Om, On, Oo, Op⟩ := cf8_ Aa) | ((with_reducible refine gate_callee (f := 41) rfl ?_); refine goesL_ (some 55) rfl rfl Try.func41 (by kernel_rfl) rfl #[.pointer (some ⟨Af, 0, none⟩)] rfl mp_q ?_; (with_reducible refine (impl_reader_one.calls Af Az Ba Bb Aq Bi Ax false w _ ?side1 ?side2 A38.out).mono ?_); (case side1 => exact sq66 Ad); (case side2 => exact bs66 HB); rintro e w91 ⟨rfl, hi, hb, hk⟩; refine ⟨_, rfl, ?_⟩; replace Ab := ak (Kd.R_mono (Kd.R_keep (IsS66.apart (show IsS66 w _ Af Az Ba Bb from (sq66 Ad)) (by (with_reducible repeat (first | apply Kd.R_alloc | apply Kd.R_drewN | apply Kd.R_drew)); exact (Kd.R_mono (Kd.R_far (p := ⟨Ae, 6, none⟩) (Kd.R_types Ab.out Aa.out (by decide)) (fun _ hk => hk.2) (.int .i64 Av)) (fun _ h_ => h_.1))) (by decide)) hk (fun _ h => h.2)) (fun _ h => h.1)); replace Ac := ak (KeepBut.blk hk (g' := Ag) (o := .cells zrecord0 24 (0, 0)) (by refine bz_ ?_; refine blk_far ?_ Ah.out _; refine bz_ ?_; exact Ac.out) Ak.out (by simp)); replace Aa := ak (KeepBut.blk hk (g' := Ae) (o := .cells #[.int .i64 Aj, .int .i64 Al, .int .i64 Am, .int .i64 Ao, .int .i64 Ap, u448005, .int .i64 Av, .bool false] 24 (0, 0)) (by refine bz_ ?_; refine blk_put (cs := #[.int .i64 Aj, .int .i64 Al, .int .i64 Am, .int .i64 Ao, .int .i64 Ap, u448005, .int .i64 0, .bool false]) ?_ 6 _ rfl; refine bz_ ?_; exact Aa.out) Ai.out (by simp)); replace HB := ak (hb); replace Ad := ak (hi); obtain ⟨Oq, Os, Ot, Ou, Ov, Ow, Ox, Oy, Oz, Pa, Pb, Pc, Pd, Pe, Pf, Pg⟩ := cf8_ Aa; obtain ⟨Bh, hgz93⟩ := Ad.out; have Ph := cellS66_0 Bh; have Pi := cellS66_1 Bh; have Pj := cellS66_2 Bh; have Pk := blk_frozen Bh 0; have Pl := blk_frozen Bh 1; have Pm := blk_frozen Bh 2; clear Bh hgz93))
         have n0_ : Aside0 (Kd.R k63 63 (w91.setCell ⟨Ae, 7, none⟩ (.bool (Aq == 1))) w.heap.size (fun _ => True) u448005 An) := ⟨by (with_reducible repeat (first | apply Kd.R_alloc | apply Kd.R_drewN | apply Kd.R_drew)); exact Kd.R_mono (Kd.R_far (p := ⟨Ae, 7, none⟩) (Kd.R_types Ab.out Aa.out (by decide)) (fun _ hk => hk.2) (.bool (Aq == 1))) (fun _ hk => trivial)⟩
         have n1_ : Aside0 ((w91.setCell ⟨Ae, 7, none⟩ (.bool (Aq == 1))).heap[Ag]? = some (.cells #[.int .i64 0, .int .i64 0, .int .i64 0, .int .i64 0, .int .i64 0, .slice none 0 0, .int .i64 0, .bool false] 24 (0, 0))) := ⟨by refine bz_ ?_; refine blk_far ?_ Ah.out _; refine bz_ ?_; exact Ac.out⟩
         have n2_ : Aside0 ((w91.setCell ⟨Ae, 7, none⟩ (.bool (Aq == 1))).heap[Ae]? = some (.cells #[.int .i64 Aj, .int .i64 Al, .int .i64 Am, .int .i64 Ao, .int .i64 Ap, u448005, .int .i64 Av, .bool (Aq == 1)] 24 (0, 0))) := ⟨by refine bz_ ?_; refine blk_put (cs := #[.int .i64 Aj, .int .i64 Al, .int .i64 Am, .int .i64 Ao, .int .i64 Ap, u448005, .int .i64 Av, .bool false]) ?_ 7 _ rfl; refine bz_ ?_; exact Aa.out⟩
         have n3_ : Aside0 (IsS66 w (w91.setCell ⟨Ae, 7, none⟩ (.bool (Aq == 1))) Af Bi Ax false) := ⟨(sq66 Ad)⟩
         have n4_ : Aside0 (Below w.heap.size w (w91.setCell ⟨Ae, 7, none⟩ (.bool (Aq == 1)))) := ⟨(bs66 HB)⟩
         (try clear Ab); (try clear Ac); (try clear Aa); (try clear Ad); (try clear HB)
         generalize (w91.setCell ⟨Ae, 7, none⟩ (.bool (Aq == 1))) = w94 at n0_ n1_ n2_ n3_ n4_ ⊢
         have Ab := n0_; have Ac := n1_; have Aa := n2_; have Ad := n3_; have HB := n4_; clear n0_ n1_ n2_ n3_ n4_; have H := Gf.out; clear Gf
         simp only [Option.some.injEq, Prod.mk.injEq] at H
         obtain ⟨rfl, rfl, rfl, rfl, rfl, rfl, rfl, rfl, rfl⟩ := H; have Ru := Ah.out; have Rv := Au.out; have Rw := Ak.out; have Rx := Ay.out; obtain ⟨Pn, Po, Pp, Pq, Pr, Ps, Pt, Pu, Pv, Pw, Px, Py, Pz, Qa, Qb, Qc⟩ := cf8_ Ac
         go_wp2
         refine bodyPost_ret (results_ct rfl _ _ Ag 24 #[.int .i64 0, .int .i64 0, .int .i64 0, .int .i64 0, .int .i64 0, .slice none 0 0, .int .i64 0, .bool false] (0, 0) _ rfl (by refine bz_ ?_; refine blk_put (cs := zrecord0) ?_ 7 _ rfl; refine bz_ ?_; refine blk_put (cs := zrecord0) ?_ 6 _ rfl; refine bz_ ?_; refine blk_put (cs := zrecord0) ?_ 5 _ rfl; refine bz_ ?_; refine blk_put (cs := zrecord0) ?_ 4 _ rfl; refine bz_ ?_; refine blk_put (cs := zrecord0) ?_ 3 _ rfl; refine bz_ ?_; refine blk_put (cs := zrecord0) ?_ 2 _ rfl; refine bz_ ?_; refine blk_put (cs := zrecord0) ?_ 1 _ rfl; refine bz_ ?_; refine blk_put (cs := zrecord0) ?_ 0 _ rfl; refine bz_ ?_; exact Ac.out) Try.underlying24 rfl (by kernel_rfl)) rfl ?_
         exact ⟨_, er_q, by first | exact Kd.R_nil _ _ _ _ _ | exact Kd.N_nil _ _ _ _ _ | exact Kd.V_nil _ _ _ _ _ | exact Kd.Q_nil _ _ _ _ _ | exact Kd.S_nil _ _ _ _ _, (bs66 HB)⟩

end Go.Proofs.Ytnecbkognpponaa.Q
