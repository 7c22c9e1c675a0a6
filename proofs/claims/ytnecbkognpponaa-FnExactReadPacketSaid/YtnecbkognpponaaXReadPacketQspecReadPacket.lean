import Derived.Test.YtnecbkognpponaaXReadPacketQx45
import Derived.Test.YtnecbkognpponaaXReadPacketQspecReadRecord
import Derived.Test.YtnecbkognpponaaXReadPacketQspecPacketText
import Derived.Test.YtnecbkognpponaaXReadPacketQspecUnsealed
/- The contract of a Go function. -/







namespace Go.Proofs.Ytnecbkognpponaa.Q
open Go.RowKit Go.Proofs.YtnecbkognpponaaW.PrintWords Go.Proofs.YtnecbkognpponaaW.PrintLast Go.Proofs.YtnecbkognpponaaW.PrintMore
attribute [local go_sem] max2_int min2_int max_two min_two max_three min_three max_four min_four   -- for this text's walks alone
set_option linter.unusedVariables false
set_option linter.unusedSimpArgs false
abbrev spacket0 : Array Value := #[.int .i64 0, .int .i64 0, .int .i64 0, .int .i64 0, .slice none 0 0, .slice none 0 0]

/-! ### spec_ReadPacket: function 19 -/
mutual
def spec_ReadPacket.j1 : Nat → ByteArray → ByteArray → Int → Bool → Int → Int → Int → Int → List Int → Option (Int × Int × Int × Int × List Int × (List (S24)) × Bool)
 | 0, _, _, _, _, _, _, _, _, _ => none
 | k + 1, l, b, c, d, e, g, h, i, j => (spec_l04Var.f k b c d).bind fun a => (spec_ReadPacket.l1 k l a.1 0 a.2.1 a.2.2.1 a.2.2.2 e g h i j ([] : List (S24)))
def spec_ReadPacket.l1 : Nat → ByteArray → Int → Int → ByteArray → Int → Bool → Int → Int → Int → Int → List Int → List (S24) → Option (Int × Int × Int × Int × List Int × (List (S24)) × Bool)
 | 0, _, _, _, _, _, _, _, _, _, _, _, _ => none
 | k + 1, n, m, l, b, c, a, d, e, g, h, i, j => if l < m then (if l < 200 then (spec_ReadPacket.j3 k n m l (!a) b c a d e g h i j) else (spec_ReadPacket.j3 k n m l false b c a d e g h i j)) else (spec_ReadPacket.j3 k n m l false b c a d e g h i j)
def spec_ReadPacket.j3 : Nat → ByteArray → Int → Int → Bool → ByteArray → Int → Bool → Int → Int → Int → Int → List Int → List (S24) → Option (Int × Int × Int × Int × List Int × (List (S24)) × Bool)
 | 0, _, _, _, _, _, _, _, _, _, _, _, _, _ => none
 | k + 1, p, t, q, s, n, o, l, c, d, e, g, h, b => if s = true then ((spec_l04Var.f k n o l).bind fun i => ((spec_l04Take.f i.2.1 i.2.2.1 i.2.2.2 i.1).bind fun j => ((spec_ReadRecord.f k j.1).bind fun a => (if b.length < 1759218604441 then (spec_ReadPacket.l1 k p t (wrap64 (q + 1)) j.2.1 j.2.2.1 j.2.2.2 c d e g h (b ++ [(⟨a.1, a.2.1, a.2.2.1, a.2.2.2.1, a.2.2.2.2.1, a.2.2.2.2.2.1, a.2.2.2.2.2.2.1, a.2.2.2.2.2.2.2.1⟩ : S24)])) else (none))))) else ((spec_PacketText.f k c d e g h b).bind fun m => (if l = true then (some (0, 0, 0, 0, ([] : List Int), ([] : List (S24)), false)) else (if m.2 = true then (if m.1.toList = p.toList then (some (c, d, e, g, h, b, true)) else (some (0, 0, 0, 0, ([] : List Int), ([] : List (S24)), false))) else (some (0, 0, 0, 0, ([] : List Int), ([] : List (S24)), false)))))
def spec_ReadPacket.l0 : Nat → ByteArray → Int → Int → ByteArray → Int → Bool → Int → Int → Int → Int → List Int → Option (Int × Int × Int × Int × List Int × (List (S24)) × Bool)
 | 0, _, _, _, _, _, _, _, _, _, _, _ => none
 | k + 1, l, n, m, c, d, a, e, g, h, i, b => if m < n then (if m < 50 then (if a = true then (spec_ReadPacket.j1 k l c d a e g h i b) else ((spec_l04One.f c d a).bind fun j => (if b.length < 17592186044416 then (spec_ReadPacket.l0 k l n (wrap64 (m + 1)) j.2.1 j.2.2.1 j.2.2.2 e g h i (b ++ [j.1])) else (none)))) else (spec_ReadPacket.j1 k l c d a e g h i b)) else (spec_ReadPacket.j1 k l c d a e g h i b)
end
def spec_ReadPacket.f (k : Nat) (a0 : ByteArray) : Option (Int × Int × Int × Int × List Int × (List (S24)) × Bool) := (spec_Unsealed.f k a0).bind fun g => ((spec_l04One.f g.1 0 (!g.2)).bind fun a => ((spec_l04One.f a.2.1 a.2.2.1 a.2.2.2).bind fun b => ((spec_l04One.f b.2.1 b.2.2.1 b.2.2.2).bind fun c => ((spec_l04One.f c.2.1 c.2.2.1 c.2.2.2).bind fun d => ((spec_l04Var.f k d.2.1 d.2.2.1 d.2.2.2).bind fun e => (spec_ReadPacket.l0 k a0 e.1 0 e.2.1 e.2.2.1 e.2.2.2 a.1 b.1 c.1 d.1 ([] : List Int)))))))
theorem spec_ReadPacket.mono_l : ∀ k, (∀ y0 y1 y2 y3 y4 y5 y6 y7 y8, LeO (spec_ReadPacket.j1 k y0 y1 y2 y3 y4 y5 y6 y7 y8) (spec_ReadPacket.j1 (k + 1) y0 y1 y2 y3 y4 y5 y6 y7 y8)) ∧ (∀ y0 y1 y2 y3 y4 y5 y6 y7 y8 y9 y10 y11, LeO (spec_ReadPacket.l1 k y0 y1 y2 y3 y4 y5 y6 y7 y8 y9 y10 y11) (spec_ReadPacket.l1 (k + 1) y0 y1 y2 y3 y4 y5 y6 y7 y8 y9 y10 y11)) ∧ (∀ y0 y1 y2 y3 y4 y5 y6 y7 y8 y9 y10 y11 y12, LeO (spec_ReadPacket.j3 k y0 y1 y2 y3 y4 y5 y6 y7 y8 y9 y10 y11 y12) (spec_ReadPacket.j3 (k + 1) y0 y1 y2 y3 y4 y5 y6 y7 y8 y9 y10 y11 y12)) ∧ (∀ y0 y1 y2 y3 y4 y5 y6 y7 y8 y9 y10, LeO (spec_ReadPacket.l0 k y0 y1 y2 y3 y4 y5 y6 y7 y8 y9 y10) (spec_ReadPacket.l0 (k + 1) y0 y1 y2 y3 y4 y5 y6 y7 y8 y9 y10))
 | 0 => ⟨fun _ _ _ _ _ _ _ _ _ r h => by simp [spec_ReadPacket.j1] at h, fun _ _ _ _ _ _ _ _ _ _ _ _ r h => by simp [spec_ReadPacket.l1] at h, fun _ _ _ _ _ _ _ _ _ _ _ _ _ r h => by simp [spec_ReadPacket.j3] at h, fun _ _ _ _ _ _ _ _ _ _ _ r h => by simp [spec_ReadPacket.l0] at h⟩
 | k + 1 => by
  obtain ⟨ih0, ih1, ih2, ih3⟩ := spec_ReadPacket.mono_l k
  refine ⟨?_, ?_, ?_, ?_⟩
  ·intro y0 y1 y2 y3 y4 y5 y6 y7 y8
   unfold spec_ReadPacket.j1
   with_reducible repeat' (first | apply ih0 | apply ih1 | apply ih2 | apply ih3 | apply spec_PacketText.mono | apply spec_ReadRecord.mono | apply spec_Unsealed.mono | apply spec_l04Var.mono | exact LeO.refl _ | exact LeO.none _ | refine LeO.ite ?_ ?_ | refine LeO.bind ?_ (fun _ => ?_))
  ·intro y0 y1 y2 y3 y4 y5 y6 y7 y8 y9 y10 y11
   unfold spec_ReadPacket.l1
   with_reducible repeat' (first | apply ih0 | apply ih1 | apply ih2 | apply ih3 | apply spec_PacketText.mono | apply spec_ReadRecord.mono | apply spec_Unsealed.mono | apply spec_l04Var.mono | exact LeO.refl _ | exact LeO.none _ | refine LeO.ite ?_ ?_ | refine LeO.bind ?_ (fun _ => ?_))
  ·intro y0 y1 y2 y3 y4 y5 y6 y7 y8 y9 y10 y11 y12
   unfold spec_ReadPacket.j3
   with_reducible repeat' (first | apply ih0 | apply ih1 | apply ih2 | apply ih3 | apply spec_PacketText.mono | apply spec_ReadRecord.mono | apply spec_Unsealed.mono | apply spec_l04Var.mono | exact LeO.refl _ | exact LeO.none _ | refine LeO.ite ?_ ?_ | refine LeO.bind ?_ (fun _ => ?_))
  ·intro y0 y1 y2 y3 y4 y5 y6 y7 y8 y9 y10
   unfold spec_ReadPacket.l0
   with_reducible repeat' (first | apply ih0 | apply ih1 | apply ih2 | apply ih3 | apply spec_PacketText.mono | apply spec_ReadRecord.mono | apply spec_Unsealed.mono | apply spec_l04Var.mono | exact LeO.refl _ | exact LeO.none _ | refine LeO.ite ?_ ?_ | refine LeO.bind ?_ (fun _ => ?_))
theorem spec_ReadPacket.mono : ∀ a0 k, LeO (spec_ReadPacket.f k a0) (spec_ReadPacket.f (k + 1) a0) := by
 intro a0 k
 obtain ⟨ih0, ih1, ih2, ih3⟩ := spec_ReadPacket.mono_l k
 unfold spec_ReadPacket.f
 with_reducible repeat' (first | apply ih0 | apply ih1 | apply ih2 | apply ih3 | apply spec_PacketText.mono | apply spec_ReadRecord.mono | apply spec_Unsealed.mono | apply spec_l04Var.mono | exact LeO.refl _ | exact LeO.none _ | refine LeO.ite ?_ ?_ | refine LeO.bind ?_ (fun _ => ?_))
def spec_ReadPacket.T11 : Bool × List (List Nat × List Nat) := (true, [([], []), ([0], [0]), ([], []), ([2], [2]), ([3], [3]), ([1, 4, 3], [1, 4]), ([0, 1, 2, 3, 4, 5], []), ([6, 5, 5, 0, 1, 2, 3, 4, 5], [5, 6])])
def spec_ReadPacket.B11 : List Nat := [0, 1, 0, 4, 12, 31, 63, 127]
theorem spec_ReadPacket.tab11 : rtab .any (opsOf Try.f19 11) = spec_ReadPacket.T11 := by kernel_rfl
theorem spec_ReadPacket.bits11 : waitsOk spec_ReadPacket.T11.2 spec_ReadPacket.B11 = true := by kernel_rfl
set_option maxHeartbeats 8000000 in
set_option maxRecDepth 100000 in
theorem spec_ReadPacket.calls (k : Nat) (a0 : ByteArray) (r1 : Int) (r2 : Int) (r3 : Int) (r4 : Int) (r5 : List Int) (r6 : List (S24)) (r7 : Bool) (w : World) (h : spec_ReadPacket.f k a0 = some (r1, r2, r3, r4, r5, r6, r7)) :
  Calls Try.prog 19 #[.string a0] w fun e w' => ∃ v4_ v5_ : Value, e = .returned (.tuple #[.agg #[.int .i64 r1, .int .i64 r2, .int .i64 r3, .int .i64 r4, v4_, v5_], .bool r7]) ∧ Kd.R (Kd.int .i64) 3 w' w.heap.size (fun _ => True) v4_ r5 ∧ Kd.S k24 24 w' w.heap.size (fun _ => True) v5_ r6 ∧ Below w.heap.size w w' := by
 have hu39 := Try.underlying39; have hu60 := Try.underlying60; have hu24 := Try.underlying24; have HB := ak (Below.refl w.heap.size w); have H := h
 clear h; unfold spec_ReadPacket.f at H; replace H := bsi H; obtain ⟨⟨Fp, Fq⟩, A20, H⟩ := H
 (try dsimp only at H)
 have A2 := ak A20; clear A20; replace H := bsi H; obtain ⟨⟨Ai, Ey, Ez, Fa⟩, A30, H⟩ := H
 (try dsimp only at H)
 have A3 := ak A30; clear A30; replace H := bsi H; obtain ⟨⟨An, Gd, Ge, Gf⟩, A40, H⟩ := H
 (try dsimp only at H)
 have A4 := ak A40; clear A40; replace H := bsi H; obtain ⟨⟨Ao, Gg, Gh, Gi⟩, A50, H⟩ := H
 (try dsimp only at H)
 have A5 := ak A50; clear A50; replace H := bsi H; obtain ⟨⟨Ap, Gj, Gk, Gl⟩, A60, H⟩ := H
 (try dsimp only at H)
 have A6 := ak A60; clear A60; replace H := bsi H; obtain ⟨⟨Ei, Gm, Gn, Go⟩, A70, H⟩ := H
 (try dsimp only at H)
 have A7 := ak A70; clear A70; have Gp := ak H; clear H
 go_enter Try.func19, Try.ntmps19
 go_upto_block 0 with (first | ((with_reducible refine gate_dst (N := 2) rfl ?_); refine box_q 2 #[.int .i64 0, .int .i64 0, .int .i64 0, .int .i64 0, .slice none 0 0, .slice none 0 0] 39 ?_; intro Af hg w9 hbox hb; have Ac := ak (hbox); have Nx := gsz w (below_size (bw_q HB)) hg; have Ny := gsz w (below_size (bw_q HB)) hg; replace HB := ak (below_step (bw_q HB) hb); clear hb hbox hg) | ((with_reducible refine gate_callee (f := 58) rfl ?_); refine goesL_ (some 18) rfl rfl Try.func58 (by kernel_rfl) rfl #[.string a0] rfl mp_q ?_; (with_reducible refine (spec_Unsealed.calls k a0 Fp Fq _ A2.out).mono ?_); rintro e w10 ⟨rfl, hb⟩; refine ⟨_, rfl, ?_⟩; replace Ac := ak (blk_below (g := Af) (bk_q Ac) hb); replace HB := ak (below_step (bw_q HB) hb)) | ((with_reducible refine gate_dst (N := 25) rfl ?_); refine box_q 25 #[.string Fp, .int .i64 0, .bool (!Fq)] 60 ?_; intro Ah hg w11 hbox hb; have Gx := ak (hbox); have Nz := gsz w (below_size (bw_q HB)) hg; have Gy := gsz w (below_size (bw_q HB)) hg; replace HB := ak (below_step (bw_q HB) hb); have Ar := ak ((by rw [hg]; exact Nat.ne_of_lt (blk_lt (g := Af) (o := .cells spacket0 39 (0, 0)) (bk_q Ac)) : Af ≠ Ah)); have Bs := ak ((by rw [hg]; exact Nat.ne_of_gt (blk_lt (g := Af) (o := .cells spacket0 39 (0, 0)) (bk_q Ac)) : Ah ≠ Af)); replace Ac := ak (blk_below (g := Af) (bk_q Ac) hb); clear hb hbox hg) | ((with_reducible refine gate_callee (f := 38) rfl ?_); refine goesL_ (some 27) rfl rfl Try.func38 (by kernel_rfl) rfl #[.pointer (some ⟨Ah, 0, none⟩)] rfl mp_q ?_; (with_reducible refine (spec_l04One.calls Ah Fp 0 (!Fq) Ai Ey Ez Fa w _ ?side1 ?side2 A3.out).mono ?_); (case side1 => exact ⟨(bk_q Gx), Gy.out⟩); (case side2 => exact bs60 HB); rintro e w12 ⟨rfl, hi, hb, hk⟩; refine ⟨_, rfl, ?_⟩; replace Ac := ak (KeepBut.blk hk (g' := Af) (o := .cells spacket0 39 (0, 0)) (bk_q Ac) Ar.out (by simp)); replace HB := ak (hb); have Ae := ak (hi)) | ((with_reducible refine gate_dst (N := 7) rfl ?_); refine box_q 7 #[.int .i64 0, .int .i64 0, .int .i64 0, .int .i64 0, .slice none 0 0, .slice none 0 0] 39 ?_; intro Ak hg w13 hbox hb; have Ab := ak (hbox); have Oa := gsz w (below_size (bs60 HB)) hg; have Ob := gsz w (below_size (bs60 HB)) hg; replace HB := ak (below_step (bs60 HB) hb); have Aj := ak ((by rw [hg]; exact Nat.ne_of_lt (blk_lt (g := Af) (o := .cells spacket0 39 (0, 0)) (bk_q Ac)) : Af ≠ Ak)); have As := ak ((by rw [hg]; exact Nat.ne_of_gt (blk_lt (g := Af) (o := .cells spacket0 39 (0, 0)) (bk_q Ac)) : Ak ≠ Af)); replace Ac := ak (blk_below (g := Af) (bk_q Ac) hb); have Bi := ak ((by rw [hg]; exact Nat.ne_of_lt (IsS60.lt (show IsS60 w _ Ah Ey Ez Fa from (sq60 Ae))) : Ah ≠ Ak)); have Aq := ak ((by rw [hg]; exact Nat.ne_of_gt (IsS60.lt (show IsS60 w _ Ah Ey Ez Fa from (sq60 Ae))) : Ak ≠ Ah)); replace Ae := ak (IsS60.below (sq60 Ae) hb); clear hb hbox hg; have Oc := As.out; have Od := Aj.out; have Oe := Aq.out; have Of := Bi.out; obtain ⟨Cb, Cc, Cd, Ce, Cf, Cg, Ch, Ci, Cj, Ck, Cl, Cm⟩ := cf6_ Ab) | ((with_reducible refine gate_callee (f := 38) rfl ?_); refine goesL_ (some 30) rfl rfl Try.func38 (by kernel_rfl) rfl #[.pointer (some ⟨Ah, 0, none⟩)] rfl mp_q ?_; (with_reducible refine (spec_l04One.calls Ah Ey Ez Fa An Gd Ge Gf w _ ?side1 ?side2 A4.out).mono ?_); (case side1 => exact sq60 Ae); (case side2 => exact bs60 HB); rintro e w17 ⟨rfl, hi, hb, hk⟩; refine ⟨_, rfl, ?_⟩; replace Ac := ak (KeepBut.blk hk (g' := Af) (o := .cells spacket0 39 (0, 0)) (by refine bz_ ?_; refine blk_far ?_ Aj.out _; refine bz_ ?_; refine blk_far ?_ Aj.out _; refine bz_ ?_; refine blk_far ?_ Aj.out _; refine bz_ ?_; refine blk_far ?_ Aj.out _; refine bz_ ?_; refine blk_far ?_ Aj.out _; refine bz_ ?_; refine blk_far ?_ Aj.out _; refine bz_ ?_; exact Ac.out) Ar.out (by simp)); replace Ab := ak (KeepBut.blk hk (g' := Ak) (o := .cells #[.int .i64 Ai, .int .i64 0, .int .i64 0, .int .i64 0, .slice none 0 0, .slice none 0 0] 39 (0, 0)) (by refine bz_ ?_; refine blk_put (cs := #[.int .i64 Ai, .int .i64 0, .int .i64 0, .int .i64 0, .slice none 0 0, .slice none 0 0]) ?_ 5 _ rfl; refine bz_ ?_; refine blk_put (cs := #[.int .i64 Ai, .int .i64 0, .int .i64 0, .int .i64 0, .slice none 0 0, .slice none 0 0]) ?_ 4 _ rfl; refine bz_ ?_; refine blk_put (cs := #[.int .i64 Ai, .int .i64 0, .int .i64 0, .int .i64 0, .slice none 0 0, .slice none 0 0]) ?_ 3 _ rfl; refine bz_ ?_; refine blk_put (cs := #[.int .i64 Ai, .int .i64 0, .int .i64 0, .int .i64 0, .slice none 0 0, .slice none 0 0]) ?_ 2 _ rfl; refine bz_ ?_; refine blk_put (cs := #[.int .i64 Ai, .int .i64 0, .int .i64 0, .int .i64 0, .slice none 0 0, .slice none 0 0]) ?_ 1 _ rfl; refine bz_ ?_; refine blk_put (cs := spacket0) ?_ 0 _ rfl; refine bz_ ?_; exact Ab.out) Aq.out (by simp)); replace HB := ak (hb); replace Ae := ak (hi); obtain ⟨Cn, Co, Cp, Cq, Cr, Cs, Ct, Cu, Cv, Cw, Cx, Cy⟩ := cf6_ Ab) | ((with_reducible refine gate_callee (f := 38) rfl ?_); refine goesL_ (some 33) rfl rfl Try.func38 (by kernel_rfl) rfl #[.pointer (some ⟨Ah, 0, none⟩)] rfl mp_q ?_; (with_reducible refine (spec_l04One.calls Ah Gd Ge Gf Ao Gg Gh Gi w _ ?side1 ?side2 A5.out).mono ?_); (case side1 => exact sq60 Ae); (case side2 => exact bs60 HB); rintro e w19 ⟨rfl, hi, hb, hk⟩; refine ⟨_, rfl, ?_⟩; replace Ac := ak (KeepBut.blk hk (g' := Af) (o := .cells spacket0 39 (0, 0)) (by refine bz_ ?_; refine blk_far ?_ Aj.out _; refine bz_ ?_; exact Ac.out) Ar.out (by simp)); replace Ab := ak (KeepBut.blk hk (g' := Ak) (o := .cells #[.int .i64 Ai, .int .i64 An, .int .i64 0, .int .i64 0, .slice none 0 0, .slice none 0 0] 39 (0, 0)) (by refine bz_ ?_; refine blk_put (cs := #[.int .i64 Ai, .int .i64 0, .int .i64 0, .int .i64 0, .slice none 0 0, .slice none 0 0]) ?_ 1 _ rfl; refine bz_ ?_; exact Ab.out) Aq.out (by simp)); replace HB := ak (hb); replace Ae := ak (hi); obtain ⟨Cz, Da, Db, Dc, Dd, De, Df, Dg, Dh, Di, Dj, Dk⟩ := cf6_ Ab) | ((with_reducible refine gate_callee (f := 38) rfl ?_); refine goesL_ (some 36) rfl rfl Try.func38 (by kernel_rfl) rfl #[.pointer (some ⟨Ah, 0, none⟩)] rfl mp_q ?_; (with_reducible refine (spec_l04One.calls Ah Gg Gh Gi Ap Gj Gk Gl w _ ?side1 ?side2 A6.out).mono ?_); (case side1 => exact sq60 Ae); (case side2 => exact bs60 HB); rintro e w21 ⟨rfl, hi, hb, hk⟩; refine ⟨_, rfl, ?_⟩; replace Ac := ak (KeepBut.blk hk (g' := Af) (o := .cells spacket0 39 (0, 0)) (by refine bz_ ?_; refine blk_far ?_ Aj.out _; refine bz_ ?_; exact Ac.out) Ar.out (by simp)); replace Ab := ak (KeepBut.blk hk (g' := Ak) (o := .cells #[.int .i64 Ai, .int .i64 An, .int .i64 Ao, .int .i64 0, .slice none 0 0, .slice none 0 0] 39 (0, 0)) (by refine bz_ ?_; refine blk_put (cs := #[.int .i64 Ai, .int .i64 An, .int .i64 0, .int .i64 0, .slice none 0 0, .slice none 0 0]) ?_ 2 _ rfl; refine bz_ ?_; exact Ab.out) Aq.out (by simp)); replace HB := ak (hb); replace Ae := ak (hi); obtain ⟨Dl, Dm, Dn, Do, Dp, Dq, Dr, Ds, Dt, Du, Dv, Dw⟩ := cf6_ Ab) | ((with_reducible refine gate_callee (f := 39) rfl ?_); refine goesL_ (some 39) rfl rfl Try.func39 (by kernel_rfl) rfl #[.pointer (some ⟨Ah, 0, none⟩)] rfl mp_q ?_; (with_reducible refine (spec_l04Var.calls k Ah Gj Gk Gl Ei Gm Gn Go w _ ?side1 ?side2 A7.out).mono ?_); (case side1 => exact sq60 Ae); (case side2 => exact bs60 HB); rintro e w23 ⟨rfl, hi, hb, hk⟩; refine ⟨_, rfl, ?_⟩; replace Ac := ak (KeepBut.blk hk (g' := Af) (o := .cells spacket0 39 (0, 0)) (by refine bz_ ?_; refine blk_far ?_ Aj.out _; refine bz_ ?_; exact Ac.out) Ar.out (by simp)); replace Ab := ak (KeepBut.blk hk (g' := Ak) (o := .cells #[.int .i64 Ai, .int .i64 An, .int .i64 Ao, .int .i64 Ap, .slice none 0 0, .slice none 0 0] 39 (0, 0)) (by refine bz_ ?_; refine blk_put (cs := #[.int .i64 Ai, .int .i64 An, .int .i64 Ao, .int .i64 0, .slice none 0 0, .slice none 0 0]) ?_ 3 _ rfl; refine bz_ ?_; exact Ab.out) Aq.out (by simp)); replace HB := ak (hb); replace Ae := ak (hi)))
 (try simp only [Act.put, List.setIfInBounds_toArray, List.set_cons_zero, List.set_cons_succ])
 go_cut [] (fun wc => ∃ (kq : Nat) (Bm : ByteArray) (Bn : Int) (Bo : Bool) (Al : List Int) (u679004 : Value), Aside0 (spec_ReadPacket.j1 kq a0 Bm Bn Bo Ai An Ao Ap Al = some (r1, r2, r3, r4, r5, r6, r7)) ∧ Aside0 (kq ≤ k) ∧ Aside0 (Kd.R (Kd.int .i64) 3 wc w.heap.size (fun _ => True) u679004 Al) ∧ Aside0 (wc.heap[Af]? = some (.cells #[.int .i64 0, .int .i64 0, .int .i64 0, .int .i64 0, (.slice none 0 0), (.slice none 0 0)] 39 (0, 0))) ∧ Aside0 (wc.heap[Ak]? = some (.cells #[.int .i64 Ai, .int .i64 An, .int .i64 Ao, .int .i64 Ap, u679004, (.slice none 0 0)] 39 (0, 0))) ∧ Aside0 (IsS60 w wc Ah Bm Bn Bo) ∧ Aside0 (Below w.heap.size w wc))
 case first =>
  have H := Gp.out; clear Gp; have H' := ak H; clear H
  go_wp2
  go_loopg [9] k (fun kq v9 w' => ∃ (Bq : Int) (Ax : ByteArray) (Ay : Int) (Bj : Bool) (Au : List Int) (u679004 : Value), v9 = .int .i64 Bq ∧ Aside0 (spec_ReadPacket.l0 kq a0 Ei Bq Ax Ay Bj Ai An Ao Ap Au = some (r1, r2, r3, r4, r5, r6, r7)) ∧ Aside0 (kq ≤ k) ∧ Aside0 (Kd.R (Kd.int .i64) 3 w' w.heap.size (fun _ => True) u679004 Au) ∧ Aside0 (w'.heap[Af]? = some (.cells #[.int .i64 0, .int .i64 0, .int .i64 0, .int .i64 0, (.slice none 0 0), (.slice none 0 0)] 39 (0, 0))) ∧ Aside0 (w'.heap[Ak]? = some (.cells #[.int .i64 Ai, .int .i64 An, .int .i64 Ao, .int .i64 Ap, u679004, (.slice none 0 0)] 39 (0, 0))) ∧ Aside0 (IsS60 w w' Ah Ax Ay Bj) ∧ Aside0 (Below w.heap.size w w'))
  case atStart => exact ⟨(0), (Gm), (Gn), (Go), (([] : List Int)), (.slice none 0 0), rs_q, H', ⟨Nat.le_refl _⟩, ⟨by first | exact Kd.R_nil _ _ _ _ _ | exact Kd.N_nil _ _ _ _ _ | exact Kd.V_nil _ _ _ _ _ | exact Kd.Q_nil _ _ _ _ _ | exact Kd.S_nil _ _ _ _ _⟩, ⟨bk_q Ac⟩, ⟨bk_q Ab⟩, ⟨(sq60 Ae)⟩, ⟨(bs60 HB)⟩⟩
  case round =>
   clear H'; (try clear c1); (try clear p2); (try clear c3); (try clear c5); (try clear c14); (try clear c15); (try clear c19)
   try clear Cb Cc Cd Ce Cf Cg
   try clear Cn Co Cp Cq Cr Cs
   try clear Cz Da Db Dc Dd De
   try clear Dl Dm Dn Do Dp Dq
   try clear Ch Ci Cj Ck Cl Cm
   try clear Ct Cu Cv Cw Cx Cy
   try clear Df Dg Dh Di Dj Dk
   try clear Dr Ds Dt Du Dv Dw
   obtain ⟨Bq, Ax, Ay, Bj, Au, u679004, rfl, HA, Fj, Aa, Ac, Ab, Ae, HB⟩ := hrel
   cases gk with
   | zero => exact absurd HA.out (by simp [spec_ReadPacket.l0])
   | succ k1 =>
    have H := HA.out; clear HA
    simp only [spec_ReadPacket.l0] at H
    by_cases c24 : Bq < Ei
    ·rw [if_pos c24] at H
     have Bt : decide (Bq < Ei) = true := decide_eq_true c24
     clear c24
     (first | rw [Bt] | rw [Dx] | (simp only [i64_w, i32_w]; first | rw [Bt] | rw [Dx]) | skip)
     by_cases c25 : Bq < 50
     ·rw [if_pos c25] at H
      have Ev : decide (Bq < 50) = true := decide_eq_true c25
      clear c25
      by_cases c26 : Bj = true
      ·subst c26; rw [if_pos rfl] at H; have H' := ak H; clear H; obtain ⟨Bv, hgz27⟩ := Ae.out; have Ej := cellS60_0 Bv; have Ek := cellS60_1 Bv; have El := cellS60_2 Bv; have Em := blk_frozen Bv 0; have En := blk_frozen Bv 1; have Eo := blk_frozen Bv 2; clear Bv hgz27
       go_wp2
       go_meet
       case rel => exact ⟨_, (Ax), (Ay), (true), (Au), (u679004), H', ⟨by have := Fj.out; first | omega | exact Nat.le_refl _⟩, ⟨kR_q Aa⟩, ⟨bk_q Ac⟩, ⟨bk_q Ab⟩, ⟨(sq60 Ae)⟩, ⟨(bs60 HB)⟩⟩
      ·replace c26 := Bool.eq_false_iff.mpr c26; subst c26
       rw [if_neg (show ¬ (false = true) by decide)] at H
       replace H := bsi H; obtain ⟨⟨Fb, Fc, Fd, Fe⟩, A280, H⟩ := H
       (try dsimp only at H)
       have A28 := ak A280; clear A280
       by_cases c29 : Au.length < 17592186044416
       ·rw [if_pos c29] at H; have Gz := ak c29; clear c29; obtain ⟨Ff, Ed⟩ : ∃ y_ : List Int, y_ = (Au ++ [Fb]) := ⟨_, rfl⟩
        replace H : (spec_ReadPacket.l0 k1 a0 Ei (wrap64 (Bq + 1)) Fc Fd Fe Ai An Ao Ap Ff) = some (r1, r2, r3, r4, r5, r6, r7) := by first | (rw [Ed]; with_reducible exact H) | (have H2_ := (Option.bind_some _ _).symm.trans H; rw [Ed]; with_reducible exact H2_) | (have H2_ := (Option.bind_some _ _).symm.trans H; with_reducible exact H2_) | with_reducible exact H | (rw [Ed]; exact H) | exact H
        have Ha := ak Ed; clear Ed; have H' := ak H; clear H; obtain ⟨Bw, hgz30⟩ := Ae.out; have Ep := cellS60_0 Bw; have Eq := cellS60_1 Bw; have Er := cellS60_2 Bw; have Es := blk_frozen Bw 0; have Et := blk_frozen Bw 1; have Eu := blk_frozen Bw 2; clear Bw hgz30
        try go_wp2
        replace Aa := ak (Kd.R_drew Aa.out); replace Ac := ak (blk_drew Ac.out); replace Ab := ak (blk_drew Ab.out); replace Ae := ak (IsS60.drew Ae.out); replace HB := ak (below_drew1 HB.out)
        refine start_ (n := 8) (S := fun w' => w'.cell? ⟨Ak, 0, none⟩ = some (.int .i64 Ai) ∧ w'.cell? ⟨Ak, 1, none⟩ = some (.int .i64 An) ∧ w'.cell? ⟨Ak, 2, none⟩ = some (.int .i64 Ao) ∧ w'.cell? ⟨Ak, 3, none⟩ = some (.int .i64 Ap) ∧ w'.cell? ⟨Ak, 4, none⟩ = some (u679004) ∧ w'.cell? ⟨Ak, 5, none⟩ = some (.slice none 0 0)) (ds := [7]) (bL 8 0) (by kernel_rfl) rfl rfl (cz6_ Ab) (fun hHeld => ?_); refine with_tabW spec_ReadPacket.tab11 spec_ReadPacket.bits11 (fun HT_ HW_ => ?_)
        generalize wr.drew = w31 at Aa Ac Ab Ae HB hHeld ⊢
        refine pq_ 0 56 (bL 8 1) HT_.out rfl rfl ?_
        refine pq_ 2 58 (bL 8 5) HT_.out rfl rfl ?_
        refine take_ (i := 1) (N := some 57) (v := ?_) (a' := ?_) (bL 8 7) rfl rfl (take_ofW HT_.out HW_.out (by kernel_rfl)) (fun _ _ _ h => h) (Or.inl ⟨by rfl, ?_⟩) hHeld ?_ ?_; rotate_left; (rintro w' ⟨s0, s1, s2, s3, s4, s5⟩; go_simp; with_reducible rfl); rotate_left; (exact put_q)
        refine one_ (i := 3) (N := some 59) (bL 8 15) rfl rfl (one_of HT_.out (by kernel_rfl)) (by decide) (fun K hK => ?_)
        refine goes_ Try.func38 (by kernel_rfl) rfl #[.pointer (some ⟨Ah, 0, none⟩)] (by rfl) rfl rfl mp_q ?_
        with_reducible refine (spec_l04One.calls Ah Ax Ay false Fb Fc Fd Fe w _ ?side1 ?side2 A28.out).mono ?_
        (case side1 => exact sq60 Ae)
        (case side2 => exact bs60 HB)
        rintro e w32 ⟨rfl, hi, hb, hk⟩
        refine ⟨_, rfl, ?_⟩
        replace Aa := ak (Kd.R_mono (Kd.R_keep (IsS60.apart (show IsS60 w _ Ah Ax Ay false from (sq60 Ae)) (kR_q Aa) (by decide)) hk (fun _ h => h.2)) (fun _ h => h.1))
        replace Ac := ak (KeepBut.blk hk (g' := Af) (o := .cells spacket0 39 (0, 0)) (bk_q Ac) Ar.out (by simp))
        replace Ab := ak (KeepBut.blk hk (g' := Ak) (o := .cells #[.int .i64 Ai, .int .i64 An, .int .i64 Ao, .int .i64 Ap, u679004, .slice none 0 0] 39 (0, 0)) (bk_q Ab) Aq.out (by simp))
        replace HB := ak (hb); replace Ae := ak (hi)
        refine hK.out _ _ (cz6_ Ab) (fun hHeld => ?_)
        clear hK K
        refine norm_ (a' := ?_) ?_ ?_; rotate_left; (show Act.put _ (some 59) _ = _; simp only [Act.put, List.setIfInBounds_toArray, List.set_cons_zero, List.set_cons_succ, i64_w, i32_w]; rfl)
        refine one_ (i := 4) (N := some 60) (bL 8 31) rfl rfl (one_of HT_.out (by kernel_rfl)) (by decide) (fun K hK => ?_)
        refine value_ (w1 := ?_) (v := ?_) (by rfl) rfl ?_ ?_
        rotate_left 2
        ·go_simp
         constructor
         ·rfl
         ·rfl
        refine hK.out _ _ ⟨(blk_cell (blk_alloc Ab.out _) 0).trans rfl, (blk_cell (blk_alloc Ab.out _) 1).trans rfl, (blk_cell (blk_alloc Ab.out _) 2).trans rfl, (blk_cell (blk_alloc Ab.out _) 3).trans rfl, (blk_cell (blk_alloc Ab.out _) 4).trans rfl, (blk_cell (blk_alloc Ab.out _) 5).trans rfl⟩ (fun hHeld => ?_)
        clear hK K
        refine norm_ (a' := ?_) ?_ ?_; rotate_left; (show Act.put _ (some 60) _ = _; simp only [Act.put, List.setIfInBounds_toArray, List.set_cons_zero, List.set_cons_succ, i64_w, i32_w]; rfl)
        refine one_ (i := 5) (N := some 61) (bL 8 63) rfl rfl (one_of HT_.out (by kernel_rfl)) (by decide) (fun K hK => ?_)
        refine Kd.R_append_step (Kd.int .i64) (w0 := w) w.heap.size (by rfl) (.tmp 57) (.tmp 60) 30 3 (.int .i64 0) 8 rfl Try.underlying30 info3 rfl (by decide) (by omega) u679004 Au Fb [.int .i64 Fb] (fun _ => True) (fun _ => False) rfl rfl ?aP (fun _ hk => hk.elim) ?aF ?aO ?aB ?aS ?aL ?_
        (case aP => exact rfl)
        (case aB => exact (bs60 HB))
        (case aF => exact (fun _ _ => trivial))
        (case aO => exact (kR_q Aa))
        (case aS => exact (below_size (bs60 HB)))
        (case aL => have := Gz.out; omega)
        intro v700 w33 ho hb hg hat
        rw [← Ha.out] at ho
        replace Ac := ak (blk_grown (g := Af) (o := .cells spacket0 39 (0, 0)) (bk_q Ac) hg (Kd.R_ne Aa.out Ac.out (by decide)))
        replace Ab := ak (blk_grown (g := Ak) (o := .cells #[.int .i64 Ai, .int .i64 An, .int .i64 Ao, .int .i64 Ap, u679004, .slice none 0 0] 39 (0, 0)) (bk_q Ab) hg (Kd.R_ne Aa.out Ab.out (by decide)))
        replace Ae := ak (IsS60.grown (show IsS60 w _ Ah Fc Fd Fe from (sq60 Ae)) hg (IsS60.own_ne Ae.out Aa.out (by decide)))
        replace HB := ak (hb); have Fu := ak (ho); clear Aa; clear ho hb hg hat; obtain ⟨Ao34, co34, eo34⟩ := Kd.R_slice Fu.out
        (first | subst eo34 | (injection eo34 with f1_ f2_ f3_; have f4_ := f1_.symm; have f5_ := f3_.symm; clear f1_ f2_ f3_; subst f4_; subst f5_))
        refine hK.out _ _ (cz6_ Ab) (fun hHeld => ?_)
        clear hK K
        refine norm_ (a' := ?_) ?_ ?_; rotate_left; (show Act.put _ (some 61) _ = _; simp only [Act.put, List.setIfInBounds_toArray, List.set_cons_zero, List.set_cons_succ, i64_w, i32_w]; rfl)
        refine pq_ 6 62 (bL 8 127) HT_.out rfl rfl ?_
        refine last_ (i := 7) (N := none) (bL 8 255) rfl rfl (one_of HT_.out (by kernel_rfl)) (by decide) (fun K hK => ?_)
        have hs35 : w33.cell? ⟨Ak, 4, none⟩ = some (u679004) := (blk_cell Ab.out 4).trans rfl
        have hfs35 := blk_frozen Ab.out 4; have hns35_0 := Aj.out; have hms35_0 := As.out
        refine skip_ (w1 := ?_) (by rfl) rfl ?_ ?_
        rotate_left
        ·go_simp
         rfl
        refine hK.out _ _ ?_
        clear hK K
        refine done_ (done_of HT_.out (by kernel_rfl)) ?_
        try go_wp2
        go_roundg k1
        case measure => have := Fj.out; omega
        case rel => exact ⟨(wrap64 (Bq + 1)), (Fc), (Fd), (Fe), (Ff), (.slice Ao34 Ff.length co34), rs_q, H', ⟨by have := Fj.out; omega⟩, ⟨by (with_reducible repeat (first | apply Kd.R_alloc | apply Kd.R_drewN | apply Kd.R_drew)); exact Kd.R_mono (Kd.R_far (p := ⟨Ak, 4, none⟩) (Kd.R_types Fu.out Ab.out (by decide)) (fun _ hk => hk.2) (.slice Ao34 Ff.length co34)) (fun _ hk => trivial)⟩, ⟨by refine bz_ ?_; refine blk_far ?_ Aj.out _; refine bz_ ?_; exact Ac.out⟩, ⟨by refine bz_ ?_; refine blk_put (cs := #[.int .i64 Ai, .int .i64 An, .int .i64 Ao, .int .i64 Ap, u679004, .slice none 0 0]) ?_ 4 _ rfl; refine bz_ ?_; exact Ab.out⟩, ⟨(sq60 Ae)⟩, ⟨(bs60 HB)⟩⟩
       ·rw [if_neg c29] at H
        exact absurd H (by simp)
     ·rw [if_neg c25] at H
      have Ev : decide (Bq < 50) = false := decide_eq_false c25
      clear c25; have H' := ak H; clear H
      go_wp2
      go_meet
      case rel => exact ⟨_, (Ax), (Ay), (Bj), (Au), (u679004), H', ⟨by have := Fj.out; first | omega | exact Nat.le_refl _⟩, ⟨kR_q Aa⟩, ⟨bk_q Ac⟩, ⟨bk_q Ab⟩, ⟨(sq60 Ae)⟩, ⟨(bs60 HB)⟩⟩
    ·rw [if_neg c24] at H
     have Bt : decide (Bq < Ei) = false := decide_eq_false c24
     clear c24
     (first | rw [Bt] | rw [Dx] | (simp only [i64_w, i32_w]; first | rw [Bt] | rw [Dx]) | skip)
     have H' := ak H; clear H
     go_wp2
     go_meet
     case rel => exact ⟨_, (Ax), (Ay), (Bj), (Au), (u679004), H', ⟨by have := Fj.out; first | omega | exact Nat.le_refl _⟩, ⟨kR_q Aa⟩, ⟨bk_q Ac⟩, ⟨bk_q Ab⟩, ⟨(sq60 Ae)⟩, ⟨(bs60 HB)⟩⟩
 case rest =>
  clear Gp; (try clear c1); (try clear c2); (try clear p2); (try clear c3); (try clear c5); (try clear p6); (try clear c14); (try clear c15); (try clear c19); (try clear c24); (try clear Bt); (try clear Dx); (try clear c25); (try clear Ev); (try clear c26); (try clear c29)
  try clear Cb Cc Cd Ce Cf Cg
  try clear Cn Co Cp Cq Cr Cs
  try clear Cz Da Db Dc Dd De
  try clear Dl Dm Dn Do Dp Dq
  try clear Ej Ek El
  try clear Ep Eq Er
  try clear Ch Ci Cj Ck Cl Cm
  try clear Ct Cu Cv Cw Cx Cy
  try clear Df Dg Dh Di Dj Dk
  try clear Dr Ds Dt Du Dv Dw
  try clear Em En Eo
  try clear Es Et Eu
  (try clear p2); obtain ⟨kq, Bm, Bn, Bo, Al, u679004, HA, HJ7, Aa, Ac, Ab, Ae, HB⟩ := hcut
  cases kq with
  | zero => exact absurd HA.out (by simp [spec_ReadPacket.j1])
  | succ kj7 =>
   have H := HA.out; clear HA
   simp only [spec_ReadPacket.j1] at H
   replace H := bsi H; obtain ⟨⟨Dz, Gq, Gr, Gs⟩, A360, H⟩ := H
   (try dsimp only at H)
   have A36 := ak A360; clear A360; have H' := ak H; clear H
   go_wp2_with (first | ((with_reducible refine gate_callee (f := 39) rfl ?_); refine goesL_ (some 64) rfl rfl Try.func39 (by kernel_rfl) rfl #[.pointer (some ⟨Ah, 0, none⟩)] rfl mp_q ?_; (with_reducible refine (spec_l04Var.calls kj7 Ah Bm Bn Bo Dz Gq Gr Gs w _ ?side1 ?side2 A36.out).mono ?_); (case side1 => exact sq60 Ae); (case side2 => exact bs60 HB); rintro e w37 ⟨rfl, hi, hb, hk⟩; refine ⟨_, rfl, ?_⟩; replace Aa := ak (Kd.R_mono (Kd.R_keep (IsS60.apart (show IsS60 w _ Ah Bm Bn Bo from (sq60 Ae)) (kR_q Aa) (by decide)) hk (fun _ h => h.2)) (fun _ h => h.1)); replace Ac := ak (KeepBut.blk hk (g' := Af) (o := .cells spacket0 39 (0, 0)) (bk_q Ac) Ar.out (by simp)); replace Ab := ak (KeepBut.blk hk (g' := Ak) (o := .cells #[.int .i64 Ai, .int .i64 An, .int .i64 Ao, .int .i64 Ap, u679004, .slice none 0 0] 39 (0, 0)) (bk_q Ab) Aq.out (by simp)); replace HB := ak (hb); replace Ae := ak (hi)))
   go_loopg [10] kj7 (fun kq v10 w' => ∃ (Bg : Int) (Az : ByteArray) (Ba : Int) (At : Bool) (Am : List (S24)) (u679005 : Value), v10 = .int .i64 Bg ∧ Aside0 (spec_ReadPacket.l1 kq a0 Dz Bg Az Ba At Ai An Ao Ap Al Am = some (r1, r2, r3, r4, r5, r6, r7)) ∧ Aside0 (kq ≤ kj7) ∧ Aside0 (Kd.R (Kd.int .i64) 3 w' w.heap.size (fun _ => True) u679004 Al) ∧ Aside0 (Kd.S k24 24 w' w.heap.size (fun _ => True) u679005 Am) ∧ Aside0 (w'.heap[Af]? = some (.cells #[.int .i64 0, .int .i64 0, .int .i64 0, .int .i64 0, (.slice none 0 0), (.slice none 0 0)] 39 (0, 0))) ∧ Aside0 (w'.heap[Ak]? = some (.cells #[.int .i64 Ai, .int .i64 An, .int .i64 Ao, .int .i64 Ap, u679004, u679005] 39 (0, 0))) ∧ Aside0 (IsS60 w w' Ah Az Ba At) ∧ Aside0 (Below w.heap.size w w'))
   case atStart => exact ⟨(0), (Gq), (Gr), (Gs), (([] : List (S24))), (.slice none 0 0), rs_q, H', ⟨Nat.le_refl _⟩, ⟨kR_q Aa⟩, ⟨by first | exact Kd.S_nil _ _ _ _ _ | exact Kd.N_nil _ _ _ _ _ | exact Kd.V_nil _ _ _ _ _ | exact Kd.Q_nil _ _ _ _ _ | exact Kd.R_nil _ _ _ _ _⟩, ⟨bk_q Ac⟩, ⟨bk_q Ab⟩, ⟨(sq60 Ae)⟩, ⟨(bs60 HB)⟩⟩
   case round =>
    clear H'; (try clear c1); (try clear c2); (try clear p2); (try clear c3); (try clear c5); (try clear p6); (try clear c14); (try clear c15); (try clear c19); (try clear c24); (try clear Bt); (try clear Dx); (try clear c25); (try clear Ev); (try clear c26); (try clear c29)
    try clear Cb Cc Cd Ce Cf Cg
    try clear Cn Co Cp Cq Cr Cs
    try clear Cz Da Db Dc Dd De
    try clear Dl Dm Dn Do Dp Dq
    try clear Ej Ek El
    try clear Ep Eq Er
    try clear Ch Ci Cj Ck Cl Cm
    try clear Ct Cu Cv Cw Cx Cy
    try clear Df Dg Dh Di Dj Dk
    try clear Dr Ds Dt Du Dv Dw
    try clear Em En Eo
    try clear Es Et Eu
    (try clear p2); (try clear p6); obtain ⟨Bg, Az, Ba, At, Am, u679005, rfl, HA, Fk, Aa, Ad, Ac, Ab, Ae, HB⟩ := hrel
    cases gk with
    | zero => exact absurd HA.out (by simp [spec_ReadPacket.l1])
    | succ k2 =>
     have H := HA.out; clear HA
     simp only [spec_ReadPacket.l1] at H
     have Fr := ak H; clear H
     go_upto_region 14 with (fail)
     go_cut [78] (fun v78 wc => ∃ (kq : Nat) (Ee : Bool), v78 = .bool Ee ∧ Aside0 (spec_ReadPacket.j3 kq a0 Dz Bg Ee Az Ba At Ai An Ao Ap Al Am = some (r1, r2, r3, r4, r5, r6, r7)) ∧ Aside0 (kq ≤ k2) ∧ Aside0 (Kd.R (Kd.int .i64) 3 wc w.heap.size (fun _ => True) u679004 Al) ∧ Aside0 (Kd.S k24 24 wc w.heap.size (fun _ => True) u679005 Am) ∧ Aside0 (wc.heap[Af]? = some (.cells #[.int .i64 0, .int .i64 0, .int .i64 0, .int .i64 0, (.slice none 0 0), (.slice none 0 0)] 39 (0, 0))) ∧ Aside0 (wc.heap[Ak]? = some (.cells #[.int .i64 Ai, .int .i64 An, .int .i64 Ao, .int .i64 Ap, u679004, u679005] 39 (0, 0))) ∧ Aside0 (IsS60 w wc Ah Az Ba At) ∧ Aside0 (Below w.heap.size w wc))
     case first =>
      have H := Fr.out; clear Fr
      by_cases c39 : Bg < Dz
      ·rw [if_pos c39] at H
       have Dy : decide (Bg < Dz) = true := decide_eq_true c39
       clear c39
       (first | rw [Dy] | rw [Ew] | (simp only [i64_w, i32_w]; first | rw [Dy] | rw [Ew]) | skip)
       by_cases c40 : Bg < 200
       ·rw [if_pos c40] at H
        have Fv : decide (Bg < 200) = true := decide_eq_true c40
        clear c40; have H' := ak H; clear H; obtain ⟨Bx, hgz41⟩ := Ae.out; have Fx := cellS60_0 Bx; have Fy := cellS60_1 Bx; have Fz := cellS60_2 Bx; have Ga := blk_frozen Bx 0; have Gb := blk_frozen Bx 1; have Gc := blk_frozen Bx 2; clear Bx hgz41
        go_wp2
        go_meet
        case rel => exact ⟨_, (!At), rs_q, H', ⟨by have := HJ7.out; have := Fk.out; first | omega | exact Nat.le_refl _⟩, ⟨kR_q Aa⟩, ⟨kS_q Ad⟩, ⟨bk_q Ac⟩, ⟨bk_q Ab⟩, ⟨(sq60 Ae)⟩, ⟨(bs60 HB)⟩⟩
       ·rw [if_neg c40] at H
        have Fv : decide (Bg < 200) = false := decide_eq_false c40
        clear c40; have H' := ak H; clear H
        go_wp2
        go_meet
        case rel => exact ⟨_, (false), rs_q, H', ⟨by have := HJ7.out; have := Fk.out; first | omega | exact Nat.le_refl _⟩, ⟨kR_q Aa⟩, ⟨kS_q Ad⟩, ⟨bk_q Ac⟩, ⟨bk_q Ab⟩, ⟨(sq60 Ae)⟩, ⟨(bs60 HB)⟩⟩
      ·rw [if_neg c39] at H
       have Dy : decide (Bg < Dz) = false := decide_eq_false c39
       clear c39
       (first | rw [Dy] | rw [Ew] | (simp only [i64_w, i32_w]; first | rw [Dy] | rw [Ew]) | skip)
       have H' := ak H; clear H
       go_wp2
       go_meet
       case rel => exact ⟨_, (false), rs_q, H', ⟨by have := HJ7.out; have := Fk.out; first | omega | exact Nat.le_refl _⟩, ⟨kR_q Aa⟩, ⟨kS_q Ad⟩, ⟨bk_q Ac⟩, ⟨bk_q Ab⟩, ⟨(sq60 Ae)⟩, ⟨(bs60 HB)⟩⟩
     case rest =>
      clear Fr; (try clear c1); (try clear c2); (try clear p2); (try clear c3); (try clear c4); (try clear c5); (try clear p6); (try clear c14); (try clear c15); (try clear c19); (try clear c24); (try clear Bt); (try clear Dx); (try clear c25); (try clear Ev); (try clear c26); (try clear c29); (try clear c38); (try clear c39); (try clear Dy); (try clear Ew); (try clear c40); (try clear Fv)
      try clear Cb Cc Cd Ce Cf Cg
      try clear Cn Co Cp Cq Cr Cs
      try clear Cz Da Db Dc Dd De
      try clear Dl Dm Dn Do Dp Dq
      try clear Ej Ek El
      try clear Ep Eq Er
      try clear Fx Fy Fz
      try clear Ch Ci Cj Ck Cl Cm
      try clear Ct Cu Cv Cw Cx Cy
      try clear Df Dg Dh Di Dj Dk
      try clear Dr Ds Dt Du Dv Dw
      try clear Em En Eo
      try clear Es Et Eu
      try clear Ga Gb Gc
      (try clear p2); (try clear p6); obtain ⟨kq, Ee, rfl, HA, HJ37, Aa, Ad, Ac, Ab, Ae, HB⟩ := hcut
      cases kq with
      | zero => exact absurd HA.out (by simp [spec_ReadPacket.j3])
      | succ kj37 =>
       have H := HA.out; clear HA
       simp only [spec_ReadPacket.j3] at H
       by_cases c42 : Ee = true
       ·subst c42; rw [if_pos rfl] at H; replace H := bsi H; obtain ⟨⟨Fs, Fg, Fh, Fi⟩, A430, H⟩ := H
        (try dsimp only at H)
        have A43 := ak A430; clear A430; replace H := bsi H; obtain ⟨⟨Ft, Ea, Eb, Ec⟩, A440, H⟩ := H
        (try dsimp only at H)
        have A44 := ak A440; clear A440; replace H := bsi H; obtain ⟨⟨Bb, Bc, Be, Bf, Bh, Bd, Bl, Bp, Hd⟩, A450, H⟩ := H
        (try dsimp only at H)
        have A45 := ak A450; clear A450
        by_cases c46 : Am.length < 1759218604441
        ·rw [if_pos c46] at H; have Hb := ak c46; clear c46; obtain ⟨Ex, Ef⟩ : ∃ y_ : List (S24), y_ = (Am ++ [(⟨Bb, Bc, Be, Bf, Bh, Bd, Bl, Bp⟩ : S24)]) := ⟨_, rfl⟩
         replace H : (spec_ReadPacket.l1 kj37 a0 Dz (wrap64 (Bg + 1)) Ea Eb Ec Ai An Ao Ap Al Ex) = some (r1, r2, r3, r4, r5, r6, r7) := by first | (rw [Ef]; with_reducible exact H) | (have H2_ := (Option.bind_some _ _).symm.trans H; rw [Ef]; with_reducible exact H2_) | (have H2_ := (Option.bind_some _ _).symm.trans H; with_reducible exact H2_) | with_reducible exact H | (rw [Ef]; exact H) | exact H
         have Hc := ak Ef; clear Ef; have H' := ak H; clear H
         go_wp2_with (first | ((with_reducible refine gate_callee (f := 39) rfl ?_); refine goesL_ (some 82) rfl rfl Try.func39 (by kernel_rfl) rfl #[.pointer (some ⟨Ah, 0, none⟩)] rfl mp_q ?_; (with_reducible refine (spec_l04Var.calls kj37 Ah Az Ba At Fs Fg Fh Fi w _ ?side1 ?side2 A43.out).mono ?_); (case side1 => exact sq60 Ae); (case side2 => exact bs60 HB); rintro e w47 ⟨rfl, hi, hb, hk⟩; refine ⟨_, rfl, ?_⟩; replace Aa := ak (Kd.R_mono (Kd.R_keep (IsS60.apart (show IsS60 w _ Ah Az Ba At from (sq60 Ae)) (kR_q Aa) (by decide)) hk (fun _ h => h.2)) (fun _ h => h.1)); replace Ad := ak (Kd.S_mono (Kd.S_keep (IsS60.apartS (show IsS60 w _ Ah Az Ba At from (sq60 Ae)) (kS_q Ad) (by decide)) hk (fun _ h => h.2)) (fun _ h => h.1)); replace Ac := ak (KeepBut.blk hk (g' := Af) (o := .cells spacket0 39 (0, 0)) (bk_q Ac) Ar.out (by simp)); replace Ab := ak (KeepBut.blk hk (g' := Ak) (o := .cells #[.int .i64 Ai, .int .i64 An, .int .i64 Ao, .int .i64 Ap, u679004, u679005] 39 (0, 0)) (bk_q Ab) Aq.out (by simp)); replace HB := ak (hb); replace Ae := ak (hi)) | ((with_reducible refine gate_callee (f := 59) rfl ?_); refine goesL_ (some 86) rfl rfl Try.func59 (by kernel_rfl) rfl #[.pointer (some ⟨Ah, 0, none⟩), .int .i64 Fs] rfl mp_q ?_; (with_reducible refine (spec_l04Take.calls Ah Fg Fh Fi Fs Ft Ea Eb Ec w _ ?side1 ?side2 A44.out).mono ?_); (case side1 => exact sq60 Ae); (case side2 => exact bs60 HB); rintro e w48 ⟨rfl, hi, hb, hk⟩; refine ⟨_, rfl, ?_⟩; replace Aa := ak (Kd.R_mono (Kd.R_keep (IsS60.apart (show IsS60 w _ Ah Fg Fh Fi from (sq60 Ae)) (kR_q Aa) (by decide)) hk (fun _ h => h.2)) (fun _ h => h.1)); replace Ad := ak (Kd.S_mono (Kd.S_keep (IsS60.apartS (show IsS60 w _ Ah Fg Fh Fi from (sq60 Ae)) (kS_q Ad) (by decide)) hk (fun _ h => h.2)) (fun _ h => h.1)); replace Ac := ak (KeepBut.blk hk (g' := Af) (o := .cells spacket0 39 (0, 0)) (bk_q Ac) Ar.out (by simp)); replace Ab := ak (KeepBut.blk hk (g' := Ak) (o := .cells #[.int .i64 Ai, .int .i64 An, .int .i64 Ao, .int .i64 Ap, u679004, u679005] 39 (0, 0)) (bk_q Ab) Aq.out (by simp)); replace HB := ak (hb); replace Ae := ak (hi)) | ((with_reducible refine gate_callee (f := 9) rfl ?_); refine goesL_ (some 87) rfl rfl Try.func9 (by kernel_rfl) rfl #[.string Ft] rfl mp_q ?_; (with_reducible refine (spec_ReadRecord.calls kj37 Ft Bb Bc Be Bf Bh Bd Bl Bp Hd _ A45.out).mono ?_); rintro e w49 ⟨v720, rfl, ho0, hb⟩; refine ⟨_, rfl, ?_⟩; have hs_v720 : (v720 : Value).oneCell' = true := (by first | (have h_ := Kd.R_slice ho0; obtain ⟨A_, c_, e_⟩ := h_; simp [e_, Value.oneCell']) | (have h_ := Kd.S_slice ho0; obtain ⟨A_, c_, e_⟩ := h_; simp [e_, Value.oneCell']) | (have h_ := Kd.N_slice ho0; obtain ⟨A_, c_, e_⟩ := h_; simp [e_, Value.oneCell']) | (have h_ := Kd.V_slice ho0; obtain ⟨A_, c_, e_⟩ := h_; simp [e_, Value.oneCell'])); have hst_v720 := fun (w_ : World) (a_ : Addr) m_ => run_store Try.prog w_ a_ v720 m_ hs_v720; replace Aa := ak (Kd.R_below (kR_q Aa) hb); replace Ad := ak (Kd.S_elder' (kS_q Ad) (Kd.R_base ho0) hb); have Bu := ak (Kd.R_lower ho0 (below_size (bs60 HB))); replace Ac := ak (blk_below (g := Af) (bk_q Ac) hb); replace Ab := ak (blk_below (g := Ak) (bk_q Ab) hb); replace HB := ak (below_step (bs60 HB) hb); replace Ae := ak (IsS60.below (sq60 Ae) hb); (try clear ho0)) | ((with_reducible refine gate_dst (N := 12) rfl ?_); refine box_q 12 #[.int .i64 0, .int .i64 0, .int .i64 0, .int .i64 0, .int .i64 0, .slice none 0 0, .int .i64 0, .bool false] 24 ?_; intro Ag hg w50 hbox hb; replace Aa := ak (Kd.R_below (kR_q Aa) hb); replace Ad := ak (Kd.S_below (Kd.S_elderB (kS_q Ad) Ag (Nat.le_of_eq hg.symm)) hb); replace Bu := ak (Kd.R_below (kR_q Bu) hb); have Bk := ak (hbox); have Og := gsz w (below_size (bs60 HB)) hg; have Oh := gsz w (below_size (bs60 HB)) hg; replace HB := ak (below_step (bs60 HB) hb); have Av := ak ((by rw [hg]; exact Nat.ne_of_lt (blk_lt (g := Af) (o := .cells spacket0 39 (0, 0)) (bk_q Ac)) : Af ≠ Ag)); have Fl := ak ((by rw [hg]; exact Nat.ne_of_gt (blk_lt (g := Af) (o := .cells spacket0 39 (0, 0)) (bk_q Ac)) : Ag ≠ Af)); replace Ac := ak (blk_below (g := Af) (bk_q Ac) hb); have Aw := ak ((by rw [hg]; exact Nat.ne_of_lt (blk_lt (g := Ak) (o := .cells #[.int .i64 Ai, .int .i64 An, .int .i64 Ao, .int .i64 Ap, u679004, u679005] 39 (0, 0)) (bk_q Ab)) : Ak ≠ Ag)); have Fm := ak ((by rw [hg]; exact Nat.ne_of_gt (blk_lt (g := Ak) (o := .cells #[.int .i64 Ai, .int .i64 An, .int .i64 Ao, .int .i64 Ap, u679004, u679005] 39 (0, 0)) (bk_q Ab)) : Ag ≠ Ak)); replace Ab := ak (blk_below (g := Ak) (bk_q Ab) hb); have Fn := ak ((by rw [hg]; exact Nat.ne_of_lt (IsS60.lt (show IsS60 w _ Ah Ea Eb Ec from (sq60 Ae))) : Ah ≠ Ag)); have Fo := ak ((by rw [hg]; exact Nat.ne_of_gt (IsS60.lt (show IsS60 w _ Ah Ea Eb Ec from (sq60 Ae))) : Ag ≠ Ah)); replace Ae := ak (IsS60.below (sq60 Ae) hb); clear hb hbox hg; have Oi := Fl.out; have Oj := Av.out; have Ok := Fm.out; have Ol := Aw.out; have Om := Fo.out; have On := Fn.out; obtain ⟨Hw, Hx, Hy, Hz, Ia, Ib, Ic, Id, Ie, If, Ig, Ih, Ii, Ij, Ik, Il⟩ := cf8_ Bk; obtain ⟨Ao55, co55, eo55⟩ := Kd.R_slice Bu.out; subst eo55) | ((with_reducible refine gate_store (t := 24) (p := 12) rfl ?_); refine store_event (t := 24) (p := 12) (v := ?vo_w56) (w1 := ((((((((w50.setCell ⟨Ag, 0, none⟩ (.int .i64 Bb)).setCell ⟨Ag, 1, none⟩ (.int .i64 Bc)).setCell ⟨Ag, 2, none⟩ (.int .i64 Be)).setCell ⟨Ag, 3, none⟩ (.int .i64 Bf)).setCell ⟨Ag, 4, none⟩ (.int .i64 Bh)).setCell ⟨Ag, 5, none⟩ (.slice Ao55 Bd.length co55)).setCell ⟨Ag, 6, none⟩ (.int .i64 Bl)).setCell ⟨Ag, 7, none⟩ (.bool Bp))) ?hg ?ho ?hn ?hr ?_; (case ho => rfl); (case hg => rfl); (case hn => rfl); (case hr => first | (go_simp; done) | (go_simp; rfl)); intro w56 hw; replace Aa : Aside0 (Kd.R (Kd.int .i64) 3 w56 w.heap.size (fun _ => True) u679004 Al) := ⟨(by rw [hw]; exact (by (with_reducible repeat (first | apply Kd.R_alloc | apply Kd.R_drewN | apply Kd.R_drew)); exact Kd.R_mono (Kd.R_far (p := ⟨Ag, 7, none⟩) (Kd.R_far (p := ⟨Ag, 6, none⟩) (Kd.R_far (p := ⟨Ag, 5, none⟩) (Kd.R_far (p := ⟨Ag, 4, none⟩) (Kd.R_far (p := ⟨Ag, 3, none⟩) (Kd.R_far (p := ⟨Ag, 2, none⟩) (Kd.R_far (p := ⟨Ag, 1, none⟩) (Kd.R_far (p := ⟨Ag, 0, none⟩) (Kd.R_types Aa.out Bk.out (by decide)) (fun _ hk => hk.2) (.int .i64 Bb)) (fun _ hk => hk.2) (.int .i64 Bc)) (fun _ hk => hk.2) (.int .i64 Be)) (fun _ hk => hk.2) (.int .i64 Bf)) (fun _ hk => hk.2) (.int .i64 Bh)) (fun _ hk => hk.2) (.slice Ao55 Bd.length co55)) (fun _ hk => hk.2) (.int .i64 Bl)) (fun _ hk => hk.2) (.bool Bp)) (fun _ hk => trivial)))⟩; replace Ad : Aside0 (Kd.S k24 24 w56 w.heap.size (fun k_ => some k_ ≠ (.slice Ao55 Bd.length co55 : Value).ownBlock ∧ k_ ≠ Ag) u679005 Am) := ⟨(by rw [hw]; exact (by (with_reducible repeat (first | apply Kd.S_alloc | apply Kd.S_drewN | apply Kd.S_drew)); exact Kd.S_mono (Kd.S_far (p := ⟨Ag, 7, none⟩) (Kd.S_far (p := ⟨Ag, 6, none⟩) (Kd.S_far (p := ⟨Ag, 5, none⟩) (Kd.S_far (p := ⟨Ag, 4, none⟩) (Kd.S_far (p := ⟨Ag, 3, none⟩) (Kd.S_far (p := ⟨Ag, 2, none⟩) (Kd.S_far (p := ⟨Ag, 1, none⟩) (Kd.S_far (p := ⟨Ag, 0, none⟩) (Kd.S_mono Ad.out (fun k_ hk => (⟨hk, hk.2⟩ : _ ∧ k_ ≠ Ag))) (fun _ hk => hk.2) (.int .i64 Bb)) (fun _ hk => hk.2) (.int .i64 Bc)) (fun _ hk => hk.2) (.int .i64 Be)) (fun _ hk => hk.2) (.int .i64 Bf)) (fun _ hk => hk.2) (.int .i64 Bh)) (fun _ hk => hk.2) (.slice Ao55 Bd.length co55)) (fun _ hk => hk.2) (.int .i64 Bl)) (fun _ hk => hk.2) (.bool Bp)) (fun _ hk => ⟨hk.1.1.2, hk.1.2⟩)))⟩; replace Bu : Aside0 (Kd.R k63 63 w56 w.heap.size (fun _ => True) (.slice Ao55 Bd.length co55) Bd) := ⟨(by rw [hw]; exact (by (with_reducible repeat (first | apply Kd.R_alloc | apply Kd.R_drewN | apply Kd.R_drew)); exact Kd.R_mono (Kd.R_far (p := ⟨Ag, 7, none⟩) (Kd.R_far (p := ⟨Ag, 6, none⟩) (Kd.R_far (p := ⟨Ag, 5, none⟩) (Kd.R_far (p := ⟨Ag, 4, none⟩) (Kd.R_far (p := ⟨Ag, 3, none⟩) (Kd.R_far (p := ⟨Ag, 2, none⟩) (Kd.R_far (p := ⟨Ag, 1, none⟩) (Kd.R_far (p := ⟨Ag, 0, none⟩) (Kd.R_types Bu.out Bk.out (by decide)) (fun _ hk => hk.2) (.int .i64 Bb)) (fun _ hk => hk.2) (.int .i64 Bc)) (fun _ hk => hk.2) (.int .i64 Be)) (fun _ hk => hk.2) (.int .i64 Bf)) (fun _ hk => hk.2) (.int .i64 Bh)) (fun _ hk => hk.2) (.slice Ao55 Bd.length co55)) (fun _ hk => hk.2) (.int .i64 Bl)) (fun _ hk => hk.2) (.bool Bp)) (fun _ hk => trivial)))⟩; replace Ac : Aside0 (w56.heap[Af]? = some (.cells #[.int .i64 0, .int .i64 0, .int .i64 0, .int .i64 0, .slice none 0 0, .slice none 0 0] 39 (0, 0))) := ⟨(by rw [hw]; exact (by refine bz_ ?_; refine blk_far ?_ Av.out _; refine bz_ ?_; refine blk_far ?_ Av.out _; refine bz_ ?_; refine blk_far ?_ Av.out _; refine bz_ ?_; refine blk_far ?_ Av.out _; refine bz_ ?_; refine blk_far ?_ Av.out _; refine bz_ ?_; refine blk_far ?_ Av.out _; refine bz_ ?_; refine blk_far ?_ Av.out _; refine bz_ ?_; refine blk_far ?_ Av.out _; refine bz_ ?_; exact Ac.out))⟩; replace Ab : Aside0 (w56.heap[Ak]? = some (.cells #[.int .i64 Ai, .int .i64 An, .int .i64 Ao, .int .i64 Ap, u679004, u679005] 39 (0, 0))) := ⟨(by rw [hw]; exact (by refine bz_ ?_; refine blk_far ?_ Aw.out _; refine bz_ ?_; refine blk_far ?_ Aw.out _; refine bz_ ?_; refine blk_far ?_ Aw.out _; refine bz_ ?_; refine blk_far ?_ Aw.out _; refine bz_ ?_; refine blk_far ?_ Aw.out _; refine bz_ ?_; refine blk_far ?_ Aw.out _; refine bz_ ?_; refine blk_far ?_ Aw.out _; refine bz_ ?_; refine blk_far ?_ Aw.out _; refine bz_ ?_; exact Ab.out))⟩; replace Bk : Aside0 (w56.heap[Ag]? = some (.cells #[.int .i64 Bb, .int .i64 Bc, .int .i64 Be, .int .i64 Bf, .int .i64 Bh, .slice Ao55 Bd.length co55, .int .i64 Bl, .bool Bp] 24 (0, 0))) := ⟨(by rw [hw]; exact (by refine bz_ ?_; refine blk_put (cs := #[.int .i64 Bb, .int .i64 Bc, .int .i64 Be, .int .i64 Bf, .int .i64 Bh, .slice Ao55 Bd.length co55, .int .i64 Bl, .bool false]) ?_ 7 _ rfl; refine bz_ ?_; refine blk_put (cs := #[.int .i64 Bb, .int .i64 Bc, .int .i64 Be, .int .i64 Bf, .int .i64 Bh, .slice Ao55 Bd.length co55, .int .i64 0, .bool false]) ?_ 6 _ rfl; refine bz_ ?_; refine blk_put (cs := #[.int .i64 Bb, .int .i64 Bc, .int .i64 Be, .int .i64 Bf, .int .i64 Bh, .slice none 0 0, .int .i64 0, .bool false]) ?_ 5 _ rfl; refine bz_ ?_; refine blk_put (cs := #[.int .i64 Bb, .int .i64 Bc, .int .i64 Be, .int .i64 Bf, .int .i64 0, .slice none 0 0, .int .i64 0, .bool false]) ?_ 4 _ rfl; refine bz_ ?_; refine blk_put (cs := #[.int .i64 Bb, .int .i64 Bc, .int .i64 Be, .int .i64 0, .int .i64 0, .slice none 0 0, .int .i64 0, .bool false]) ?_ 3 _ rfl; refine bz_ ?_; refine blk_put (cs := #[.int .i64 Bb, .int .i64 Bc, .int .i64 0, .int .i64 0, .int .i64 0, .slice none 0 0, .int .i64 0, .bool false]) ?_ 2 _ rfl; refine bz_ ?_; refine blk_put (cs := #[.int .i64 Bb, .int .i64 0, .int .i64 0, .int .i64 0, .int .i64 0, .slice none 0 0, .int .i64 0, .bool false]) ?_ 1 _ rfl; refine bz_ ?_; refine blk_put (cs := #[.int .i64 0, .int .i64 0, .int .i64 0, .int .i64 0, .int .i64 0, .slice none 0 0, .int .i64 0, .bool false]) ?_ 0 _ rfl; refine bz_ ?_; exact Bk.out))⟩; replace HB : Aside0 (Below w.heap.size w w56) := ⟨(by rw [hw]; exact (bs60 HB))⟩; replace Ae : Aside0 (IsS60 w w56 Ah Ea Eb Ec) := ⟨(by rw [hw]; exact (sq60 Ae))⟩; clear hw; have Oo := As.out; have Op := Aj.out; have Oq := Aq.out; have Os := Bi.out; obtain ⟨Im, In, Io, Ip, Iq, Ir, Is, It, Iu, Iv, Iw, Ix⟩ := cf6_ Ab; obtain ⟨Iy, Iz, Ja, Jb, Jc, Jd, Je, Jf, Jg, Jh, Ji, Jj, Jk, Jl, Jm, Jn⟩ := cf8_ Bk) | ((with_reducible refine gate_builtin (b := .append) (xs := #[.tmp 91, .tmp 93]) rfl ?_); at_builtin; refine Kd.S_append k24 (w0 := w) w.heap.size rfl (.tmp 91) (.tmp 93) 37 24 (.agg #[(.int .i64 0), (.int .i64 0), (.int .i64 0), (.int .i64 0), (.int .i64 0), (.slice none 0 0), (.int .i64 0), (.bool false)]) 80 rfl Try.underlying37 info24 rfl (by decide) (by omega) u679005 Am (⟨Bb, Bc, Be, Bf, Bh, Bd, Bl, Bp⟩ : S24) [.int .i64 Bb, .int .i64 Bc, .int .i64 Be, .int .i64 Bf, .int .i64 Bh, .slice Ao55 Bd.length co55, .int .i64 Bl, .bool Bp] (fun k_ => k_ ≠ Ag) (fun k_ => some k_ = (.slice Ao55 Bd.length co55 : Value).ownBlock) rfl rfl ?aP (fun k_ hk_ => ((Kd.R_mono (ok' := fun k_ => ((fun k_ => k_ ≠ Ag)) k_ ∧ some k_ ≠ (u679005 : Value).ownBlock) (Kd.R_types (Kd.R_apart' (Bu.out) (Kd.S_typed Ad.out) (by decide)) Bk.out (by decide)) (fun k_ hk => ⟨hk.2, hk.1.2⟩))).1 k_ hk_.symm) ?aF ?aO ?aB ?aS ?aL ?_; (case aP => exact k24_mkM _ _ _ (⟨Bb, Bc, Be, Bf, Bh, Bd, Bl, Bp⟩ : S24) (Kd.R_mono (Kd.R_tight rfl (Kd.R_mono (ok' := fun k_ => ((fun k_ => k_ ≠ Ag)) k_ ∧ some k_ ≠ (u679005 : Value).ownBlock) (Kd.R_types (Kd.R_apart' (Bu.out) (Kd.S_typed Ad.out) (by decide)) Bk.out (by decide)) (fun k_ hk => ⟨hk.2, hk.1.2⟩))) (fun _ h_ => h_))); (case aB => exact (bs60 HB)); (case aF => exact (fun k_ hk => Kd.freshB (g := Ag) (o := .cells #[.int .i64 Bb, .int .i64 Bc, .int .i64 Be, .int .i64 Bf, .int .i64 Bh, .slice Ao55 Bd.length co55, .int .i64 Bl, .bool Bp] 24 (0, 0)) (bk_q Bk) k_ hk)); (case aO => exact (by (with_reducible repeat (first | apply Kd.S_alloc | apply Kd.S_drewN | apply Kd.S_drew)); exact Kd.S_mono Ad.out (fun k_ hk => ⟨hk.2, fun e_ => hk.1 e_⟩))); (case aS => exact (below_size (bs60 HB))); (case aL => have := Hb.out; omega); intro v727 w61 ho hb hg hat; rw [← Hc.out] at ho; replace Aa := ak (Kd.R_over' (kR_q Aa) (Kd.S_typed (kS_q Ad)) (by decide) hg); replace Ac := ak (blk_grown (g := Af) (o := .cells spacket0 39 (0, 0)) (bk_q Ac) hg (Kd.S_ne Ad.out Ac.out (by decide))); replace Ab := ak (blk_grown (g := Ak) (o := .cells #[.int .i64 Ai, .int .i64 An, .int .i64 Ao, .int .i64 Ap, u679004, u679005] 39 (0, 0)) (bk_q Ab) hg (Kd.S_ne Ad.out Ab.out (by decide))); replace Ae := ak (IsS60.grown (show IsS60 w _ Ah Ea Eb Ec from (sq60 Ae)) hg (IsS60.own_neS Ae.out Ad.out (by decide))); replace Bk := ak (blk_grown (g := Ag) (o := .cells #[.int .i64 Bb, .int .i64 Bc, .int .i64 Be, .int .i64 Bf, .int .i64 Bh, .slice Ao55 Bd.length co55, .int .i64 Bl, .bool Bp] 24 (0, 0)) (bk_q Bk) hg (Kd.S_away Ad.out (fun _ hk => hk.2))); replace HB := ak (hb); have Fw := ak (ho); clear Ad Bu; clear ho hb hg hat; obtain ⟨Ao62, co62, eo62⟩ := Kd.S_slice Fw.out; subst eo62; obtain ⟨Jo, Jp, Jq, Jr, Js, Jt, Ju, Jv, Jw, Jx, Jy, Jz⟩ := cf6_ Ab))
         go_roundg kj37
         case measure => have := HJ7.out; have := Fk.out; have := HJ37.out; omega
         case rel => exact ⟨(wrap64 (Bg + 1)), (Ea), (Eb), (Ec), (Ex), (.slice Ao62 Ex.length co62), rs_q, H', ⟨by have := HJ7.out; have := Fk.out; have := HJ37.out; omega⟩, ⟨by (with_reducible repeat (first | apply Kd.R_alloc | apply Kd.R_drewN | apply Kd.R_drew)); exact Kd.R_mono (Kd.R_far (p := ⟨Ak, 5, none⟩) (Kd.R_types Aa.out Ab.out (by decide)) (fun _ hk => hk.2) (.slice Ao62 Ex.length co62)) (fun _ hk => trivial)⟩, ⟨by (with_reducible repeat (first | apply Kd.S_alloc | apply Kd.S_drewN | apply Kd.S_drew)); exact Kd.S_mono (Kd.S_far (p := ⟨Ak, 5, none⟩) (Kd.S_types Fw.out Ab.out (by decide)) (fun _ hk => hk.2) (.slice Ao62 Ex.length co62)) (fun _ hk => trivial)⟩, ⟨by refine bz_ ?_; refine blk_far ?_ Aj.out _; refine bz_ ?_; exact Ac.out⟩, ⟨by refine bz_ ?_; refine blk_put (cs := #[.int .i64 Ai, .int .i64 An, .int .i64 Ao, .int .i64 Ap, u679004, u679005]) ?_ 5 _ rfl; refine bz_ ?_; exact Ab.out⟩, ⟨(sq60 Ae)⟩, ⟨(bs60 HB)⟩⟩
        ·rw [if_neg c46] at H
         exact absurd H (by simp)
       ·replace c42 := Bool.eq_false_iff.mpr c42; subst c42
        rw [if_neg (show ¬ (false = true) by decide)] at H
        replace H := bsi H; obtain ⟨⟨Ca, Gt⟩, A640, H⟩ := H
        (try dsimp only at H)
        have A64 := ak A640; clear A640
        by_cases c65 : At = true
        ·subst c65; rw [if_pos rfl] at H; have Gu := ak H; clear H; have Ot := As.out; have Ou := Aj.out; have Ov := Aq.out; have Ow := Bi.out; obtain ⟨Ka, Kb, Kc, Ke, Kf, Kg, Kh, Ki, Kj, Kk, Kl, Km⟩ := cf6_ Ab; obtain ⟨Ao70, co70, eo70⟩ := Kd.R_slice Aa.out; subst eo70; obtain ⟨Ao71, co71, eo71⟩ := Kd.S_slice Ad.out; subst eo71
         go_upto_if 113 with (first | ((with_reducible refine gate_callee (f := 15) rfl ?_); refine goesL_ (some 98) rfl rfl Try.func15 (by kernel_rfl) rfl #[.agg #[.int .i64 Ai, .int .i64 An, .int .i64 Ao, .int .i64 Ap, .slice Ao70 Al.length co70, .slice Ao71 Am.length co71]] rfl mp_q ?_; (with_reducible refine (spec_PacketText.calls kj37 Ai An Ao Ap _ _ Al _ _ Am Ca Gt _ ?side1 ?side2 ?side3 ?side4 A64.out).mono ?_); (case side1 => repeat (first | exact (Kd.R_reads' Aa.out).2.2 | (with_reducible refine Kd.C_alloc ?_ _) | (with_reducible refine Kd.C_drewN ?_ _) | (with_reducible refine Kd.C_drew ?_))); (case side2 => exact (Kd.R_reads' Aa.out).2.1); (case side3 => repeat (first | exact (Kd.S_reads' Ad.out).2.2 | (with_reducible refine Kd.C_alloc ?_ _) | (with_reducible refine Kd.C_drewN ?_ _) | (with_reducible refine Kd.C_drew ?_))); (case side4 => exact (Kd.S_reads' Ad.out).2.1); rintro e w72 ⟨rfl, hb⟩; refine ⟨_, rfl, ?_⟩; replace Aa := ak (Kd.R_below (kR_q Aa) hb); replace Ad := ak (Kd.S_below (kS_q Ad) hb); replace Ac := ak (blk_below (g := Af) (bk_q Ac) hb); replace Ab := ak (blk_below (g := Ak) (bk_q Ab) hb); replace HB := ak (below_step (bs60 HB) hb); replace Ae := ak (IsS60.below (sq60 Ae) hb); obtain ⟨By, hgz73⟩ := Ae.out; have Kn := cellS60_0 By; have Ko := cellS60_1 By; have Kp := cellS60_2 By; have Kq := blk_frozen By 0; have Kr := blk_frozen By 1; have Ks := blk_frozen By 2; clear By hgz73))
         have H := Gu.out; clear Gu
         simp only [Option.some.injEq, Prod.mk.injEq] at H
         obtain ⟨rfl, rfl, rfl, rfl, rfl, rfl, rfl⟩ := H; have Ox := Aj.out; have Oy := As.out; have Oz := Ar.out; have Pa := Bs.out; obtain ⟨Kt, Ku, Kv, Kw, Kx, Ky, Kz, La, Lb, Lc, Ld, Le⟩ := cf6_ Ac
         go_wp2
         refine bodyPost_ret (results_ct rfl _ _ Af 39 #[.int .i64 0, .int .i64 0, .int .i64 0, .int .i64 0, .slice none 0 0, .slice none 0 0] (0, 0) _ rfl (by refine bz_ ?_; refine blk_put (cs := spacket0) ?_ 5 _ rfl; refine bz_ ?_; refine blk_put (cs := spacket0) ?_ 4 _ rfl; refine bz_ ?_; refine blk_put (cs := spacket0) ?_ 3 _ rfl; refine bz_ ?_; refine blk_put (cs := spacket0) ?_ 2 _ rfl; refine bz_ ?_; refine blk_put (cs := spacket0) ?_ 1 _ rfl; refine bz_ ?_; refine blk_put (cs := spacket0) ?_ 0 _ rfl; refine bz_ ?_; exact Ac.out) Try.underlying39 rfl (by kernel_rfl)) rfl ?_
         exact ⟨_, _, er_q, by first | exact Kd.R_nil _ _ _ _ _ | exact Kd.N_nil _ _ _ _ _ | exact Kd.V_nil _ _ _ _ _ | exact Kd.Q_nil _ _ _ _ _ | exact Kd.S_nil _ _ _ _ _, by first | exact Kd.S_nil _ _ _ _ _ | exact Kd.N_nil _ _ _ _ _ | exact Kd.V_nil _ _ _ _ _ | exact Kd.Q_nil _ _ _ _ _ | exact Kd.R_nil _ _ _ _ _, (bs60 HB)⟩
        ·replace c65 := Bool.eq_false_iff.mpr c65; subst c65
         rw [if_neg (show ¬ (false = true) by decide)] at H
         by_cases c77 : Gt = true
         ·subst c77; rw [if_pos rfl] at H; have Gv := ak H; clear H; have Pb := As.out; have Pc := Aj.out; have Pd := Aq.out; have Pe := Bi.out; obtain ⟨Lf, Lg, Lh, Li, Lj, Lk, Ll, Lm, Ln, Lo, Lp, Lq⟩ := cf6_ Ab; obtain ⟨Ao82, co82, eo82⟩ := Kd.R_slice Aa.out; subst eo82; obtain ⟨Ao83, co83, eo83⟩ := Kd.S_slice Ad.out; subst eo83
          go_upto_if 113 with (first | ((with_reducible refine gate_callee (f := 15) rfl ?_); refine goesL_ (some 98) rfl rfl Try.func15 (by kernel_rfl) rfl #[.agg #[.int .i64 Ai, .int .i64 An, .int .i64 Ao, .int .i64 Ap, .slice Ao82 Al.length co82, .slice Ao83 Am.length co83]] rfl mp_q ?_; (with_reducible refine (spec_PacketText.calls kj37 Ai An Ao Ap _ _ Al _ _ Am Ca true _ ?side1 ?side2 ?side3 ?side4 A64.out).mono ?_); (case side1 => repeat (first | exact (Kd.R_reads' Aa.out).2.2 | (with_reducible refine Kd.C_alloc ?_ _) | (with_reducible refine Kd.C_drewN ?_ _) | (with_reducible refine Kd.C_drew ?_))); (case side2 => exact (Kd.R_reads' Aa.out).2.1); (case side3 => repeat (first | exact (Kd.S_reads' Ad.out).2.2 | (with_reducible refine Kd.C_alloc ?_ _) | (with_reducible refine Kd.C_drewN ?_ _) | (with_reducible refine Kd.C_drew ?_))); (case side4 => exact (Kd.S_reads' Ad.out).2.1); rintro e w84 ⟨rfl, hb⟩; refine ⟨_, rfl, ?_⟩; replace Aa := ak (Kd.R_below (kR_q Aa) hb); replace Ad := ak (Kd.S_below (kS_q Ad) hb); replace Ac := ak (blk_below (g := Af) (bk_q Ac) hb); replace Ab := ak (blk_below (g := Ak) (bk_q Ab) hb); replace HB := ak (below_step (bs60 HB) hb); replace Ae := ak (IsS60.below (sq60 Ae) hb); obtain ⟨Bz, hgz85⟩ := Ae.out; have Lr := cellS60_0 Bz; have Ls := cellS60_1 Bz; have Lt := cellS60_2 Bz; have Lu := blk_frozen Bz 0; have Lv := blk_frozen Bz 1; have Lw := blk_frozen Bz 2; clear Bz hgz85))
          have H := Gv.out; clear Gv
          by_cases c86 : Ca.toList = a0.toList
          ·rw [if_pos c86] at H
           have Eg : (Ca.toList == a0.toList) = true := bqi c86
           have Eh : (Ca.toList != a0.toList) = false := bnf c86
           clear c86
           (first | rw [Eg] | rw [Eh] | (simp only [i64_w, i32_w]; first | rw [Eg] | rw [Eh]) | skip)
           simp only [Option.some.injEq, Prod.mk.injEq] at H
           obtain ⟨rfl, rfl, rfl, rfl, rfl, rfl, rfl⟩ := H; have Pf := As.out; have Pg := Aj.out; have Ph := Aq.out; have Pi := Bi.out; obtain ⟨Lx, Ly, Lz, Ma, Mb, Mc, Md, Me, Mf, Mg, Mh, Mi⟩ := cf6_ Ab; have Pj := Ar.out; have Pk := Bs.out; obtain ⟨Mj, Mk, Ml, Mm, Mn, Mo, Mp, Mq, Mr, Ms, Mt, Mu⟩ := cf6_ Ac
           go_wp2
           refine bodyPost_ret (results_ct rfl _ _ Af 39 #[.int .i64 Ai, .int .i64 An, .int .i64 Ao, .int .i64 Ap, .slice Ao82 Al.length co82, .slice Ao83 Am.length co83] (0, 0) _ rfl (by refine bz_ ?_; refine blk_put (cs := #[.int .i64 Ai, .int .i64 An, .int .i64 Ao, .int .i64 Ap, .slice Ao82 Al.length co82, .slice none 0 0]) ?_ 5 _ rfl; refine bz_ ?_; refine blk_put (cs := #[.int .i64 Ai, .int .i64 An, .int .i64 Ao, .int .i64 Ap, .slice none 0 0, .slice none 0 0]) ?_ 4 _ rfl; refine bz_ ?_; refine blk_put (cs := #[.int .i64 Ai, .int .i64 An, .int .i64 Ao, .int .i64 0, .slice none 0 0, .slice none 0 0]) ?_ 3 _ rfl; refine bz_ ?_; refine blk_put (cs := #[.int .i64 Ai, .int .i64 An, .int .i64 0, .int .i64 0, .slice none 0 0, .slice none 0 0]) ?_ 2 _ rfl; refine bz_ ?_; refine blk_put (cs := #[.int .i64 Ai, .int .i64 0, .int .i64 0, .int .i64 0, .slice none 0 0, .slice none 0 0]) ?_ 1 _ rfl; refine bz_ ?_; refine blk_put (cs := spacket0) ?_ 0 _ rfl; refine bz_ ?_; exact Ac.out) Try.underlying39 rfl (by kernel_rfl)) rfl ?_
           exact ⟨_, _, er_q, by (with_reducible repeat (first | apply Kd.R_alloc | apply Kd.R_drewN | apply Kd.R_drew)); exact Kd.R_mono (Kd.R_far (p := ⟨Af, 5, none⟩) (Kd.R_far (p := ⟨Af, 4, none⟩) (Kd.R_far (p := ⟨Af, 3, none⟩) (Kd.R_far (p := ⟨Af, 2, none⟩) (Kd.R_far (p := ⟨Af, 1, none⟩) (Kd.R_far (p := ⟨Af, 0, none⟩) (Kd.R_types Aa.out Ac.out (by decide)) (fun _ hk => hk.2) (.int .i64 Ai)) (fun _ hk => hk.2) (.int .i64 An)) (fun _ hk => hk.2) (.int .i64 Ao)) (fun _ hk => hk.2) (.int .i64 Ap)) (fun _ hk => hk.2) (.slice Ao82 Al.length co82)) (fun _ hk => hk.2) (.slice Ao83 Am.length co83)) (fun _ hk => trivial), by (with_reducible repeat (first | apply Kd.S_alloc | apply Kd.S_drewN | apply Kd.S_drew)); exact Kd.S_mono (Kd.S_far (p := ⟨Af, 5, none⟩) (Kd.S_far (p := ⟨Af, 4, none⟩) (Kd.S_far (p := ⟨Af, 3, none⟩) (Kd.S_far (p := ⟨Af, 2, none⟩) (Kd.S_far (p := ⟨Af, 1, none⟩) (Kd.S_far (p := ⟨Af, 0, none⟩) (Kd.S_types Ad.out Ac.out (by decide)) (fun _ hk => hk.2) (.int .i64 Ai)) (fun _ hk => hk.2) (.int .i64 An)) (fun _ hk => hk.2) (.int .i64 Ao)) (fun _ hk => hk.2) (.int .i64 Ap)) (fun _ hk => hk.2) (.slice Ao82 Al.length co82)) (fun _ hk => hk.2) (.slice Ao83 Am.length co83)) (fun _ hk => trivial), (bs60 HB)⟩
          ·rw [if_neg c86] at H
           have Eg : (Ca.toList == a0.toList) = false := bqf c86
           have Eh : (Ca.toList != a0.toList) = true := bni c86
           (first | rw [Eg] | rw [Eh] | (simp only [i64_w, i32_w]; first | rw [Eg] | rw [Eh]) | skip)
           simp only [Option.some.injEq, Prod.mk.injEq] at H
           obtain ⟨rfl, rfl, rfl, rfl, rfl, rfl, rfl⟩ := H; have Pl := Aj.out; have Pm := As.out; have Pn := Ar.out; have Po := Bs.out; obtain ⟨Mv, Mw, Mx, My, Mz, Na, Nb, Nc, Nd, Ne, Nf, Ng⟩ := cf6_ Ac
           go_wp2
           refine bodyPost_ret (results_ct rfl _ _ Af 39 #[.int .i64 0, .int .i64 0, .int .i64 0, .int .i64 0, .slice none 0 0, .slice none 0 0] (0, 0) _ rfl (by refine bz_ ?_; refine blk_put (cs := spacket0) ?_ 5 _ rfl; refine bz_ ?_; refine blk_put (cs := spacket0) ?_ 4 _ rfl; refine bz_ ?_; refine blk_put (cs := spacket0) ?_ 3 _ rfl; refine bz_ ?_; refine blk_put (cs := spacket0) ?_ 2 _ rfl; refine bz_ ?_; refine blk_put (cs := spacket0) ?_ 1 _ rfl; refine bz_ ?_; refine blk_put (cs := spacket0) ?_ 0 _ rfl; refine bz_ ?_; exact Ac.out) Try.underlying39 rfl (by kernel_rfl)) rfl ?_
           exact ⟨_, _, er_q, by first | exact Kd.R_nil _ _ _ _ _ | exact Kd.N_nil _ _ _ _ _ | exact Kd.V_nil _ _ _ _ _ | exact Kd.Q_nil _ _ _ _ _ | exact Kd.S_nil _ _ _ _ _, by first | exact Kd.S_nil _ _ _ _ _ | exact Kd.N_nil _ _ _ _ _ | exact Kd.V_nil _ _ _ _ _ | exact Kd.Q_nil _ _ _ _ _ | exact Kd.R_nil _ _ _ _ _, (bs60 HB)⟩
         ·replace c77 := Bool.eq_false_iff.mpr c77; subst c77
          rw [if_neg (show ¬ (false = true) by decide)] at H
          have Gw := ak H; clear H; have Pp := As.out; have Pq := Aj.out; have Pr := Aq.out; have Ps := Bi.out; obtain ⟨Nh, Ni, Nj, Nk, Nl, Nm, Nn, No, Np, Nq, Nr, Ns⟩ := cf6_ Ab; obtain ⟨Ao99, co99, eo99⟩ := Kd.R_slice Aa.out; subst eo99; obtain ⟨Ao100, co100, eo100⟩ := Kd.S_slice Ad.out; subst eo100
          go_upto_if 113 with (first | ((with_reducible refine gate_callee (f := 15) rfl ?_); refine goesL_ (some 98) rfl rfl Try.func15 (by kernel_rfl) rfl #[.agg #[.int .i64 Ai, .int .i64 An, .int .i64 Ao, .int .i64 Ap, .slice Ao99 Al.length co99, .slice Ao100 Am.length co100]] rfl mp_q ?_; (with_reducible refine (spec_PacketText.calls kj37 Ai An Ao Ap _ _ Al _ _ Am Ca false _ ?side1 ?side2 ?side3 ?side4 A64.out).mono ?_); (case side1 => repeat (first | exact (Kd.R_reads' Aa.out).2.2 | (with_reducible refine Kd.C_alloc ?_ _) | (with_reducible refine Kd.C_drewN ?_ _) | (with_reducible refine Kd.C_drew ?_))); (case side2 => exact (Kd.R_reads' Aa.out).2.1); (case side3 => repeat (first | exact (Kd.S_reads' Ad.out).2.2 | (with_reducible refine Kd.C_alloc ?_ _) | (with_reducible refine Kd.C_drewN ?_ _) | (with_reducible refine Kd.C_drew ?_))); (case side4 => exact (Kd.S_reads' Ad.out).2.1); rintro e w101 ⟨rfl, hb⟩; refine ⟨_, rfl, ?_⟩; replace Aa := ak (Kd.R_below (kR_q Aa) hb); replace Ad := ak (Kd.S_below (kS_q Ad) hb); replace Ac := ak (blk_below (g := Af) (bk_q Ac) hb); replace Ab := ak (blk_below (g := Ak) (bk_q Ab) hb); replace HB := ak (below_step (bs60 HB) hb); replace Ae := ak (IsS60.below (sq60 Ae) hb); obtain ⟨Br, hgz102⟩ := Ae.out; have He := cellS60_0 Br; have Hf := cellS60_1 Br; have Hg := cellS60_2 Br; have Hh := blk_frozen Br 0; have Hi := blk_frozen Br 1; have Hj := blk_frozen Br 2; clear Br hgz102))
          have H := Gw.out; clear Gw
          simp only [Option.some.injEq, Prod.mk.injEq] at H
          obtain ⟨rfl, rfl, rfl, rfl, rfl, rfl, rfl⟩ := H; have Nt := Aj.out; have Nu := As.out; have Nv := Ar.out; have Nw := Bs.out; obtain ⟨Hk, Hl, Hm, Hn, Ho, Hp, Hq, Hr, Hs, Ht, Hu, Hv⟩ := cf6_ Ac
          go_wp2
          refine bodyPost_ret (results_ct rfl _ _ Af 39 #[.int .i64 0, .int .i64 0, .int .i64 0, .int .i64 0, .slice none 0 0, .slice none 0 0] (0, 0) _ rfl (by refine bz_ ?_; refine blk_put (cs := spacket0) ?_ 5 _ rfl; refine bz_ ?_; refine blk_put (cs := spacket0) ?_ 4 _ rfl; refine bz_ ?_; refine blk_put (cs := spacket0) ?_ 3 _ rfl; refine bz_ ?_; refine blk_put (cs := spacket0) ?_ 2 _ rfl; refine bz_ ?_; refine blk_put (cs := spacket0) ?_ 1 _ rfl; refine bz_ ?_; refine blk_put (cs := spacket0) ?_ 0 _ rfl; refine bz_ ?_; exact Ac.out) Try.underlying39 rfl (by kernel_rfl)) rfl ?_
          exact ⟨_, _, er_q, by first | exact Kd.R_nil _ _ _ _ _ | exact Kd.N_nil _ _ _ _ _ | exact Kd.V_nil _ _ _ _ _ | exact Kd.Q_nil _ _ _ _ _ | exact Kd.S_nil _ _ _ _ _, by first | exact Kd.S_nil _ _ _ _ _ | exact Kd.N_nil _ _ _ _ _ | exact Kd.V_nil _ _ _ _ _ | exact Kd.Q_nil _ _ _ _ _ | exact Kd.R_nil _ _ _ _ _, (bs60 HB)⟩

end Go.Proofs.Ytnecbkognpponaa.Q
