-- Ythfflieeifakdaa's texts for the statement FnValType, one behind the other (merge.py).
import Derived.Test.YthfflieeifakdaaQFnValType0
import Derived.Test.YthfflieeifakdaaQFnValType2
import Derived.Test.YthfflieeifakdaaQFnValType1
section
namespace Go.Proofs.Ythfflieeifakdaa.PA
open Go.RowKit Go.Proofs.YthfflieeifakdaaW.PrintWords Go.Proofs.YthfflieeifakdaaW.PrintLast Go.Proofs.YthfflieeifakdaaW.PrintMore
attribute [local go_sem] max2_int min2_int max_two min_two max_three min_three max_four min_four
set_option linter.unusedVariables false
set_option linter.unusedSimpArgs false
def spec_DrawValPut.j0 : Nat → List Int → Bool → List Int → Int → List (S50) → List (S50) → Option (Int × (List (S25)) × List Int × Int × (List (S25)))
 | 0, _, _, _, _, _, _ => none
 | k + 1, x7, x32, x673000, x673001, x680000, x689000 => if x32 = true then ((spec_l71Type.f k x673000 x673001 2).bind fun bt691 => ((spec_l71Bad.f k x673000 bt691.2 x680000).bind fun bt695 => ((spec_l71Bad.f k x673000 bt695.2.2 bt691.1).bind fun bt700 => (some (bt695.1, bt695.2.1, x7, bt700.1, bt700.2.1))))) else ((spec_l71Bad.f k x673000 x673001 x680000).bind fun bt705 => ((spec_l71Bad.f k x673000 bt705.2.2 x689000).bind fun bt710 => (some (bt705.1, bt705.2.1, x7, bt710.1, bt710.2.1))))
def spec_DrawValPut.f (k : Nat) (l0 : List Int) : Option (Int × (List (S25)) × List Int × Int × (List (S25))) := (spec_l6Open.f l0).bind fun bt670 => ((spec_l6Rd_pick.f k bt670.1 bt670.2 3).bind fun bt673 => ((spec_l71Type.f k bt670.1 bt673.2 (wrap64 (2 + bt673.1))).bind fun bt675 => ((spec_l71Any.f k bt670.1 bt675.2 bt675.1).bind fun bt680 => ((spec_TypeAt.f k bt675.1 bt680.1).bind fun bt684 => (if bt684.2 = true then ((spec_l6Rd_pick.f k bt670.1 bt680.2 8).bind fun bt689 => (spec_DrawValPut.j0 k bt680.1 (bt689.1 == 0) bt670.1 bt689.2 bt675.1 bt684.1)) else (spec_DrawValPut.j0 k bt680.1 true bt670.1 bt680.2 bt675.1 bt684.1))))))
theorem spec_DrawValPut.mono_l : ∀ k, (∀ y0 y1 y2 y3 y4 y5, LeO (spec_DrawValPut.j0 k y0 y1 y2 y3 y4 y5) (spec_DrawValPut.j0 (k + 1) y0 y1 y2 y3 y4 y5))
 | 0 => fun _ _ _ _ _ _ r h => by simp [spec_DrawValPut.j0] at h
 | k + 1 => by
  have ih0 := spec_DrawValPut.mono_l k
  ·intro y0 y1 y2 y3 y4 y5
   unfold spec_DrawValPut.j0
   repeat' first
   | (with_reducible exact ih0 _ _ _ _ _ _)
   | (with_reducible exact spec_TypeAt.mono _ _ _)
   | (with_reducible exact spec_l6Rd_pick.mono _ _ _ _)
   | (with_reducible exact spec_l71Any.mono _ _ _ _)
   | (with_reducible exact spec_l71Bad.mono _ _ _ _)
   | (with_reducible exact spec_l71Type.mono _ _ _ _)
   | (with_reducible exact LeO.refl _)
   | (with_reducible exact LeO.none _)
   | (with_reducible refine LeO.ite ?_ ?_)
   | (with_reducible refine LeO.bind ?_ (fun _ => ?_))
   | exact ih0 _ _ _ _ _ _
   | exact spec_TypeAt.mono _ _ _
   | exact spec_l6Rd_pick.mono _ _ _ _
   | exact spec_l71Any.mono _ _ _ _
   | exact spec_l71Bad.mono _ _ _ _
   | exact spec_l71Type.mono _ _ _ _
   | exact LeO.none _
   | refine LeO.ite ?_ ?_
   | refine LeO.bind ?_ (fun _ => ?_)
theorem spec_DrawValPut.mono : ∀ a0 k, LeO (spec_DrawValPut.f k a0) (spec_DrawValPut.f (k + 1) a0) := by
 intro a0 k
 have ih0 := spec_DrawValPut.mono_l k
 unfold spec_DrawValPut.f
 repeat' first
   | (with_reducible exact ih0 _ _ _ _ _ _)
   | (with_reducible exact spec_TypeAt.mono _ _ _)
   | (with_reducible exact spec_l6Rd_pick.mono _ _ _ _)
   | (with_reducible exact spec_l71Any.mono _ _ _ _)
   | (with_reducible exact spec_l71Bad.mono _ _ _ _)
   | (with_reducible exact spec_l71Type.mono _ _ _ _)
   | (with_reducible exact LeO.refl _)
   | (with_reducible exact LeO.none _)
   | (with_reducible refine LeO.ite ?_ ?_)
   | (with_reducible refine LeO.bind ?_ (fun _ => ?_))
   | exact ih0 _ _ _ _ _ _
   | exact spec_TypeAt.mono _ _ _
   | exact spec_l6Rd_pick.mono _ _ _ _
   | exact spec_l71Any.mono _ _ _ _
   | exact spec_l71Bad.mono _ _ _ _
   | exact spec_l71Type.mono _ _ _ _
   | exact LeO.none _
   | refine LeO.ite ?_ ?_
   | refine LeO.bind ?_ (fun _ => ?_)
def spec_DrawValPut.T7 : Bool × List (List Nat × List Nat) := (true, [([], []), ([], []), ([0, 1], [0, 1]), ([], []), ([], []), ([], []), ([4, 5, 2], [4, 5]), ([2, 6, 0, 1, 2], [2]), ([3, 7, 0, 1, 2, 3, 7], [3]), ([6, 8, 0, 1, 2, 3, 4, 5, 6, 7, 8], [6])])
def spec_DrawValPut.B7 : List Nat := [0, 0, 3, 0, 0, 0, 55, 119, 255, 511]
theorem spec_DrawValPut.tab7 : rtab .any (opsOf Try.f25 7) = spec_DrawValPut.T7 := by kernel_rfl
theorem spec_DrawValPut.bits7 : waitsOk spec_DrawValPut.T7.2 spec_DrawValPut.B7 = true := by kernel_rfl
set_option maxHeartbeats 8000000 in
set_option maxRecDepth 100000 in
theorem spec_DrawValPut.calls (k : Nat) (A0 : Option Addr) (c0 : Nat) (l0 : List Int) (r1 : Int) (r2 : List (S25)) (r3 : List Int) (r4 : Int) (r5 : List (S25)) (w : World) (hr0 : Kd.C (Kd.int .u8) w A0 l0.length l0) (hc0 : l0.length ≤ c0) (h : spec_DrawValPut.f k l0 = some (r1, r2, r3, r4, r5)) :
  Calls Try.prog 25 #[.slice A0 l0.length c0] w fun e w' => ∃ v1_ v2_ v4_ : Value, e = .returned (.tuple #[.agg #[.int .i64 r1, v1_], v2_, .agg #[.int .i64 r4, v4_]]) ∧ Kd.N k25 25 w' w.heap.size (fun k_ => (w.heap.size ≤ k_) ∧ some k_ ≠ (v2_ : Value).ownBlock ∧ some k_ ≠ (v4_ : Value).ownBlock) v1_ r2 ∧ Kd.R (Kd.int .i64) 3 w' w.heap.size (fun k_ => (w.heap.size ≤ k_)) v2_ r3 ∧ Kd.N k25 25 w' w.heap.size (fun k_ => (w.heap.size ≤ k_) ∧ some k_ ≠ (v1_ : Value).ownBlock ∧ some k_ ≠ (v2_ : Value).ownBlock) v4_ r5 ∧ Below w.heap.size w w' := by
 have hu25 := Try.underlying25
 have hu50 := Try.underlying50
 have HR0 := Aside0.mk hr0
 have HC0 := Aside0.mk hc0
 clear hr0 hc0
 have HB := Aside0.mk (Below.refl w.heap.size w)
 have H : ((spec_l6Open.f l0).bind fun bt670 => ((spec_l6Rd_pick.f k bt670.1 bt670.2 3).bind fun bt673 => ((spec_l71Type.f k bt670.1 bt673.2 (wrap64 (2 + bt673.1))).bind fun bt675 => ((spec_l71Any.f k bt670.1 bt675.2 bt675.1).bind fun bt680 => ((spec_TypeAt.f k bt675.1 bt680.1).bind fun bt684 => (if bt684.2 = true then ((spec_l6Rd_pick.f k bt670.1 bt680.2 8).bind fun bt689 => (spec_DrawValPut.j0 k bt680.1 (bt689.1 == 0) bt670.1 bt689.2 bt675.1 bt684.1)) else (spec_DrawValPut.j0 k bt680.1 true bt670.1 bt680.2 bt675.1 bt684.1))))))) = some (r1, r2, r3, r4, r5) := h
 clear h
 obtain ⟨⟨t670, t671⟩, A20, H⟩ := ob H
 have A2 := Aside0.mk A20
 clear A20
 obtain ⟨⟨t673, t674⟩, A30, H⟩ := ob H
 have A3 := Aside0.mk A30
 clear A30
 obtain ⟨⟨t675, t678⟩, A40, H⟩ := ob H
 have A4 := Aside0.mk A40
 clear A40
 obtain ⟨⟨t680, t683⟩, A50, H⟩ := ob H
 have A5 := Aside0.mk A50
 clear A50
 obtain ⟨⟨t684, t687⟩, A60, H⟩ := ob H
 have A6 := Aside0.mk A60
 clear A60
 have HC7 := Aside0.mk H
 clear H
 go_enter Try.func25, Try.ntmps25
 go_upto_region 5 with (first | ((with_reducible refine gate_dst (N := 2) rfl ?_); refine zbx 2 #[.int .i64 0, .slice none 0 0] 25 ?_; intro gb668 hg w8 hbox hb; have BK668 := Aside0.mk hbox; have GW668 := Aside0.mk ((y10 hg HB.out : w.heap.size ≤ gb668)); have GE668 := Aside0.mk ((y10 hg HB.out : w.heap.size ≤ gb668)); replace HB := Aside0.mk (below_step (y6 HB.out) hb); clear hb hbox hg) | ((with_reducible refine gate_dst (N := 4) rfl ?_); refine zbx 4 #[.int .i64 0, .slice none 0 0] 25 ?_; intro gb669 hg w9 hbox hb; have BK669 := Aside0.mk hbox; have GW669 := Aside0.mk ((y12 hg HB.out GE668.out : w.heap.size ≤ gb669)); have GE669 := Aside0.mk ((y12 hg HB.out GE668.out : w.heap.size ≤ gb669)); replace HB := Aside0.mk (below_step (y7 HB.out GE668.out) hb); have NB668_669 := zltn hg BK668; have NB669_668 := zgtn hg BK668; replace BK668 := zbb BK668 hb; clear hb hbox hg) | ((with_reducible refine gate_callee (f := 30) rfl ?_); refine goesL_ (some 11) rfl rfl Try.func30 (by kernel_rfl) rfl #[.slice A0 l0.length c0] rfl y9 ?_; (with_reducible refine (spec_l6Open.calls _ _ l0 t670 t671 w _ ?side1 ?side2 ?side3 A2.out).mono ?_); (case side1 => exact y3 HB.out GE668.out GE669.out); (case side2 => exact HR0.out); (case side3 => exact HC0.out); rintro e w10 ⟨g672, rfl, hi, hb, hb2⟩; refine ⟨_, rfl, ?_⟩; replace HB := Aside0.mk (hb); have HI672 := Aside0.mk (hi); have NB672_668 := Aside0.mk (IsS75.ne_blk hi (blk_below (g := gb668) (o := .cells #[.int .i64 0, .slice none 0 0] 25 (0, 0)) (y0 BK668.out) hb2) (by decide)); have NB668_672 := Aside0.mk (Ne.symm (IsS75.ne_blk hi (blk_below (g := gb668) (o := .cells #[.int .i64 0, .slice none 0 0] 25 (0, 0)) (y0 BK668.out) hb2) (by decide))); replace BK668 := Aside0.mk (blk_below (g := gb668) (o := .cells #[.int .i64 0, .slice none 0 0] 25 (0, 0)) (y0 BK668.out) hb2); have NB672_669 := Aside0.mk (IsS75.ne_blk hi (blk_below (g := gb669) (o := .cells #[.int .i64 0, .slice none 0 0] 25 (0, 0)) (y0 BK669.out) hb2) (by decide)); have NB669_672 := Aside0.mk (Ne.symm (IsS75.ne_blk hi (blk_below (g := gb669) (o := .cells #[.int .i64 0, .slice none 0 0] 25 (0, 0)) (y0 BK669.out) hb2) (by decide))); replace BK669 := Aside0.mk (blk_below (g := gb669) (o := .cells #[.int .i64 0, .slice none 0 0] 25 (0, 0)) (y0 BK669.out) hb2); (try clear hb); (try clear hb2); (try clear hk); (try clear hi)) | ((with_reducible refine gate_callee (f := 32) rfl ?_); refine goesL_ (some 14) rfl rfl Try.func32 (by kernel_rfl) rfl #[.pointer (some ⟨g672, 0, none⟩), .int .i64 3] rfl y9 ?_; (with_reducible refine (spec_l6Rd_pick.calls k g672 t670 t671 3 t673 t674 w _ ?side1 ?side2 A3.out).mono ?_); (case side1 => exact y24 HI672.out NB672_668.out NB672_669.out); (case side2 => exact y19 HB.out HI672.out GE668.out GE669.out); rintro e w11 ⟨rfl, hi, hb, hk⟩; refine ⟨_, rfl, ?_⟩; replace BK668 := Aside0.mk (KeepBut.blk hk (g' := gb668) (o := .cells #[.int .i64 0, .slice none 0 0] 25 (0, 0)) (y0 BK668.out) NB668_672.out (by simp)); replace BK669 := Aside0.mk (KeepBut.blk hk (g' := gb669) (o := .cells #[.int .i64 0, .slice none 0 0] 25 (0, 0)) (y0 BK669.out) NB669_672.out (by simp)); replace HB := Aside0.mk (hb); replace HI672 := Aside0.mk (hi); (try clear hb); (try clear hb2); (try clear hk); (try clear hi)) | ((with_reducible refine gate_callee (f := 31) rfl ?_); refine goesL_ (some 16) rfl rfl Try.func31 (by kernel_rfl) rfl #[.pointer (some ⟨g672, 0, none⟩), .int .i64 (wrap64 (2 + t673))] rfl y9 ?_; (with_reducible refine (spec_l71Type.calls k g672 t670 t674 (wrap64 (2 + t673)) t675 t678 w _ ?side1 ?side2 A4.out).mono ?_); (case side1 => exact y24 HI672.out NB672_668.out NB672_669.out); (case side2 => exact y19 HB.out HI672.out GE668.out GE669.out); rintro e w12 ⟨v676, rfl, ho0, hi, hb, hk⟩; refine ⟨_, rfl, ?_⟩; have HO677 := Aside0.mk (Kd.N_lower (Kd.N_mono (ok' := fun k_ => (w.heap.size ≤ k_) ∧ k_ ≠ gb668 ∧ k_ ≠ gb669 ∧ k_ ≠ g672) ho0 (fun k_ hk_ => ⟨(Nat.le_trans (below_size (y19 HB.out HI672.out GE668.out GE669.out)) hk_), (Kd.freshB (g := gb668) (o := .cells #[.int .i64 0, .slice none 0 0] 25 (0, 0)) (y0 BK668.out) k_ hk_), (Kd.freshB (g := gb669) (o := .cells #[.int .i64 0, .slice none 0 0] 25 (0, 0)) (y0 BK669.out) k_ hk_), (IsS75.fresh (y24 HI672.out NB672_668.out NB672_669.out) k_ hk_)⟩)) (below_size (y19 HB.out HI672.out GE668.out GE669.out))); replace BK668 := Aside0.mk (KeepBut.blk hk (g' := gb668) (o := .cells #[.int .i64 0, .slice none 0 0] 25 (0, 0)) (y0 BK668.out) NB668_672.out (by simp)); replace BK669 := Aside0.mk (KeepBut.blk hk (g' := gb669) (o := .cells #[.int .i64 0, .slice none 0 0] 25 (0, 0)) (y0 BK669.out) NB669_672.out (by simp)); replace HB := Aside0.mk (hb); replace HI672 := Aside0.mk (hi); (try clear hb); (try clear hb2); (try clear hk); (try clear hi); (try clear ho0)) | ((with_reducible refine gate_dst (N := 6) rfl ?_); refine zbx 6 #[.slice none 0 0] 50 ?_; intro gb679 hg w13 hbox hb; replace HO677 := Aside0.mk (Kd.N_below (Kd.N_elderB (y2 HO677.out) gb679 (Nat.le_of_eq hg.symm)) hb); have BK679 := Aside0.mk hbox; have GW679 := Aside0.mk ((y58 hg HB.out HI672.out GE668.out GE669.out : w.heap.size ≤ gb679)); have GE679 := Aside0.mk ((y58 hg HB.out HI672.out GE668.out GE669.out : w.heap.size ≤ gb679)); replace HB := Aside0.mk (below_step (y19 HB.out HI672.out GE668.out GE669.out) hb); have NB668_679 := zltn hg BK668; have NB679_668 := zgtn hg BK668; replace BK668 := zbb BK668 hb; have NB669_679 := zltn hg BK669; have NB679_669 := zgtn hg BK669; replace BK669 := zbb BK669 hb; have NB672_679 := Aside0.mk ((by rw [hg]; exact Nat.ne_of_lt (IsS75.lt (show IsS75 w _ g672 t670 t678 from by repeat (first | (with_reducible first | exact HI672.out | apply IsS75.alloc | apply IsS75.drewN | apply IsS75.drew | apply IsS75.set_1 | refine IsS75.far ?_ NB672_668.out _ | refine IsS75.far ?_ NB672_669.out _) | exact HI672.out))) : g672 ≠ gb679)); have NB679_672 := Aside0.mk ((by rw [hg]; exact Nat.ne_of_gt (IsS75.lt (show IsS75 w _ g672 t670 t678 from by repeat (first | (with_reducible first | exact HI672.out | apply IsS75.alloc | apply IsS75.drewN | apply IsS75.drew | apply IsS75.set_1 | refine IsS75.far ?_ NB672_668.out _ | refine IsS75.far ?_ NB672_669.out _) | exact HI672.out))) : gb679 ≠ g672)); replace HI672 := Aside0.mk (IsS75.below (y24 HI672.out NB672_668.out NB672_669.out) hb); clear hb hbox hg; obtain ⟨Ao14, co14, eo14⟩ := Kd.N_slice HO677.out; subst eo14; have hnb15 := NB679_668.out; have hnc15 := NB668_679.out; have hnb16 := NB679_669.out; have hnc16 := NB669_679.out; have hnb17 := NB679_672.out; have hnc17 := NB672_679.out; have hcz18_0 := zh BK679; have hfz18_0 := zfr BK679 0) | ((with_reducible refine gate_store (t := 50) (p := 6) rfl ?_); refine store_event (t := 50) (p := 6) (v := ?vo_w19) (w1 := (w13.setCell ⟨gb679, 0, none⟩ (.slice Ao14 t675.length co14))) ?hg ?ho ?hn ?hr ?_; (case ho => rfl); (case hg => rfl); (case hn => rfl); (case hr => first | (go_simp; done) | (go_simp; rfl)); intro w19 hw; have n0_ : Aside0 (Kd.N k50 50 w19 w.heap.size (fun k_ => (w.heap.size ≤ k_) ∧ k_ ≠ gb668 ∧ k_ ≠ gb669 ∧ k_ ≠ g672 ∧ k_ ≠ gb679) (.slice Ao14 t675.length co14) t675) := ⟨(by rw [hw]; exact (by (with_reducible repeat (first | apply Kd.N_alloc | apply Kd.N_drewN | apply Kd.N_drew)); exact Kd.N_mono (Kd.N_far (p := ⟨gb679, 0, none⟩) (Kd.N_mono HO677.out (fun k_ hk => (⟨hk, hk.2⟩ : _ ∧ k_ ≠ gb679))) (fun _ hk => hk.2) (.slice Ao14 t675.length co14)) (fun _ hk => ⟨hk.1.1.1, ⟨hk.1.1.2.1, ⟨hk.1.1.2.2.1, ⟨hk.1.1.2.2.2, hk.1.2⟩⟩⟩⟩)))⟩; have n1_ : Aside0 (w19.heap[gb668]? = some (.cells #[.int .i64 0, .slice none 0 0] 25 (0, 0))) := ⟨(by rw [hw]; exact (y13 NB668_679.out BK668.out))⟩; have n2_ : Aside0 (w19.heap[gb669]? = some (.cells #[.int .i64 0, .slice none 0 0] 25 (0, 0))) := ⟨(by rw [hw]; exact (y13 NB669_679.out BK669.out))⟩; have n3_ : Aside0 (w19.heap[gb679]? = some (.cells #[.slice Ao14 t675.length co14] 50 (0, 0))) := ⟨(by rw [hw]; exact (by (with_reducible repeat (first | refine blk_drewN ?_ _ | refine blk_drew ?_ | refine blk_alloc ?_ _)); apply blk_put (i := 0); (case h => exact y0 BK679.out); (case e => rfl)))⟩; have n4_ : Aside0 (IsS75 w w19 g672 t670 t678) := ⟨(by rw [hw]; exact (y25 HI672.out NB672_668.out NB672_669.out NB672_679.out))⟩; have n5_ : Aside0 (Below w.heap.size w w19) := ⟨(by rw [hw]; exact (y21 HB.out HI672.out GE668.out GE669.out GE679.out))⟩; clear hw; clear HO677; clear BK668; clear BK669; clear BK679; clear HI672; clear HB; have HO677 := n0_; have BK668 := n1_; have BK669 := n2_; have BK679 := n3_; have HI672 := n4_; have HB := n5_; clear n0_ n1_ n2_ n3_ n4_ n5_; have hcz20_0 := zh BK679; have hfz20_0 := zfr BK679 0) | ((with_reducible refine gate_callee (f := 34) rfl ?_); refine goesL_ (some 19) rfl rfl Try.func34 (by kernel_rfl) rfl #[.pointer (some ⟨g672, 0, none⟩), .agg #[.slice Ao14 t675.length co14]] rfl y9 ?_; (with_reducible refine (spec_l71Any.calls k g672 t670 t678 (fun k_ => ((w.heap.size ≤ k_) ∧ (k_ ≠ gb668 ∧ (k_ ≠ gb669 ∧ (k_ ≠ g672 ∧ k_ ≠ gb679))))) _ _ t675 t680 t683 w _ ?side1 ?side2 ?side3 A5.out).mono ?_); (case side1 => exact y25 HI672.out NB672_668.out NB672_669.out NB672_679.out); (case side2 => exact y21 HB.out HI672.out GE668.out GE669.out GE679.out); (case side3 => exact Kd.V_mono (Kd.N_V (HO677.out)) (fun k_ hk_ => ⟨hk_, hk_.2.2.2.1⟩)); rintro e w21 ⟨v681, rfl, ho0, hi, hb, hk⟩; refine ⟨_, rfl, ?_⟩; replace BK668 := Aside0.mk (KeepBut.blk hk (g' := gb668) (o := .cells #[.int .i64 0, .slice none 0 0] 25 (0, 0)) (y0 BK668.out) NB668_672.out (by simp)); replace BK669 := Aside0.mk (KeepBut.blk hk (g' := gb669) (o := .cells #[.int .i64 0, .slice none 0 0] 25 (0, 0)) (y0 BK669.out) NB669_672.out (by simp)); replace HO677 := Aside0.mk (Kd.N_mono (Kd.N_told (Kd.N_oldK (Kd.N_mono (ok := fun k_ => (((w.heap.size ≤ k_)) ∧ (k_ ≠ gb668 ∧ (k_ ≠ gb669 ∧ (k_ ≠ g672 ∧ k_ ≠ gb679))))) (y2 HO677.out) (fun k_ hk_ => (⟨hk_, hk_.2.2.2.1⟩ : _ ∧ k_ ≠ g672))) hk) (Kd.R_base ho0)) (fun _ h_ => h_.1)); replace BK679 := Aside0.mk (KeepBut.blk hk (g' := gb679) (o := .cells #[.slice Ao14 t675.length co14] 50 (0, 0)) (y0 BK679.out) NB679_672.out (by simp)); have HO682 := Aside0.mk (Kd.R_lower (Kd.R_newM (M := fun k_ => (w.heap.size ≤ k_)) (Kd.R_mono (ok' := fun k_ => True) ho0 (fun _ _ => trivial)) (below_size (y21 HB.out HI672.out GE668.out GE669.out GE679.out)) (fun k_ h_ => h_)) (below_size (y21 HB.out HI672.out GE668.out GE669.out GE679.out))); replace HB := Aside0.mk (hb); replace HI672 := Aside0.mk (hi); (try clear hb); (try clear hb2); (try clear hk); (try clear hi); (try clear ho0); have hcz22_0 := zh BK679; have hfz22_0 := zfr BK679 0; obtain ⟨Ao23, co23, eo23⟩ := Kd.R_slice HO682.out; subst eo23) | ((with_reducible refine gate_callee (f := 48) rfl ?_); refine goesL_ (some 23) rfl rfl Try.func48 (by kernel_rfl) rfl #[.agg #[.slice Ao14 t675.length co14], .slice Ao23 t680.length co23] rfl y9 ?_; (with_reducible refine (spec_TypeAt.calls k (fun k_ => (((w.heap.size ≤ k_) ∧ (k_ ≠ gb668 ∧ (k_ ≠ gb669 ∧ (k_ ≠ g672 ∧ k_ ≠ gb679)))) ∧ some k_ ≠ (.slice Ao23 t680.length co23 : Value).ownBlock)) _ _ t675 _ _ t680 t684 t687 _ ?side1 ?side2 ?side3 A6.out).mono ?_); (case side1 => exact Kd.N_V (HO677.out)); (case side2 => exact y34 HO682.out); (case side3 => exact (Kd.R_reads' HO682.out).2.1); rintro e w24 ⟨v685, rfl, ho0, hb⟩; refine ⟨_, rfl, ?_⟩; replace HO677 := Aside0.mk (Kd.N_elder' (y2 HO677.out) (Kd.R_base ho0) hb); have HO686 := Aside0.mk (Kd.N_lower (Kd.N_mono (ok' := fun k_ => (w.heap.size ≤ k_) ∧ some k_ ≠ (.slice Ao23 t680.length co23 : Value).ownBlock ∧ k_ ≠ gb668 ∧ k_ ≠ gb669 ∧ k_ ≠ gb679 ∧ k_ ≠ g672) (Kd.R_N (Kd.R_bound ho0)) (fun k_ hk_ => ⟨(Nat.le_trans (below_size (y21 HB.out HI672.out GE668.out GE669.out GE679.out)) hk_.2.1), (Kd.fresh' (Kd.R_lt (y8 HO682.out)) k_ hk_.2.1), (Kd.freshB (g := gb668) (o := .cells #[.int .i64 0, .slice none 0 0] 25 (0, 0)) (y0 BK668.out) k_ hk_.2.1), (Kd.freshB (g := gb669) (o := .cells #[.int .i64 0, .slice none 0 0] 25 (0, 0)) (y0 BK669.out) k_ hk_.2.1), (Kd.freshB (g := gb679) (o := .cells #[.slice Ao14 t675.length co14] 50 (0, 0)) (y0 BK679.out) k_ hk_.2.1), (IsS75.fresh (y25 HI672.out NB672_668.out NB672_669.out NB672_679.out) k_ hk_.2.1)⟩)) (below_size (y21 HB.out HI672.out GE668.out GE669.out GE679.out))); replace HO682 := Aside0.mk (Kd.R_below (y8 HO682.out) hb); replace BK668 := zbb BK668 hb; replace BK669 := zbb BK669 hb; replace BK679 := zbb BK679 hb; replace HB := Aside0.mk (below_step (y21 HB.out HI672.out GE668.out GE669.out GE679.out) hb); replace HI672 := Aside0.mk (IsS75.below (y25 HI672.out NB672_668.out NB672_669.out NB672_679.out) hb); (try clear hb); (try clear hb2); (try clear hk); (try clear hi); (try clear ho0)) | ((with_reducible refine gate_dst (N := 8) rfl ?_); refine zbx 8 #[.slice none 0 0] 50 ?_; intro gb688 hg w25 hbox hb; replace HO677 := Aside0.mk (Kd.N_below (Kd.N_elderB (y2 HO677.out) gb688 (Nat.le_of_eq hg.symm)) hb); replace HO682 := Aside0.mk (Kd.R_below (y8 HO682.out) hb); replace HO686 := Aside0.mk (Kd.N_below (Kd.N_elderB (y2 HO686.out) gb688 (Nat.le_of_eq hg.symm)) hb); have BK688 := Aside0.mk hbox; have GW688 := Aside0.mk ((y79 hg HB.out HI672.out GE668.out GE669.out GE679.out : w.heap.size ≤ gb688)); have GE688 := Aside0.mk ((y79 hg HB.out HI672.out GE668.out GE669.out GE679.out : w.heap.size ≤ gb688)); replace HB := Aside0.mk (below_step (y21 HB.out HI672.out GE668.out GE669.out GE679.out) hb); have NB668_688 := zltn hg BK668; have NB688_668 := zgtn hg BK668; replace BK668 := zbb BK668 hb; have NB669_688 := zltn hg BK669; have NB688_669 := zgtn hg BK669; replace BK669 := zbb BK669 hb; have NB679_688 := zltn hg BK679; have NB688_679 := zgtn hg BK679; replace BK679 := zbb BK679 hb; have NB672_688 := Aside0.mk ((by rw [hg]; exact Nat.ne_of_lt (IsS75.lt (show IsS75 w _ g672 t670 t683 from by repeat (first | (with_reducible first | exact HI672.out | apply IsS75.alloc | apply IsS75.drewN | apply IsS75.drew | apply IsS75.set_1 | refine IsS75.far ?_ NB672_668.out _ | refine IsS75.far ?_ NB672_669.out _ | refine IsS75.far ?_ NB672_679.out _) | exact HI672.out))) : g672 ≠ gb688)); have NB688_672 := Aside0.mk ((by rw [hg]; exact Nat.ne_of_gt (IsS75.lt (show IsS75 w _ g672 t670 t683 from by repeat (first | (with_reducible first | exact HI672.out | apply IsS75.alloc | apply IsS75.drewN | apply IsS75.drew | apply IsS75.set_1 | refine IsS75.far ?_ NB672_668.out _ | refine IsS75.far ?_ NB672_669.out _ | refine IsS75.far ?_ NB672_679.out _) | exact HI672.out))) : gb688 ≠ g672)); replace HI672 := Aside0.mk (IsS75.below (y25 HI672.out NB672_668.out NB672_669.out NB672_679.out) hb); clear hb hbox hg; obtain ⟨Ao26, co26, eo26⟩ := Kd.N_slice HO686.out; subst eo26; have hnb27 := NB688_668.out; have hnc27 := NB668_688.out; have hnb28 := NB688_669.out; have hnc28 := NB669_688.out; have hnb29 := NB688_679.out; have hnc29 := NB679_688.out; have hnb30 := NB688_672.out; have hnc30 := NB672_688.out; have hcz31_0 := zh BK688; have hfz31_0 := zfr BK688 0))
 (try simp only [Act.put, List.setIfInBounds_toArray, List.set_cons_zero, List.set_cons_succ])
 go_cut [32] (fun v32 wc => ∃ (kq : Nat) (x32_6 : Bool) (x673001_6 : Int), v32 = .bool x32_6 ∧ Aside0 (spec_DrawValPut.j0 kq t680 x32_6 t670 x673001_6 t675 t684 = some (r1, r2, r3, r4, r5)) ∧ Aside0 (kq ≤ k) ∧ Aside0 (Kd.R (Kd.int .i64) 3 wc w.heap.size (fun k_ => (w.heap.size ≤ k_)) (.slice Ao23 t680.length co23) t680) ∧ Aside0 (Kd.N k50 50 wc w.heap.size (fun k_ => (w.heap.size ≤ k_) ∧ some k_ ≠ ((.slice Ao23 t680.length co23) : Value).ownBlock ∧ some k_ ≠ ((.slice Ao26 t684.length co26) : Value).ownBlock ∧ k_ ≠ gb668 ∧ k_ ≠ gb669 ∧ k_ ≠ gb679 ∧ k_ ≠ gb688 ∧ k_ ≠ g672) (.slice Ao14 t675.length co14) t675) ∧ Aside0 (Kd.N k50 50 wc w.heap.size (fun k_ => (w.heap.size ≤ k_) ∧ some k_ ≠ ((.slice Ao23 t680.length co23) : Value).ownBlock ∧ k_ ≠ gb668 ∧ k_ ≠ gb669 ∧ k_ ≠ gb679 ∧ k_ ≠ gb688 ∧ k_ ≠ g672) (.slice Ao26 t684.length co26) t684) ∧ Aside0 (wc.heap[gb668]? = some (.cells #[.int .i64 0, (.slice none 0 0)] 25 (0, 0))) ∧ Aside0 (wc.heap[gb669]? = some (.cells #[.int .i64 0, (.slice none 0 0)] 25 (0, 0))) ∧ Aside0 (wc.heap[gb679]? = some (.cells #[(.slice Ao14 t675.length co14)] 50 (0, 0))) ∧ Aside0 (wc.heap[gb688]? = some (.cells #[(.slice Ao26 t684.length co26)] 50 (0, 0))) ∧ Aside0 (IsS75 w wc g672 t670 x673001_6) ∧ Aside0 (Below w.heap.size w wc))
 case first =>
  have H := HC7.out
  clear HC7
  by_cases c32 : t687 = true
  ·subst c32
   rw [if_pos rfl] at H
   obtain ⟨⟨t689, t690⟩, A330, H⟩ := ob H
   have A33 := Aside0.mk A330
   clear A330
   have H' := Aside0.mk H
   clear H
   go_wp2_with (first | (go_at_call 32; (with_reducible refine (spec_l6Rd_pick.calls k g672 t670 t683 8 t689 t690 w _ ?side1 ?side2 A33.out).mono ?_); (case side1 => exact y37 HI672.out NB672_668.out NB672_669.out NB672_679.out NB672_688.out); (case side2 => exact y26 HB.out HI672.out GE668.out GE669.out GE679.out GE688.out); rintro e w34 ⟨rfl, hi, hb, hk⟩; replace BK668 := Aside0.mk (KeepBut.blk hk (g' := gb668) (o := .cells #[.int .i64 0, .slice none 0 0] 25 (0, 0)) (y13 NB668_688.out BK668.out) NB668_672.out (by simp)); replace BK669 := Aside0.mk (KeepBut.blk hk (g' := gb669) (o := .cells #[.int .i64 0, .slice none 0 0] 25 (0, 0)) (y13 NB669_688.out BK669.out) NB669_672.out (by simp)); replace HO677 := Aside0.mk (Kd.N_mono (Kd.N_keep (Kd.N_mono (ok := fun k_ => ((((((w.heap.size ≤ k_)) ∧ (k_ ≠ gb668 ∧ (k_ ≠ gb669 ∧ (k_ ≠ g672 ∧ k_ ≠ gb679)))) ∧ some k_ ≠ (.slice Ao23 t680.length co23 : Value).ownBlock) ∧ some k_ ≠ (.slice Ao26 t684.length co26 : Value).ownBlock) ∧ k_ ≠ gb688)) (by (with_reducible repeat (first | apply Kd.N_alloc | apply Kd.N_drewN | apply Kd.N_drew)); exact (Kd.N_mono (Kd.N_far (p := ⟨gb688, 0, none⟩) (Kd.N_mono HO677.out (fun k_ hk => (⟨hk, hk.2⟩ : _ ∧ k_ ≠ gb688))) (fun _ hk => hk.2) (.slice Ao26 t684.length co26)) (fun _ h_ => h_.1))) (fun k_ hk_ => (⟨hk_, hk_.1.1.1.2.2.2.1⟩ : _ ∧ k_ ≠ g672))) hk (fun _ h => h.2)) (fun _ h => h.1)); replace BK679 := Aside0.mk (KeepBut.blk hk (g' := gb679) (o := .cells #[.slice Ao14 t675.length co14] 50 (0, 0)) (y13 NB679_688.out BK679.out) NB679_672.out (by simp)); replace HO682 := Aside0.mk (Kd.R_mono (Kd.R_keep (IsS75.apart (show IsS75 w _ g672 t670 t683 from by repeat (first | (with_reducible first | exact HI672.out | apply IsS75.alloc | apply IsS75.drewN | apply IsS75.drew | apply IsS75.set_1 | refine IsS75.far ?_ NB672_668.out _ | refine IsS75.far ?_ NB672_669.out _ | refine IsS75.far ?_ NB672_679.out _ | refine IsS75.far ?_ NB672_688.out _) | exact HI672.out)) (by (with_reducible repeat (first | apply Kd.R_alloc | apply Kd.R_drewN | apply Kd.R_drew)); exact (Kd.R_mono (Kd.R_far (p := ⟨gb688, 0, none⟩) (Kd.R_types HO682.out BK688.out (by decide)) (fun _ hk => hk.2) (.slice Ao26 t684.length co26)) (fun _ h_ => h_.1))) (by decide)) hk (fun _ h => h.2)) (fun _ h => h.1)); replace HO686 := Aside0.mk (Kd.N_mono (Kd.N_keep (Kd.N_mono (ok := fun k_ => ((((w.heap.size ≤ k_)) ∧ (some k_ ≠ (.slice Ao23 t680.length co23 : Value).ownBlock ∧ (k_ ≠ gb668 ∧ (k_ ≠ gb669 ∧ (k_ ≠ gb679 ∧ k_ ≠ g672))))) ∧ k_ ≠ gb688)) (by (with_reducible repeat (first | apply Kd.N_alloc | apply Kd.N_drewN | apply Kd.N_drew)); exact (Kd.N_mono (Kd.N_far (p := ⟨gb688, 0, none⟩) (Kd.N_mono HO686.out (fun k_ hk => (⟨hk, hk.2⟩ : _ ∧ k_ ≠ gb688))) (fun _ hk => hk.2) (.slice Ao26 t684.length co26)) (fun _ h_ => h_.1))) (fun k_ hk_ => (⟨hk_, hk_.1.2.2.2.2.2⟩ : _ ∧ k_ ≠ g672))) hk (fun _ h => h.2)) (fun _ h => h.1)); replace BK688 := Aside0.mk (KeepBut.blk hk (g' := gb688) (o := .cells #[.slice Ao26 t684.length co26] 50 (0, 0)) (by (with_reducible repeat (first | refine blk_drewN ?_ _ | refine blk_drew ?_ | refine blk_alloc ?_ _)); apply blk_put (i := 0); (case h => exact y0 BK688.out); (case e => rfl)) NB688_672.out (by simp)); replace HB := Aside0.mk (hb); replace HI672 := Aside0.mk (hi); (try clear hb); (try clear hb2); (try clear hk); (try clear hi)))
   go_meet
   case rel => exact ⟨_, ((t689 == 0)), (t690), y29, H', ⟨y50⟩, ⟨(y83 HO682.out)⟩, ⟨(by (with_reducible repeat (first | apply Kd.N_alloc | apply Kd.N_drewN | apply Kd.N_drew)); exact Kd.N_mono HO677.out (fun _ hk => ⟨hk.1.1.1.1, ⟨hk.1.1.2, ⟨hk.1.2, ⟨hk.1.1.1.2.1, ⟨hk.1.1.1.2.2.1, ⟨hk.1.1.1.2.2.2.2, ⟨hk.2, hk.1.1.1.2.2.2.1⟩⟩⟩⟩⟩⟩⟩))⟩, ⟨(by (with_reducible repeat (first | apply Kd.N_alloc | apply Kd.N_drewN | apply Kd.N_drew)); exact Kd.N_mono HO686.out (fun _ hk => ⟨hk.1.1, ⟨hk.1.2.1, ⟨hk.1.2.2.1, ⟨hk.1.2.2.2.1, ⟨hk.1.2.2.2.2.1, ⟨hk.2, hk.1.2.2.2.2.2⟩⟩⟩⟩⟩⟩))⟩, ⟨(y0 BK668.out)⟩, ⟨(y0 BK669.out)⟩, ⟨(y0 BK679.out)⟩, ⟨(y0 BK688.out)⟩, ⟨(y37 HI672.out NB672_668.out NB672_669.out NB672_679.out NB672_688.out)⟩, ⟨(y26 HB.out HI672.out GE668.out GE669.out GE679.out GE688.out)⟩⟩
  ·replace c32 := Bool.eq_false_iff.mpr c32
   subst c32
   rw [if_neg (show ¬ (false = true) by decide)] at H
   have H' := Aside0.mk H
   clear H
   go_wp2
   go_meet
   case rel => exact ⟨_, (true), (t683), y29, H', ⟨y50⟩, ⟨(by (with_reducible repeat (first | apply Kd.R_alloc | apply Kd.R_drewN | apply Kd.R_drew)); exact Kd.R_mono (Kd.R_far (p := ⟨gb688, 0, none⟩) (Kd.R_types HO682.out BK688.out (by decide)) (fun _ hk => hk.2) (.slice Ao26 t684.length co26)) (fun _ hk => hk.1.1))⟩, ⟨(by (with_reducible repeat (first | apply Kd.N_alloc | apply Kd.N_drewN | apply Kd.N_drew)); exact Kd.N_mono (Kd.N_far (p := ⟨gb688, 0, none⟩) (Kd.N_mono HO677.out (fun k_ hk => (⟨hk, hk.2⟩ : _ ∧ k_ ≠ gb688))) (fun _ hk => hk.2) (.slice Ao26 t684.length co26)) (fun _ hk => ⟨hk.1.1.1.1.1, ⟨hk.1.1.1.2, ⟨hk.1.1.2, ⟨hk.1.1.1.1.2.1, ⟨hk.1.1.1.1.2.2.1, ⟨hk.1.1.1.1.2.2.2.2, ⟨hk.1.2, hk.1.1.1.1.2.2.2.1⟩⟩⟩⟩⟩⟩⟩))⟩, ⟨(by (with_reducible repeat (first | apply Kd.N_alloc | apply Kd.N_drewN | apply Kd.N_drew)); exact Kd.N_mono (Kd.N_far (p := ⟨gb688, 0, none⟩) (Kd.N_mono HO686.out (fun k_ hk => (⟨hk, hk.2⟩ : _ ∧ k_ ≠ gb688))) (fun _ hk => hk.2) (.slice Ao26 t684.length co26)) (fun _ hk => ⟨hk.1.1.1, ⟨hk.1.1.2.1, ⟨hk.1.1.2.2.1, ⟨hk.1.1.2.2.2.1, ⟨hk.1.1.2.2.2.2.1, ⟨hk.1.2, hk.1.1.2.2.2.2.2⟩⟩⟩⟩⟩⟩))⟩, ⟨(y13 NB668_688.out BK668.out)⟩, ⟨(y13 NB669_688.out BK669.out)⟩, ⟨(y13 NB679_688.out BK679.out)⟩, ⟨(by (with_reducible repeat (first | refine blk_drewN ?_ _ | refine blk_drew ?_ | refine blk_alloc ?_ _)); refine blk_put (cs := #[.slice none 0 0]) ?_ 0 _ rfl; (with_reducible repeat (first | refine blk_drewN ?_ _ | refine blk_drew ?_ | refine blk_alloc ?_ _)); exact BK688.out)⟩, ⟨(y37 HI672.out NB672_668.out NB672_669.out NB672_679.out NB672_688.out)⟩, ⟨(y26 HB.out HI672.out GE668.out GE669.out GE679.out GE688.out)⟩⟩
 case rest =>
  clear HC7
  try clear c1
  try clear c2
  try clear p2
  try clear c3
  try clear c4
  try clear p6
  try clear c15
  try clear c16
  try clear c17
  try clear c25
  try clear c27
  try clear c28
  try clear c29
  try clear c30
  try clear c31
  try clear c32
  try clear c34
  try clear hcz18_0
  try clear hcz20_0
  try clear hcz22_0
  try clear hcz31_0
  try clear hfz18_0
  try clear hfz20_0
  try clear hfz22_0
  try clear hfz31_0
  obtain ⟨kq, x32_6, x673001_6, rfl, HA, HJ6, HO_7, HO_680000, HO_689000, BK668, BK669, BK679, BK688, HI672, HB⟩ := hcut
  cases kq with
  | zero => exact absurd HA.out (by simp [spec_DrawValPut.j0])
  | succ kj6 =>
   have H := HA.out
   clear HA
   simp only [spec_DrawValPut.j0] at H
   by_cases c35 : x32_6 = true
   ·subst c35
    rw [if_pos rfl] at H
    obtain ⟨⟨t691, t694⟩, A360, H⟩ := ob H
    have A36 := Aside0.mk A360
    clear A360
    obtain ⟨⟨t695, t696, t699⟩, A370, H⟩ := ob H
    have A37 := Aside0.mk A370
    clear A370
    obtain ⟨⟨t700, t701, t704⟩, A380, H⟩ := ob H
    have A38 := Aside0.mk A380
    clear A380
    simp only [Option.some.injEq, Prod.mk.injEq] at H
    obtain ⟨rfl, rfl, rfl, rfl, rfl⟩ := H
    try go_wp2_with (first | ((with_reducible refine gate_callee (f := 31) rfl ?_); refine goesL_ (some 34) rfl rfl Try.func31 (by kernel_rfl) rfl #[.pointer (some ⟨g672, 0, none⟩), .int .i64 2] rfl y9 ?_; (with_reducible refine (spec_l71Type.calls kj6 g672 t670 x673001_6 2 t691 t694 w _ ?side1 ?side2 A36.out).mono ?_); (case side1 => exact y37 HI672.out NB672_668.out NB672_669.out NB672_679.out NB672_688.out); (case side2 => exact y26 HB.out HI672.out GE668.out GE669.out GE679.out GE688.out); rintro e w39 ⟨v692, rfl, ho0, hi, hb, hk⟩; refine ⟨_, rfl, ?_⟩; have HO693 := Aside0.mk (Kd.N_lower (Kd.N_mono (ok' := fun k_ => (w.heap.size ≤ k_) ∧ some k_ ≠ (.slice Ao23 t680.length co23 : Value).ownBlock ∧ some k_ ≠ (.slice Ao14 t675.length co14 : Value).ownBlock ∧ some k_ ≠ (.slice Ao26 t684.length co26 : Value).ownBlock ∧ k_ ≠ gb668 ∧ k_ ≠ gb669 ∧ k_ ≠ gb679 ∧ k_ ≠ gb688 ∧ k_ ≠ g672) ho0 (fun k_ hk_ => ⟨(Nat.le_trans (below_size (y26 HB.out HI672.out GE668.out GE669.out GE679.out GE688.out)) hk_), (Kd.fresh' (Kd.R_lt (y8 HO_7.out)) k_ hk_), (Kd.fresh' (Kd.N_lt (y2 HO_680000.out)) k_ hk_), (Kd.fresh' (Kd.N_lt (y2 HO_689000.out)) k_ hk_), (Kd.freshB (g := gb668) (o := .cells #[.int .i64 0, .slice none 0 0] 25 (0, 0)) (y0 BK668.out) k_ hk_), (Kd.freshB (g := gb669) (o := .cells #[.int .i64 0, .slice none 0 0] 25 (0, 0)) (y0 BK669.out) k_ hk_), (Kd.freshB (g := gb679) (o := .cells #[.slice Ao14 t675.length co14] 50 (0, 0)) (y0 BK679.out) k_ hk_), (Kd.freshB (g := gb688) (o := .cells #[.slice Ao26 t684.length co26] 50 (0, 0)) (y0 BK688.out) k_ hk_), (IsS75.fresh (y37 HI672.out NB672_668.out NB672_669.out NB672_679.out NB672_688.out) k_ hk_)⟩)) (below_size (y26 HB.out HI672.out GE668.out GE669.out GE679.out GE688.out))); replace HO_7 := Aside0.mk (Kd.R_mono (Kd.R_keep (IsS75.apart (show IsS75 w _ g672 t670 x673001_6 from by repeat (first | (with_reducible first | exact HI672.out | apply IsS75.alloc | apply IsS75.drewN | apply IsS75.drew | apply IsS75.set_1 | refine IsS75.far ?_ NB672_668.out _ | refine IsS75.far ?_ NB672_669.out _ | refine IsS75.far ?_ NB672_679.out _ | refine IsS75.far ?_ NB672_688.out _) | exact HI672.out)) (y8 HO_7.out) (by decide)) hk (fun _ h => h.2)) (fun _ h => h.1)); replace HO_680000 := Aside0.mk (Kd.N_mono (Kd.N_told (Kd.N_oldK (Kd.N_mono (ok := fun k_ => (((w.heap.size ≤ k_)) ∧ (some k_ ≠ (.slice Ao23 t680.length co23 : Value).ownBlock ∧ (some k_ ≠ (.slice Ao26 t684.length co26 : Value).ownBlock ∧ (k_ ≠ gb668 ∧ (k_ ≠ gb669 ∧ (k_ ≠ gb679 ∧ (k_ ≠ gb688 ∧ k_ ≠ g672)))))))) (y2 HO_680000.out) (fun k_ hk_ => (⟨hk_, hk_.2.2.2.2.2.2.2⟩ : _ ∧ k_ ≠ g672))) hk) (Kd.N_base ho0)) (fun _ h_ => h_.1)); replace HO_689000 := Aside0.mk (Kd.N_mono (Kd.N_told (Kd.N_oldK (Kd.N_mono (ok := fun k_ => (((w.heap.size ≤ k_)) ∧ (some k_ ≠ (.slice Ao23 t680.length co23 : Value).ownBlock ∧ (k_ ≠ gb668 ∧ (k_ ≠ gb669 ∧ (k_ ≠ gb679 ∧ (k_ ≠ gb688 ∧ k_ ≠ g672))))))) (y2 HO_689000.out) (fun k_ hk_ => (⟨hk_, hk_.2.2.2.2.2.2⟩ : _ ∧ k_ ≠ g672))) hk) (Kd.N_base ho0)) (fun _ h_ => h_.1)); replace BK668 := Aside0.mk (KeepBut.blk hk (g' := gb668) (o := .cells #[.int .i64 0, .slice none 0 0] 25 (0, 0)) (y0 BK668.out) NB668_672.out (by simp)); replace BK669 := Aside0.mk (KeepBut.blk hk (g' := gb669) (o := .cells #[.int .i64 0, .slice none 0 0] 25 (0, 0)) (y0 BK669.out) NB669_672.out (by simp)); replace BK679 := Aside0.mk (KeepBut.blk hk (g' := gb679) (o := .cells #[.slice Ao14 t675.length co14] 50 (0, 0)) (y0 BK679.out) NB679_672.out (by simp)); replace BK688 := Aside0.mk (KeepBut.blk hk (g' := gb688) (o := .cells #[.slice Ao26 t684.length co26] 50 (0, 0)) (y0 BK688.out) NB688_672.out (by simp)); replace HB := Aside0.mk (hb); replace HI672 := Aside0.mk (hi); (try clear hb); (try clear hb2); (try clear hk); (try clear hi); (try clear ho0); obtain ⟨Ao40, co40, eo40⟩ := Kd.N_slice HO693.out; subst eo40; have hnb41 := NB688_668.out; have hnc41 := NB668_688.out; have hnb42 := NB688_669.out; have hnc42 := NB669_688.out; have hnb43 := NB688_679.out; have hnc43 := NB679_688.out; have hnb44 := NB688_672.out; have hnc44 := NB672_688.out; have hcz45_0 := zh BK688; have hfz45_0 := zfr BK688 0))
    have n0_ : Aside0 (Kd.R (Kd.int .i64) 3 (w39.setCell ⟨gb688, 0, none⟩ (.slice Ao40 t691.length co40)) w.heap.size (fun k_ => (w.heap.size ≤ k_)) (.slice Ao23 t680.length co23) t680) := ⟨(by (with_reducible repeat (first | apply Kd.R_alloc | apply Kd.R_drewN | apply Kd.R_drew)); exact Kd.R_mono (Kd.R_far (p := ⟨gb688, 0, none⟩) (Kd.R_types HO_7.out BK688.out (by decide)) (fun _ hk => hk.2) (.slice Ao40 t691.length co40)) (fun _ hk => hk.1))⟩
    have n1_ : Aside0 (Kd.N k50 50 (w39.setCell ⟨gb688, 0, none⟩ (.slice Ao40 t691.length co40)) w.heap.size (fun k_ => (w.heap.size ≤ k_) ∧ some k_ ≠ (.slice Ao23 t680.length co23 : Value).ownBlock ∧ some k_ ≠ (.slice Ao26 t684.length co26 : Value).ownBlock ∧ some k_ ≠ (.slice Ao40 t691.length co40 : Value).ownBlock ∧ k_ ≠ gb668 ∧ k_ ≠ gb669 ∧ k_ ≠ gb679 ∧ k_ ≠ gb688 ∧ k_ ≠ g672) (.slice Ao14 t675.length co14) t675) := ⟨(by (with_reducible repeat (first | apply Kd.N_alloc | apply Kd.N_drewN | apply Kd.N_drew)); exact Kd.N_mono (Kd.N_far (p := ⟨gb688, 0, none⟩) (Kd.N_mono HO_680000.out (fun k_ hk => (⟨hk, hk.1.2.2.2.2.2.2.1⟩ : _ ∧ k_ ≠ gb688))) (fun _ hk => hk.2) (.slice Ao40 t691.length co40)) (fun _ hk => ⟨hk.1.1.1, ⟨hk.1.1.2.1, ⟨hk.1.1.2.2.1, ⟨hk.1.2, ⟨hk.1.1.2.2.2.1, ⟨hk.1.1.2.2.2.2.1, ⟨hk.1.1.2.2.2.2.2.1, ⟨hk.1.1.2.2.2.2.2.2.1, hk.1.1.2.2.2.2.2.2.2⟩⟩⟩⟩⟩⟩⟩⟩))⟩
    have n2_ : Aside0 (Kd.N k50 50 (w39.setCell ⟨gb688, 0, none⟩ (.slice Ao40 t691.length co40)) w.heap.size (fun k_ => (w.heap.size ≤ k_) ∧ some k_ ≠ (.slice Ao23 t680.length co23 : Value).ownBlock ∧ some k_ ≠ (.slice Ao40 t691.length co40 : Value).ownBlock ∧ k_ ≠ gb668 ∧ k_ ≠ gb669 ∧ k_ ≠ gb679 ∧ k_ ≠ gb688 ∧ k_ ≠ g672) (.slice Ao26 t684.length co26) t684) := ⟨(by (with_reducible repeat (first | apply Kd.N_alloc | apply Kd.N_drewN | apply Kd.N_drew)); exact Kd.N_mono (Kd.N_far (p := ⟨gb688, 0, none⟩) (Kd.N_mono HO_689000.out (fun k_ hk => (⟨hk, hk.1.2.2.2.2.2.1⟩ : _ ∧ k_ ≠ gb688))) (fun _ hk => hk.2) (.slice Ao40 t691.length co40)) (fun _ hk => ⟨hk.1.1.1, ⟨hk.1.1.2.1, ⟨hk.1.2, ⟨hk.1.1.2.2.1, ⟨hk.1.1.2.2.2.1, ⟨hk.1.1.2.2.2.2.1, ⟨hk.1.1.2.2.2.2.2.1, hk.1.1.2.2.2.2.2.2⟩⟩⟩⟩⟩⟩⟩))⟩
    have n3_ : Aside0 (Kd.N k50 50 (w39.setCell ⟨gb688, 0, none⟩ (.slice Ao40 t691.length co40)) w.heap.size (fun k_ => (w.heap.size ≤ k_) ∧ some k_ ≠ (.slice Ao23 t680.length co23 : Value).ownBlock ∧ some k_ ≠ (.slice Ao14 t675.length co14 : Value).ownBlock ∧ some k_ ≠ (.slice Ao26 t684.length co26 : Value).ownBlock ∧ k_ ≠ gb668 ∧ k_ ≠ gb669 ∧ k_ ≠ gb679 ∧ k_ ≠ gb688 ∧ k_ ≠ g672) (.slice Ao40 t691.length co40) t691) := ⟨(by (with_reducible repeat (first | apply Kd.N_alloc | apply Kd.N_drewN | apply Kd.N_drew)); exact Kd.N_mono (Kd.N_far (p := ⟨gb688, 0, none⟩) (Kd.N_mono HO693.out (fun k_ hk => (⟨hk, hk.2.2.2.2.2.2.2.1⟩ : _ ∧ k_ ≠ gb688))) (fun _ hk => hk.2) (.slice Ao40 t691.length co40)) (fun _ hk => ⟨hk.1.1, ⟨hk.1.2.1, ⟨hk.1.2.2.1, ⟨hk.1.2.2.2.1, ⟨hk.1.2.2.2.2.1, ⟨hk.1.2.2.2.2.2.1, ⟨hk.1.2.2.2.2.2.2.1, ⟨hk.1.2.2.2.2.2.2.2.1, hk.1.2.2.2.2.2.2.2.2⟩⟩⟩⟩⟩⟩⟩⟩))⟩
    have n4_ : Aside0 ((w39.setCell ⟨gb688, 0, none⟩ (.slice Ao40 t691.length co40)).heap[gb668]? = some (.cells #[.int .i64 0, .slice none 0 0] 25 (0, 0))) := ⟨(y13 NB668_688.out BK668.out)⟩
    have n5_ : Aside0 ((w39.setCell ⟨gb688, 0, none⟩ (.slice Ao40 t691.length co40)).heap[gb669]? = some (.cells #[.int .i64 0, .slice none 0 0] 25 (0, 0))) := ⟨(y13 NB669_688.out BK669.out)⟩
    have n6_ : Aside0 ((w39.setCell ⟨gb688, 0, none⟩ (.slice Ao40 t691.length co40)).heap[gb679]? = some (.cells #[.slice Ao14 t675.length co14] 50 (0, 0))) := ⟨(y13 NB679_688.out BK679.out)⟩
    have n7_ : Aside0 ((w39.setCell ⟨gb688, 0, none⟩ (.slice Ao40 t691.length co40)).heap[gb688]? = some (.cells #[.slice Ao40 t691.length co40] 50 (0, 0))) := ⟨(by (with_reducible repeat (first | refine blk_drewN ?_ _ | refine blk_drew ?_ | refine blk_alloc ?_ _)); refine blk_put (cs := #[.slice Ao26 t684.length co26]) ?_ 0 _ rfl; (with_reducible repeat (first | refine blk_drewN ?_ _ | refine blk_drew ?_ | refine blk_alloc ?_ _)); exact BK688.out)⟩
    have n8_ : Aside0 (IsS75 w (w39.setCell ⟨gb688, 0, none⟩ (.slice Ao40 t691.length co40)) g672 t670 t694) := ⟨(y37 HI672.out NB672_668.out NB672_669.out NB672_679.out NB672_688.out)⟩
    have n9_ : Aside0 (Below w.heap.size w (w39.setCell ⟨gb688, 0, none⟩ (.slice Ao40 t691.length co40))) := ⟨(y26 HB.out HI672.out GE668.out GE669.out GE679.out GE688.out)⟩
    (try clear HO_7)
    (try clear HO_680000)
    (try clear HO_689000)
    (try clear HO693)
    (try clear BK668)
    (try clear BK669)
    (try clear BK679)
    (try clear BK688)
    (try clear HI672)
    (try clear HB)
    generalize (w39.setCell ⟨gb688, 0, none⟩ (.slice Ao40 t691.length co40)) = w46 at n0_ n1_ n2_ n3_ n4_ n5_ n6_ n7_ n8_ n9_ ⊢
    have HO_7 := n0_
    have HO_680000 := n1_
    have HO_689000 := n2_
    have HO693 := n3_
    have BK668 := n4_
    have BK669 := n5_
    have BK679 := n6_
    have BK688 := n7_
    have HI672 := n8_
    have HB := n9_
    clear n0_ n1_ n2_ n3_ n4_ n5_ n6_ n7_ n8_ n9_
    replace HO_7 := Aside0.mk (Kd.R_drew HO_7.out)
    replace HO_680000 := Aside0.mk (Kd.N_drew HO_680000.out)
    replace HO_689000 := Aside0.mk (Kd.N_drew HO_689000.out)
    replace HO693 := Aside0.mk (Kd.N_drew HO693.out)
    replace BK668 := Aside0.mk (blk_drew BK668.out)
    replace BK669 := Aside0.mk (blk_drew BK669.out)
    replace BK679 := Aside0.mk (blk_drew BK679.out)
    replace BK688 := Aside0.mk (blk_drew BK688.out)
    replace HI672 := Aside0.mk (IsS75.drew HI672.out)
    replace HB := Aside0.mk (below_drew1 HB.out)
    refine start_ (n := 10) (S := fun w' => w'.cell? ⟨gb679, 0, none⟩ = some (.slice Ao14 t675.length co14) ∧ w'.cell? ⟨gb688, 0, none⟩ = some (.slice Ao40 t691.length co40)) (ds := []) #[false, false, false, false, false, false, false, false, false, false] (by kernel_rfl) rfl rfl ⟨(blk_cell BK679.out 0).trans rfl, (blk_cell BK688.out 0).trans rfl⟩ (fun hHeld => ?_); refine with_tabW spec_DrawValPut.tab7 spec_DrawValPut.bits7 (fun HT_ HW_ => ?_)
    generalize w46.drew = w47 at HO_7 HO_680000 HO_689000 HO693 BK668 BK669 BK679 BK688 HI672 HB hHeld ⊢
    refine zp 0 (some 35) HT_ ?_
    refine zp 3 (some 38) HT_ ?_
    refine zp 4 (some 39) HT_ ?_
    refine zt2 1 (some 36) HT_ HW_ hHeld ?_
    refine zt2 5 (some 40) HT_ HW_ hHeld ?_
    refine one_ (i := 2) (N := some 37) #[true, true, true, true, true, true, false, false, false, false] rfl rfl (one_of HT_.out (by kernel_rfl)) (by decide) (fun K hK => ?_)
    refine goes_ Try.func33 (by kernel_rfl) rfl #[.pointer (some ⟨g672, 0, none⟩), .agg #[.slice Ao14 t675.length co14]] (by rfl) rfl rfl y9 ?_
    with_reducible refine (spec_l71Bad.calls kj6 g672 t670 t694 (fun k_ => ((w.heap.size ≤ k_) ∧ (some k_ ≠ (.slice Ao23 t680.length co23 : Value).ownBlock ∧ (some k_ ≠ (.slice Ao26 t684.length co26 : Value).ownBlock ∧ (some k_ ≠ (.slice Ao40 t691.length co40 : Value).ownBlock ∧ (k_ ≠ gb668 ∧ (k_ ≠ gb669 ∧ (k_ ≠ gb679 ∧ (k_ ≠ gb688 ∧ k_ ≠ g672))))))))) _ _ t675 t695 t696 t699 w _ ?side1 ?side2 ?side3 A37.out).mono ?_
    (case side1 => exact y37 HI672.out NB672_668.out NB672_669.out NB672_679.out NB672_688.out)
    (case side2 => exact y26 HB.out HI672.out GE668.out GE669.out GE679.out GE688.out)
    (case side3 => exact Kd.V_mono (Kd.N_V (HO_680000.out)) (fun k_ hk_ => ⟨hk_, hk_.2.2.2.2.2.2.2.2⟩))
    rintro e w48 ⟨v697, rfl, ho0, hi, hb, hk⟩
    refine ⟨_, rfl, ?_⟩
    replace HO_680000 := Aside0.mk (Kd.N_mono (Kd.N_told (Kd.N_oldK (Kd.N_mono (ok := fun k_ => (((w.heap.size ≤ k_)) ∧ (some k_ ≠ (.slice Ao23 t680.length co23 : Value).ownBlock ∧ (some k_ ≠ (.slice Ao26 t684.length co26 : Value).ownBlock ∧ (some k_ ≠ (.slice Ao40 t691.length co40 : Value).ownBlock ∧ (k_ ≠ gb668 ∧ (k_ ≠ gb669 ∧ (k_ ≠ gb679 ∧ (k_ ≠ gb688 ∧ k_ ≠ g672))))))))) (y2 HO_680000.out) (fun k_ hk_ => (⟨hk_, hk_.2.2.2.2.2.2.2.2⟩ : _ ∧ k_ ≠ g672))) hk) (Kd.N_base ho0)) (fun _ h_ => h_.1))
    have HO698 := Aside0.mk (Kd.N_lower (Kd.N_mono (ok' := fun k_ => (w.heap.size ≤ k_) ∧ some k_ ≠ (.slice Ao23 t680.length co23 : Value).ownBlock ∧ some k_ ≠ (.slice Ao26 t684.length co26 : Value).ownBlock ∧ some k_ ≠ (.slice Ao40 t691.length co40 : Value).ownBlock ∧ k_ ≠ gb668 ∧ k_ ≠ gb669 ∧ k_ ≠ gb679 ∧ k_ ≠ gb688 ∧ k_ ≠ g672) ho0 (fun k_ hk_ => ⟨Or.elim hk_ (fun hs_ => hs_.1) (fun hn_ => (Nat.le_trans (below_size (y26 HB.out HI672.out GE668.out GE669.out GE679.out GE688.out)) hn_)), Or.elim hk_ (fun hs_ => hs_.2.1) (fun hn_ => (Kd.fresh' (Kd.R_lt (y8 HO_7.out)) k_ hn_)), Or.elim hk_ (fun hs_ => hs_.2.2.1) (fun hn_ => (Kd.fresh' (Kd.N_lt (y2 HO_689000.out)) k_ hn_)), Or.elim hk_ (fun hs_ => hs_.2.2.2.1) (fun hn_ => (Kd.fresh' (Kd.N_lt (y2 HO693.out)) k_ hn_)), Or.elim hk_ (fun hs_ => hs_.2.2.2.2.1) (fun hn_ => (Kd.freshB (g := gb668) (o := .cells #[.int .i64 0, .slice none 0 0] 25 (0, 0)) (y0 BK668.out) k_ hn_)), Or.elim hk_ (fun hs_ => hs_.2.2.2.2.2.1) (fun hn_ => (Kd.freshB (g := gb669) (o := .cells #[.int .i64 0, .slice none 0 0] 25 (0, 0)) (y0 BK669.out) k_ hn_)), Or.elim hk_ (fun hs_ => hs_.2.2.2.2.2.2.1) (fun hn_ => (Kd.freshB (g := gb679) (o := .cells #[.slice Ao14 t675.length co14] 50 (0, 0)) (y0 BK679.out) k_ hn_)), Or.elim hk_ (fun hs_ => hs_.2.2.2.2.2.2.2.1) (fun hn_ => (Kd.freshB (g := gb688) (o := .cells #[.slice Ao40 t691.length co40] 50 (0, 0)) (y0 BK688.out) k_ hn_)), Or.elim hk_ (fun hs_ => hs_.2.2.2.2.2.2.2.2) (fun hn_ => (IsS75.fresh (y37 HI672.out NB672_668.out NB672_669.out NB672_679.out NB672_688.out) k_ hn_))⟩)) (below_size (y26 HB.out HI672.out GE668.out GE669.out GE679.out GE688.out)))
    replace HO_7 := Aside0.mk (Kd.R_mono (Kd.R_keep (IsS75.apart (show IsS75 w _ g672 t670 t694 from by repeat (first | (with_reducible first | exact HI672.out | apply IsS75.alloc | apply IsS75.drewN | apply IsS75.drew | apply IsS75.set_1 | refine IsS75.far ?_ NB672_668.out _ | refine IsS75.far ?_ NB672_669.out _ | refine IsS75.far ?_ NB672_679.out _ | refine IsS75.far ?_ NB672_688.out _) | exact HI672.out)) (y8 HO_7.out) (by decide)) hk (fun _ h => h.2)) (fun _ h => h.1))
    replace HO_689000 := Aside0.mk (Kd.N_mono (Kd.N_told (Kd.N_oldK (Kd.N_mono (ok := fun k_ => (((w.heap.size ≤ k_)) ∧ (some k_ ≠ (.slice Ao23 t680.length co23 : Value).ownBlock ∧ (some k_ ≠ (.slice Ao40 t691.length co40 : Value).ownBlock ∧ (k_ ≠ gb668 ∧ (k_ ≠ gb669 ∧ (k_ ≠ gb679 ∧ (k_ ≠ gb688 ∧ k_ ≠ g672)))))))) (y2 HO_689000.out) (fun k_ hk_ => (⟨hk_, hk_.2.2.2.2.2.2.2⟩ : _ ∧ k_ ≠ g672))) hk) (Kd.N_base ho0)) (fun _ h_ => h_.1))
    replace BK668 := Aside0.mk (KeepBut.blk hk (g' := gb668) (o := .cells #[.int .i64 0, .slice none 0 0] 25 (0, 0)) (y0 BK668.out) NB668_672.out (by simp))
    replace BK669 := Aside0.mk (KeepBut.blk hk (g' := gb669) (o := .cells #[.int .i64 0, .slice none 0 0] 25 (0, 0)) (y0 BK669.out) NB669_672.out (by simp))
    replace BK679 := Aside0.mk (KeepBut.blk hk (g' := gb679) (o := .cells #[.slice Ao14 t675.length co14] 50 (0, 0)) (y0 BK679.out) NB679_672.out (by simp))
    replace BK688 := Aside0.mk (KeepBut.blk hk (g' := gb688) (o := .cells #[.slice Ao40 t691.length co40] 50 (0, 0)) (y0 BK688.out) NB688_672.out (by simp))
    replace HO693 := Aside0.mk (Kd.N_mono (Kd.N_told (Kd.N_oldK (Kd.N_mono (ok := fun k_ => (((w.heap.size ≤ k_)) ∧ (some k_ ≠ (.slice Ao23 t680.length co23 : Value).ownBlock ∧ (some k_ ≠ (.slice Ao14 t675.length co14 : Value).ownBlock ∧ (some k_ ≠ (.slice Ao26 t684.length co26 : Value).ownBlock ∧ (k_ ≠ gb668 ∧ (k_ ≠ gb669 ∧ (k_ ≠ gb679 ∧ (k_ ≠ gb688 ∧ k_ ≠ g672))))))))) (y2 HO693.out) (fun k_ hk_ => (⟨hk_, hk_.2.2.2.2.2.2.2.2⟩ : _ ∧ k_ ≠ g672))) hk) (Kd.N_base ho0)) (fun _ h_ => h_.1))
    replace HB := Aside0.mk (hb)
    replace HI672 := Aside0.mk (hi)
    (try clear hb)
    (try clear hb2)
    (try clear hk)
    (try clear hi)
    (try clear ho0)
    refine hK.out _ _ ⟨(blk_cell BK679.out 0).trans rfl, (blk_cell BK688.out 0).trans rfl⟩ (fun hHeld => ?_)
    clear hK K
    refine norm_ (a' := ?_) ?_ ?_
    rotate_left
    ·show Act.put _ (some 37) _ = _
     simp only [Act.put, List.setIfInBounds_toArray, List.set_cons_zero, List.set_cons_succ, i64_w, i32_w]
     rfl
    refine one_ (i := 6) (N := some 41) #[true, true, true, true, true, true, true, false, false, false] rfl rfl (one_of HT_.out (by kernel_rfl)) (by decide) (fun K hK => ?_)
    refine goes_ Try.func33 (by kernel_rfl) rfl #[.pointer (some ⟨g672, 0, none⟩), .agg #[.slice Ao40 t691.length co40]] (by rfl) rfl rfl y9 ?_
    with_reducible refine (spec_l71Bad.calls kj6 g672 t670 t699 (fun k_ => (((w.heap.size ≤ k_) ∧ (some k_ ≠ (.slice Ao23 t680.length co23 : Value).ownBlock ∧ (some k_ ≠ (.slice Ao14 t675.length co14 : Value).ownBlock ∧ (some k_ ≠ (.slice Ao26 t684.length co26 : Value).ownBlock ∧ (k_ ≠ gb668 ∧ (k_ ≠ gb669 ∧ (k_ ≠ gb679 ∧ (k_ ≠ gb688 ∧ k_ ≠ g672)))))))) ∧ some k_ ≠ (v697 : Value).ownBlock)) _ _ t691 t700 t701 t704 w _ ?side1 ?side2 ?side3 A38.out).mono ?_
    (case side1 => exact y37 HI672.out NB672_668.out NB672_669.out NB672_679.out NB672_688.out)
    (case side2 => exact y26 HB.out HI672.out GE668.out GE669.out GE679.out GE688.out)
    (case side3 => exact Kd.V_mono (Kd.N_V (HO693.out)) (fun k_ hk_ => ⟨hk_, hk_.1.2.2.2.2.2.2.2.2⟩))
    rintro e w49 ⟨v702, rfl, ho0, hi, hb, hk⟩
    refine ⟨_, rfl, ?_⟩
    replace HO693 := Aside0.mk (Kd.N_mono (Kd.N_told (Kd.N_oldK (Kd.N_mono (ok := fun k_ => ((((w.heap.size ≤ k_)) ∧ (some k_ ≠ (.slice Ao23 t680.length co23 : Value).ownBlock ∧ (some k_ ≠ (.slice Ao14 t675.length co14 : Value).ownBlock ∧ (some k_ ≠ (.slice Ao26 t684.length co26 : Value).ownBlock ∧ (k_ ≠ gb668 ∧ (k_ ≠ gb669 ∧ (k_ ≠ gb679 ∧ (k_ ≠ gb688 ∧ k_ ≠ g672)))))))) ∧ some k_ ≠ (v697 : Value).ownBlock)) (y2 HO693.out) (fun k_ hk_ => (⟨hk_, hk_.1.2.2.2.2.2.2.2.2⟩ : _ ∧ k_ ≠ g672))) hk) (Kd.N_base ho0)) (fun _ h_ => h_.1))
    have HO703 := Aside0.mk (Kd.N_lower (Kd.N_mono (ok' := fun k_ => (w.heap.size ≤ k_) ∧ some k_ ≠ (.slice Ao23 t680.length co23 : Value).ownBlock ∧ some k_ ≠ (.slice Ao14 t675.length co14 : Value).ownBlock ∧ some k_ ≠ (.slice Ao26 t684.length co26 : Value).ownBlock ∧ some k_ ≠ (v697 : Value).ownBlock ∧ k_ ≠ gb668 ∧ k_ ≠ gb669 ∧ k_ ≠ gb679 ∧ k_ ≠ gb688 ∧ k_ ≠ g672) ho0 (fun k_ hk_ => ⟨Or.elim hk_ (fun hs_ => hs_.1.1) (fun hn_ => (Nat.le_trans (below_size (y26 HB.out HI672.out GE668.out GE669.out GE679.out GE688.out)) hn_)), Or.elim hk_ (fun hs_ => hs_.1.2.1) (fun hn_ => (Kd.fresh' (Kd.R_lt (y8 HO_7.out)) k_ hn_)), Or.elim hk_ (fun hs_ => hs_.1.2.2.1) (fun hn_ => (Kd.fresh' (Kd.N_lt (y2 HO_680000.out)) k_ hn_)), Or.elim hk_ (fun hs_ => hs_.1.2.2.2.1) (fun hn_ => (Kd.fresh' (Kd.N_lt (y2 HO_689000.out)) k_ hn_)), Or.elim hk_ (fun hs_ => hs_.2) (fun hn_ => (Kd.fresh' (Kd.N_lt (y2 HO698.out)) k_ hn_)), Or.elim hk_ (fun hs_ => hs_.1.2.2.2.2.1) (fun hn_ => (Kd.freshB (g := gb668) (o := .cells #[.int .i64 0, .slice none 0 0] 25 (0, 0)) (y0 BK668.out) k_ hn_)), Or.elim hk_ (fun hs_ => hs_.1.2.2.2.2.2.1) (fun hn_ => (Kd.freshB (g := gb669) (o := .cells #[.int .i64 0, .slice none 0 0] 25 (0, 0)) (y0 BK669.out) k_ hn_)), Or.elim hk_ (fun hs_ => hs_.1.2.2.2.2.2.2.1) (fun hn_ => (Kd.freshB (g := gb679) (o := .cells #[.slice Ao14 t675.length co14] 50 (0, 0)) (y0 BK679.out) k_ hn_)), Or.elim hk_ (fun hs_ => hs_.1.2.2.2.2.2.2.2.1) (fun hn_ => (Kd.freshB (g := gb688) (o := .cells #[.slice Ao40 t691.length co40] 50 (0, 0)) (y0 BK688.out) k_ hn_)), Or.elim hk_ (fun hs_ => hs_.1.2.2.2.2.2.2.2.2) (fun hn_ => (IsS75.fresh (y37 HI672.out NB672_668.out NB672_669.out NB672_679.out NB672_688.out) k_ hn_))⟩)) (below_size (y26 HB.out HI672.out GE668.out GE669.out GE679.out GE688.out)))
    replace HO_7 := Aside0.mk (Kd.R_mono (Kd.R_keep (IsS75.apart (show IsS75 w _ g672 t670 t699 from by repeat (first | (with_reducible first | exact HI672.out | apply IsS75.alloc | apply IsS75.drewN | apply IsS75.drew | apply IsS75.set_1 | refine IsS75.far ?_ NB672_668.out _ | refine IsS75.far ?_ NB672_669.out _ | refine IsS75.far ?_ NB672_679.out _ | refine IsS75.far ?_ NB672_688.out _) | exact HI672.out)) (y8 HO_7.out) (by decide)) hk (fun _ h => h.2)) (fun _ h => h.1))
    replace HO_680000 := Aside0.mk (Kd.N_mono (Kd.N_told (Kd.N_oldK (Kd.N_mono (ok := fun k_ => ((((w.heap.size ≤ k_)) ∧ (some k_ ≠ (.slice Ao23 t680.length co23 : Value).ownBlock ∧ (some k_ ≠ (.slice Ao26 t684.length co26 : Value).ownBlock ∧ (some k_ ≠ (.slice Ao40 t691.length co40 : Value).ownBlock ∧ (k_ ≠ gb668 ∧ (k_ ≠ gb669 ∧ (k_ ≠ gb679 ∧ (k_ ≠ gb688 ∧ k_ ≠ g672)))))))) ∧ some k_ ≠ (v697 : Value).ownBlock)) (y2 HO_680000.out) (fun k_ hk_ => (⟨hk_, hk_.1.2.2.2.2.2.2.2.2⟩ : _ ∧ k_ ≠ g672))) hk) (Kd.N_base ho0)) (fun _ h_ => h_.1))
    replace HO_689000 := Aside0.mk (Kd.N_mono (Kd.N_told (Kd.N_oldK (Kd.N_mono (ok := fun k_ => ((((w.heap.size ≤ k_)) ∧ (some k_ ≠ (.slice Ao23 t680.length co23 : Value).ownBlock ∧ (some k_ ≠ (.slice Ao40 t691.length co40 : Value).ownBlock ∧ (k_ ≠ gb668 ∧ (k_ ≠ gb669 ∧ (k_ ≠ gb679 ∧ (k_ ≠ gb688 ∧ k_ ≠ g672))))))) ∧ some k_ ≠ (v697 : Value).ownBlock)) (y2 HO_689000.out) (fun k_ hk_ => (⟨hk_, hk_.1.2.2.2.2.2.2.2⟩ : _ ∧ k_ ≠ g672))) hk) (Kd.N_base ho0)) (fun _ h_ => h_.1))
    replace BK668 := Aside0.mk (KeepBut.blk hk (g' := gb668) (o := .cells #[.int .i64 0, .slice none 0 0] 25 (0, 0)) (y0 BK668.out) NB668_672.out (by simp))
    replace BK669 := Aside0.mk (KeepBut.blk hk (g' := gb669) (o := .cells #[.int .i64 0, .slice none 0 0] 25 (0, 0)) (y0 BK669.out) NB669_672.out (by simp))
    replace BK679 := Aside0.mk (KeepBut.blk hk (g' := gb679) (o := .cells #[.slice Ao14 t675.length co14] 50 (0, 0)) (y0 BK679.out) NB679_672.out (by simp))
    replace BK688 := Aside0.mk (KeepBut.blk hk (g' := gb688) (o := .cells #[.slice Ao40 t691.length co40] 50 (0, 0)) (y0 BK688.out) NB688_672.out (by simp))
    replace HO698 := Aside0.mk (Kd.N_mono (Kd.N_told (Kd.N_oldK (Kd.N_mono (ok := fun k_ => (((w.heap.size ≤ k_)) ∧ (some k_ ≠ (.slice Ao23 t680.length co23 : Value).ownBlock ∧ (some k_ ≠ (.slice Ao26 t684.length co26 : Value).ownBlock ∧ (some k_ ≠ (.slice Ao40 t691.length co40 : Value).ownBlock ∧ (k_ ≠ gb668 ∧ (k_ ≠ gb669 ∧ (k_ ≠ gb679 ∧ (k_ ≠ gb688 ∧ k_ ≠ g672))))))))) (y2 HO698.out) (fun k_ hk_ => (⟨hk_, hk_.2.2.2.2.2.2.2.2⟩ : _ ∧ k_ ≠ g672))) hk) (Kd.N_base ho0)) (fun _ h_ => h_.1))
    replace HB := Aside0.mk (hb)
    replace HI672 := Aside0.mk (hi)
    (try clear hb)
    (try clear hb2)
    (try clear hk)
    (try clear hi)
    (try clear ho0)
    obtain ⟨Ao51, co51, eo51⟩ := Kd.N_slice HO698.out
    (first | subst eo51 | (injection eo51 with f1_ f2_ f3_; have f4_ := f1_.symm; have f5_ := f3_.symm; clear f1_ f2_ f3_; subst f4_; subst f5_))
    obtain ⟨Ao54, co54, eo54⟩ := Kd.N_slice HO703.out
    (first | subst eo54 | (injection eo54 with f1_ f2_ f3_; have f4_ := f1_.symm; have f5_ := f3_.symm; clear f1_ f2_ f3_; subst f4_; subst f5_))
    refine hK.out _ _ ⟨(blk_cell BK679.out 0).trans rfl, (blk_cell BK688.out 0).trans rfl⟩ (fun hHeld => ?_)
    clear hK K
    refine norm_ (a' := ?_) ?_ ?_
    rotate_left
    ·show Act.put _ (some 41) _ = _
     simp only [Act.put, List.setIfInBounds_toArray, List.set_cons_zero, List.set_cons_succ, i64_w, i32_w]
     rfl
    refine one_ (i := 7) (N := none) #[true, true, true, true, true, true, true, true, false, false] rfl rfl (one_of HT_.out (by kernel_rfl)) (by decide) (fun K hK => ?_)
    have hs50 : w49.cell? ⟨gb668, 0, none⟩ = some (.int .i64 0) := (blk_cell BK668.out 0).trans rfl
    have hfs50 := zfr BK668 0
    have hns50_1 := NB669_668.out
    have hns50_2 := NB679_668.out
    have hns50_3 := NB688_668.out
    have hms50_1 := NB668_669.out
    have hms50_2 := NB668_679.out
    have hms50_3 := NB668_688.out
    have hs52 : w49.cell? ⟨gb668, 1, none⟩ = some (.slice none 0 0) := (blk_cell BK668.out 1).trans rfl
    have hfs52 := zfr BK668 1
    have hns52_1 := NB669_668.out
    have hns52_2 := NB679_668.out
    have hns52_3 := NB688_668.out
    have hms52_1 := NB668_669.out
    have hms52_2 := NB668_679.out
    have hms52_3 := NB668_688.out
    refine skip_ (w1 := ?_) (by rfl) rfl ?_ ?_
    rotate_left
    ·go_simp
     rfl
    refine hK.out _ _ ⟨((cell_far (p := ⟨gb668, _, none⟩) NB679_668.out _).trans (((cell_far (p := ⟨gb668, _, none⟩) NB679_668.out _).trans (hHeld.1)))), ((cell_far (p := ⟨gb668, _, none⟩) NB688_668.out _).trans (((cell_far (p := ⟨gb668, _, none⟩) NB688_668.out _).trans (hHeld.2))))⟩ (fun hHeld => ?_)
    clear hK K
    refine zp 8 (some 3) HT_ ?_
    refine one_ (i := 9) (N := none) #[true, true, true, true, true, true, true, true, true, true] rfl rfl (one_of HT_.out (by kernel_rfl)) (by decide) (fun K hK => ?_)
    have hs53 : w49.cell? ⟨gb669, 0, none⟩ = some (.int .i64 0) := (blk_cell BK669.out 0).trans rfl
    have hfs53 := zfr BK669 0
    have hns53_0 := NB668_669.out
    have hns53_2 := NB679_669.out
    have hns53_3 := NB688_669.out
    have hms53_0 := NB669_668.out
    have hms53_2 := NB669_679.out
    have hms53_3 := NB669_688.out
    have hs55 : w49.cell? ⟨gb669, 1, none⟩ = some (.slice none 0 0) := (blk_cell BK669.out 1).trans rfl
    have hfs55 := zfr BK669 1
    have hns55_0 := NB668_669.out
    have hns55_2 := NB679_669.out
    have hns55_3 := NB688_669.out
    have hms55_0 := NB669_668.out
    have hms55_2 := NB669_679.out
    have hms55_3 := NB669_688.out
    refine skip_ (w1 := ?_) (by rfl) rfl ?_ ?_
    rotate_left
    ·go_simp
     rfl
    refine hK.out _ _ ⟨((cell_far (p := ⟨gb669, _, none⟩) NB679_669.out _).trans (((cell_far (p := ⟨gb669, _, none⟩) NB679_669.out _).trans (hHeld.1)))), ((cell_far (p := ⟨gb669, _, none⟩) NB688_669.out _).trans (((cell_far (p := ⟨gb669, _, none⟩) NB688_669.out _).trans (hHeld.2))))⟩ (fun hHeld => ?_)
    clear hK K
    refine done_ (done_of HT_.out (by kernel_rfl)) ?_
    try go_wp2
    refine bodyPost_ret (results_list (rs := [.cell 2 25, .tmp 3, .cell 4 25]) rfl (by simp) (.cell gb668 25 #[.int .i64 t695, .slice Ao51 t696.length co51] (0, 0) _ rfl (by (with_reducible repeat (first | refine blk_drewN ?_ _ | refine blk_drew ?_ | refine blk_alloc ?_ _)); refine blk_far ?_ NB668_669.out _; (with_reducible repeat (first | refine blk_drewN ?_ _ | refine blk_drew ?_ | refine blk_alloc ?_ _)); refine blk_far ?_ NB668_669.out _; (with_reducible repeat (first | refine blk_drewN ?_ _ | refine blk_drew ?_ | refine blk_alloc ?_ _)); refine blk_put (cs := #[.int .i64 t695, .slice none 0 0]) ?_ 1 _ rfl; (with_reducible repeat (first | refine blk_drewN ?_ _ | refine blk_drew ?_ | refine blk_alloc ?_ _)); apply blk_put (i := 0); (case h => exact y0 BK668.out); (case e => rfl)) Try.underlying25 rfl (by kernel_rfl) (.tmp (.cell gb669 25 #[.int .i64 t700, .slice Ao54 t701.length co54] (0, 0) _ rfl (by (with_reducible repeat (first | refine blk_drewN ?_ _ | refine blk_drew ?_ | refine blk_alloc ?_ _)); refine blk_put (cs := #[.int .i64 t700, .slice none 0 0]) ?_ 1 _ rfl; (with_reducible repeat (first | refine blk_drewN ?_ _ | refine blk_drew ?_ | refine blk_alloc ?_ _)); refine blk_put (cs := #[.int .i64 0, .slice none 0 0]) ?_ 0 _ rfl; (with_reducible repeat (first | refine blk_drewN ?_ _ | refine blk_drew ?_ | refine blk_alloc ?_ _)); refine blk_far ?_ NB669_668.out _; (with_reducible repeat (first | refine blk_drewN ?_ _ | refine blk_drew ?_ | refine blk_alloc ?_ _)); refine blk_far ?_ NB669_668.out _; (with_reducible repeat (first | refine blk_drewN ?_ _ | refine blk_drew ?_ | refine blk_alloc ?_ _)); exact BK669.out) Try.underlying25 rfl (by kernel_rfl) .nil)))) rfl ?_
    exact ⟨_, _, _, y15, (by (with_reducible repeat (first | apply Kd.N_alloc | apply Kd.N_drewN | apply Kd.N_drew)); exact Kd.N_mono (Kd.N_far (p := ⟨gb669, 1, none⟩) (Kd.N_far (p := ⟨gb669, 0, none⟩) (Kd.N_far (p := ⟨gb668, 1, none⟩) (Kd.N_far (p := ⟨gb668, 0, none⟩) (Kd.N_mono (Kd.N_mono HO698.out (fun k_ hk => (⟨hk, hk.1.2.2.2.2.1⟩ : _ ∧ k_ ≠ gb668))) (fun k_ hk => (⟨hk, hk.1.1.2.2.2.2.2.1⟩ : _ ∧ k_ ≠ gb669))) (fun _ hk => hk.1.2) (.int .i64 t695)) (fun _ hk => hk.1.2) (.slice Ao51 t696.length co51)) (fun _ hk => hk.2) (.int .i64 t700)) (fun _ hk => hk.2) (.slice Ao54 t701.length co54)) (fun _ hk => ⟨hk.1.1.1.1, ⟨hk.1.1.1.2.1, hk.1.1.2⟩⟩)), (by (with_reducible repeat (first | apply Kd.R_alloc | apply Kd.R_drewN | apply Kd.R_drew)); exact Kd.R_mono (Kd.R_far (p := ⟨gb669, 1, none⟩) (Kd.R_far (p := ⟨gb669, 0, none⟩) (Kd.R_far (p := ⟨gb668, 1, none⟩) (Kd.R_far (p := ⟨gb668, 0, none⟩) (Kd.R_types (Kd.R_types HO_7.out BK668.out (by decide)) BK669.out (by decide)) (fun _ hk => hk.1.2) (.int .i64 t695)) (fun _ hk => hk.1.2) (.slice Ao51 t696.length co51)) (fun _ hk => hk.2) (.int .i64 t700)) (fun _ hk => hk.2) (.slice Ao54 t701.length co54)) (fun _ hk => hk.1.1)), (by (with_reducible repeat (first | apply Kd.N_alloc | apply Kd.N_drewN | apply Kd.N_drew)); exact Kd.N_mono (Kd.N_far (p := ⟨gb669, 1, none⟩) (Kd.N_far (p := ⟨gb669, 0, none⟩) (Kd.N_far (p := ⟨gb668, 1, none⟩) (Kd.N_far (p := ⟨gb668, 0, none⟩) (Kd.N_mono (Kd.N_mono HO703.out (fun k_ hk => (⟨hk, hk.2.2.2.2.2.1⟩ : _ ∧ k_ ≠ gb668))) (fun k_ hk => (⟨hk, hk.1.2.2.2.2.2.2.1⟩ : _ ∧ k_ ≠ gb669))) (fun _ hk => hk.1.2) (.int .i64 t695)) (fun _ hk => hk.1.2) (.slice Ao51 t696.length co51)) (fun _ hk => hk.2) (.int .i64 t700)) (fun _ hk => hk.2) (.slice Ao54 t701.length co54)) (fun _ hk => ⟨hk.1.1.1, ⟨hk.1.1.2.2.2.2.1, hk.1.1.2.1⟩⟩)), (y26 HB.out HI672.out GE668.out GE669.out GE679.out GE688.out)⟩
   ·replace c35 := Bool.eq_false_iff.mpr c35
    subst c35
    rw [if_neg (show ¬ (false = true) by decide)] at H
    obtain ⟨⟨t705, t706, t709⟩, A560, H⟩ := ob H
    have A56 := Aside0.mk A560
    clear A560
    obtain ⟨⟨t710, t711, t714⟩, A570, H⟩ := ob H
    have A57 := Aside0.mk A570
    clear A570
    simp only [Option.some.injEq, Prod.mk.injEq] at H
    obtain ⟨rfl, rfl, rfl, rfl, rfl⟩ := H
    try go_wp2
    replace HO_7 := Aside0.mk (Kd.R_drew HO_7.out)
    replace HO_680000 := Aside0.mk (Kd.N_drew HO_680000.out)
    replace HO_689000 := Aside0.mk (Kd.N_drew HO_689000.out)
    replace BK668 := Aside0.mk (blk_drew BK668.out)
    replace BK669 := Aside0.mk (blk_drew BK669.out)
    replace BK679 := Aside0.mk (blk_drew BK679.out)
    replace BK688 := Aside0.mk (blk_drew BK688.out)
    replace HI672 := Aside0.mk (IsS75.drew HI672.out)
    replace HB := Aside0.mk (below_drew1 HB.out)
    refine start_ (n := 10) (S := fun w' => w'.cell? ⟨gb679, 0, none⟩ = some (.slice Ao14 t675.length co14) ∧ w'.cell? ⟨gb688, 0, none⟩ = some (.slice Ao26 t684.length co26)) (ds := []) #[false, false, false, false, false, false, false, false, false, false] (by kernel_rfl) rfl rfl ⟨(blk_cell BK679.out 0).trans rfl, (blk_cell BK688.out 0).trans rfl⟩ (fun hHeld => ?_); refine with_tabW spec_DrawValPut.tab7 spec_DrawValPut.bits7 (fun HT_ HW_ => ?_)
    generalize wc.drew = w58 at HO_7 HO_680000 HO_689000 BK668 BK669 BK679 BK688 HI672 HB hHeld ⊢
    refine zp 0 (some 35) HT_ ?_
    refine zp 3 (some 38) HT_ ?_
    refine zp 4 (some 39) HT_ ?_
    refine zt2 1 (some 36) HT_ HW_ hHeld ?_
    refine zt2 5 (some 40) HT_ HW_ hHeld ?_
    refine one_ (i := 2) (N := some 37) #[true, true, true, true, true, true, false, false, false, false] rfl rfl (one_of HT_.out (by kernel_rfl)) (by decide) (fun K hK => ?_)
    refine goes_ Try.func33 (by kernel_rfl) rfl #[.pointer (some ⟨g672, 0, none⟩), .agg #[.slice Ao14 t675.length co14]] (by rfl) rfl rfl y9 ?_
    with_reducible refine (spec_l71Bad.calls kj6 g672 t670 x673001_6 (fun k_ => ((w.heap.size ≤ k_) ∧ (some k_ ≠ (.slice Ao23 t680.length co23 : Value).ownBlock ∧ (some k_ ≠ (.slice Ao26 t684.length co26 : Value).ownBlock ∧ (k_ ≠ gb668 ∧ (k_ ≠ gb669 ∧ (k_ ≠ gb679 ∧ (k_ ≠ gb688 ∧ k_ ≠ g672)))))))) _ _ t675 t705 t706 t709 w _ ?side1 ?side2 ?side3 A56.out).mono ?_
    (case side1 => exact y37 HI672.out NB672_668.out NB672_669.out NB672_679.out NB672_688.out)
    (case side2 => exact y26 HB.out HI672.out GE668.out GE669.out GE679.out GE688.out)
    (case side3 => exact Kd.V_mono (Kd.N_V (HO_680000.out)) (fun k_ hk_ => ⟨hk_, hk_.2.2.2.2.2.2.2⟩))
    rintro e w59 ⟨v707, rfl, ho0, hi, hb, hk⟩
    refine ⟨_, rfl, ?_⟩
    replace HO_680000 := Aside0.mk (Kd.N_mono (Kd.N_told (Kd.N_oldK (Kd.N_mono (ok := fun k_ => (((w.heap.size ≤ k_)) ∧ (some k_ ≠ (.slice Ao23 t680.length co23 : Value).ownBlock ∧ (some k_ ≠ (.slice Ao26 t684.length co26 : Value).ownBlock ∧ (k_ ≠ gb668 ∧ (k_ ≠ gb669 ∧ (k_ ≠ gb679 ∧ (k_ ≠ gb688 ∧ k_ ≠ g672)))))))) (y2 HO_680000.out) (fun k_ hk_ => (⟨hk_, hk_.2.2.2.2.2.2.2⟩ : _ ∧ k_ ≠ g672))) hk) (Kd.N_base ho0)) (fun _ h_ => h_.1))
    have HO708 := Aside0.mk (Kd.N_lower (Kd.N_mono (ok' := fun k_ => (w.heap.size ≤ k_) ∧ some k_ ≠ (.slice Ao23 t680.length co23 : Value).ownBlock ∧ some k_ ≠ (.slice Ao26 t684.length co26 : Value).ownBlock ∧ k_ ≠ gb668 ∧ k_ ≠ gb669 ∧ k_ ≠ gb679 ∧ k_ ≠ gb688 ∧ k_ ≠ g672) ho0 (fun k_ hk_ => ⟨Or.elim hk_ (fun hs_ => hs_.1) (fun hn_ => (Nat.le_trans (below_size (y26 HB.out HI672.out GE668.out GE669.out GE679.out GE688.out)) hn_)), Or.elim hk_ (fun hs_ => hs_.2.1) (fun hn_ => (Kd.fresh' (Kd.R_lt (y8 HO_7.out)) k_ hn_)), Or.elim hk_ (fun hs_ => hs_.2.2.1) (fun hn_ => (Kd.fresh' (Kd.N_lt (y2 HO_689000.out)) k_ hn_)), Or.elim hk_ (fun hs_ => hs_.2.2.2.1) (fun hn_ => (Kd.freshB (g := gb668) (o := .cells #[.int .i64 0, .slice none 0 0] 25 (0, 0)) (y0 BK668.out) k_ hn_)), Or.elim hk_ (fun hs_ => hs_.2.2.2.2.1) (fun hn_ => (Kd.freshB (g := gb669) (o := .cells #[.int .i64 0, .slice none 0 0] 25 (0, 0)) (y0 BK669.out) k_ hn_)), Or.elim hk_ (fun hs_ => hs_.2.2.2.2.2.1) (fun hn_ => (Kd.freshB (g := gb679) (o := .cells #[.slice Ao14 t675.length co14] 50 (0, 0)) (y0 BK679.out) k_ hn_)), Or.elim hk_ (fun hs_ => hs_.2.2.2.2.2.2.1) (fun hn_ => (Kd.freshB (g := gb688) (o := .cells #[.slice Ao26 t684.length co26] 50 (0, 0)) (y0 BK688.out) k_ hn_)), Or.elim hk_ (fun hs_ => hs_.2.2.2.2.2.2.2) (fun hn_ => (IsS75.fresh (y37 HI672.out NB672_668.out NB672_669.out NB672_679.out NB672_688.out) k_ hn_))⟩)) (below_size (y26 HB.out HI672.out GE668.out GE669.out GE679.out GE688.out)))
    replace HO_7 := Aside0.mk (Kd.R_mono (Kd.R_keep (IsS75.apart (show IsS75 w _ g672 t670 x673001_6 from by repeat (first | (with_reducible first | exact HI672.out | apply IsS75.alloc | apply IsS75.drewN | apply IsS75.drew | apply IsS75.set_1 | refine IsS75.far ?_ NB672_668.out _ | refine IsS75.far ?_ NB672_669.out _ | refine IsS75.far ?_ NB672_679.out _ | refine IsS75.far ?_ NB672_688.out _) | exact HI672.out)) (y8 HO_7.out) (by decide)) hk (fun _ h => h.2)) (fun _ h => h.1))
    replace HO_689000 := Aside0.mk (Kd.N_mono (Kd.N_told (Kd.N_oldK (Kd.N_mono (ok := fun k_ => (((w.heap.size ≤ k_)) ∧ (some k_ ≠ (.slice Ao23 t680.length co23 : Value).ownBlock ∧ (k_ ≠ gb668 ∧ (k_ ≠ gb669 ∧ (k_ ≠ gb679 ∧ (k_ ≠ gb688 ∧ k_ ≠ g672))))))) (y2 HO_689000.out) (fun k_ hk_ => (⟨hk_, hk_.2.2.2.2.2.2⟩ : _ ∧ k_ ≠ g672))) hk) (Kd.N_base ho0)) (fun _ h_ => h_.1))
    replace BK668 := Aside0.mk (KeepBut.blk hk (g' := gb668) (o := .cells #[.int .i64 0, .slice none 0 0] 25 (0, 0)) (y0 BK668.out) NB668_672.out (by simp))
    replace BK669 := Aside0.mk (KeepBut.blk hk (g' := gb669) (o := .cells #[.int .i64 0, .slice none 0 0] 25 (0, 0)) (y0 BK669.out) NB669_672.out (by simp))
    replace BK679 := Aside0.mk (KeepBut.blk hk (g' := gb679) (o := .cells #[.slice Ao14 t675.length co14] 50 (0, 0)) (y0 BK679.out) NB679_672.out (by simp))
    replace BK688 := Aside0.mk (KeepBut.blk hk (g' := gb688) (o := .cells #[.slice Ao26 t684.length co26] 50 (0, 0)) (y0 BK688.out) NB688_672.out (by simp))
    replace HB := Aside0.mk (hb)
    replace HI672 := Aside0.mk (hi)
    (try clear hb)
    (try clear hb2)
    (try clear hk)
    (try clear hi)
    (try clear ho0)
    refine hK.out _ _ ⟨(blk_cell BK679.out 0).trans rfl, (blk_cell BK688.out 0).trans rfl⟩ (fun hHeld => ?_)
    clear hK K
    refine norm_ (a' := ?_) ?_ ?_
    rotate_left
    ·show Act.put _ (some 37) _ = _
     simp only [Act.put, List.setIfInBounds_toArray, List.set_cons_zero, List.set_cons_succ, i64_w, i32_w]
     rfl
    refine one_ (i := 6) (N := some 41) #[true, true, true, true, true, true, true, false, false, false] rfl rfl (one_of HT_.out (by kernel_rfl)) (by decide) (fun K hK => ?_)
    refine goes_ Try.func33 (by kernel_rfl) rfl #[.pointer (some ⟨g672, 0, none⟩), .agg #[.slice Ao26 t684.length co26]] (by rfl) rfl rfl y9 ?_
    with_reducible refine (spec_l71Bad.calls kj6 g672 t670 t709 (fun k_ => (((w.heap.size ≤ k_) ∧ (some k_ ≠ (.slice Ao23 t680.length co23 : Value).ownBlock ∧ (k_ ≠ gb668 ∧ (k_ ≠ gb669 ∧ (k_ ≠ gb679 ∧ (k_ ≠ gb688 ∧ k_ ≠ g672)))))) ∧ some k_ ≠ (v707 : Value).ownBlock)) _ _ t684 t710 t711 t714 w _ ?side1 ?side2 ?side3 A57.out).mono ?_
    (case side1 => exact y37 HI672.out NB672_668.out NB672_669.out NB672_679.out NB672_688.out)
    (case side2 => exact y26 HB.out HI672.out GE668.out GE669.out GE679.out GE688.out)
    (case side3 => exact Kd.V_mono (Kd.N_V (HO_689000.out)) (fun k_ hk_ => ⟨hk_, hk_.1.2.2.2.2.2.2⟩))
    rintro e w60 ⟨v712, rfl, ho0, hi, hb, hk⟩
    refine ⟨_, rfl, ?_⟩
    replace HO_680000 := Aside0.mk (Kd.N_mono (Kd.N_told (Kd.N_oldK (Kd.N_mono (ok := fun k_ => ((((w.heap.size ≤ k_)) ∧ (some k_ ≠ (.slice Ao23 t680.length co23 : Value).ownBlock ∧ (some k_ ≠ (.slice Ao26 t684.length co26 : Value).ownBlock ∧ (k_ ≠ gb668 ∧ (k_ ≠ gb669 ∧ (k_ ≠ gb679 ∧ (k_ ≠ gb688 ∧ k_ ≠ g672))))))) ∧ some k_ ≠ (v707 : Value).ownBlock)) (y2 HO_680000.out) (fun k_ hk_ => (⟨hk_, hk_.1.2.2.2.2.2.2.2⟩ : _ ∧ k_ ≠ g672))) hk) (Kd.N_base ho0)) (fun _ h_ => h_.1))
    replace HO_689000 := Aside0.mk (Kd.N_mono (Kd.N_told (Kd.N_oldK (Kd.N_mono (ok := fun k_ => ((((w.heap.size ≤ k_)) ∧ (some k_ ≠ (.slice Ao23 t680.length co23 : Value).ownBlock ∧ (k_ ≠ gb668 ∧ (k_ ≠ gb669 ∧ (k_ ≠ gb679 ∧ (k_ ≠ gb688 ∧ k_ ≠ g672)))))) ∧ some k_ ≠ (v707 : Value).ownBlock)) (y2 HO_689000.out) (fun k_ hk_ => (⟨hk_, hk_.1.2.2.2.2.2.2⟩ : _ ∧ k_ ≠ g672))) hk) (Kd.N_base ho0)) (fun _ h_ => h_.1))
    have HO713 := Aside0.mk (Kd.N_lower (Kd.N_mono (ok' := fun k_ => (w.heap.size ≤ k_) ∧ some k_ ≠ (.slice Ao23 t680.length co23 : Value).ownBlock ∧ some k_ ≠ (v707 : Value).ownBlock ∧ k_ ≠ gb668 ∧ k_ ≠ gb669 ∧ k_ ≠ gb679 ∧ k_ ≠ gb688 ∧ k_ ≠ g672) ho0 (fun k_ hk_ => ⟨Or.elim hk_ (fun hs_ => hs_.1.1) (fun hn_ => (Nat.le_trans (below_size (y26 HB.out HI672.out GE668.out GE669.out GE679.out GE688.out)) hn_)), Or.elim hk_ (fun hs_ => hs_.1.2.1) (fun hn_ => (Kd.fresh' (Kd.R_lt (y8 HO_7.out)) k_ hn_)), Or.elim hk_ (fun hs_ => hs_.2) (fun hn_ => (Kd.fresh' (Kd.N_lt (y2 HO708.out)) k_ hn_)), Or.elim hk_ (fun hs_ => hs_.1.2.2.1) (fun hn_ => (Kd.freshB (g := gb668) (o := .cells #[.int .i64 0, .slice none 0 0] 25 (0, 0)) (y0 BK668.out) k_ hn_)), Or.elim hk_ (fun hs_ => hs_.1.2.2.2.1) (fun hn_ => (Kd.freshB (g := gb669) (o := .cells #[.int .i64 0, .slice none 0 0] 25 (0, 0)) (y0 BK669.out) k_ hn_)), Or.elim hk_ (fun hs_ => hs_.1.2.2.2.2.1) (fun hn_ => (Kd.freshB (g := gb679) (o := .cells #[.slice Ao14 t675.length co14] 50 (0, 0)) (y0 BK679.out) k_ hn_)), Or.elim hk_ (fun hs_ => hs_.1.2.2.2.2.2.1) (fun hn_ => (Kd.freshB (g := gb688) (o := .cells #[.slice Ao26 t684.length co26] 50 (0, 0)) (y0 BK688.out) k_ hn_)), Or.elim hk_ (fun hs_ => hs_.1.2.2.2.2.2.2) (fun hn_ => (IsS75.fresh (y37 HI672.out NB672_668.out NB672_669.out NB672_679.out NB672_688.out) k_ hn_))⟩)) (below_size (y26 HB.out HI672.out GE668.out GE669.out GE679.out GE688.out)))
    replace HO_7 := Aside0.mk (Kd.R_mono (Kd.R_keep (IsS75.apart (show IsS75 w _ g672 t670 t709 from by repeat (first | (with_reducible first | exact HI672.out | apply IsS75.alloc | apply IsS75.drewN | apply IsS75.drew | apply IsS75.set_1 | refine IsS75.far ?_ NB672_668.out _ | refine IsS75.far ?_ NB672_669.out _ | refine IsS75.far ?_ NB672_679.out _ | refine IsS75.far ?_ NB672_688.out _) | exact HI672.out)) (y8 HO_7.out) (by decide)) hk (fun _ h => h.2)) (fun _ h => h.1))
    replace BK668 := Aside0.mk (KeepBut.blk hk (g' := gb668) (o := .cells #[.int .i64 0, .slice none 0 0] 25 (0, 0)) (y0 BK668.out) NB668_672.out (by simp))
    replace BK669 := Aside0.mk (KeepBut.blk hk (g' := gb669) (o := .cells #[.int .i64 0, .slice none 0 0] 25 (0, 0)) (y0 BK669.out) NB669_672.out (by simp))
    replace BK679 := Aside0.mk (KeepBut.blk hk (g' := gb679) (o := .cells #[.slice Ao14 t675.length co14] 50 (0, 0)) (y0 BK679.out) NB679_672.out (by simp))
    replace BK688 := Aside0.mk (KeepBut.blk hk (g' := gb688) (o := .cells #[.slice Ao26 t684.length co26] 50 (0, 0)) (y0 BK688.out) NB688_672.out (by simp))
    replace HO708 := Aside0.mk (Kd.N_mono (Kd.N_told (Kd.N_oldK (Kd.N_mono (ok := fun k_ => (((w.heap.size ≤ k_)) ∧ (some k_ ≠ (.slice Ao23 t680.length co23 : Value).ownBlock ∧ (some k_ ≠ (.slice Ao26 t684.length co26 : Value).ownBlock ∧ (k_ ≠ gb668 ∧ (k_ ≠ gb669 ∧ (k_ ≠ gb679 ∧ (k_ ≠ gb688 ∧ k_ ≠ g672)))))))) (y2 HO708.out) (fun k_ hk_ => (⟨hk_, hk_.2.2.2.2.2.2.2⟩ : _ ∧ k_ ≠ g672))) hk) (Kd.N_base ho0)) (fun _ h_ => h_.1))
    replace HB := Aside0.mk (hb)
    replace HI672 := Aside0.mk (hi)
    (try clear hb)
    (try clear hb2)
    (try clear hk)
    (try clear hi)
    (try clear ho0)
    obtain ⟨Ao62, co62, eo62⟩ := Kd.N_slice HO708.out
    (first | subst eo62 | (injection eo62 with f1_ f2_ f3_; have f4_ := f1_.symm; have f5_ := f3_.symm; clear f1_ f2_ f3_; subst f4_; subst f5_))
    obtain ⟨Ao65, co65, eo65⟩ := Kd.N_slice HO713.out
    (first | subst eo65 | (injection eo65 with f1_ f2_ f3_; have f4_ := f1_.symm; have f5_ := f3_.symm; clear f1_ f2_ f3_; subst f4_; subst f5_))
    refine hK.out _ _ ⟨(blk_cell BK679.out 0).trans rfl, (blk_cell BK688.out 0).trans rfl⟩ (fun hHeld => ?_)
    clear hK K
    refine norm_ (a' := ?_) ?_ ?_
    rotate_left
    ·show Act.put _ (some 41) _ = _
     simp only [Act.put, List.setIfInBounds_toArray, List.set_cons_zero, List.set_cons_succ, i64_w, i32_w]
     rfl
    refine one_ (i := 7) (N := none) #[true, true, true, true, true, true, true, true, false, false] rfl rfl (one_of HT_.out (by kernel_rfl)) (by decide) (fun K hK => ?_)
    have hs61 : w60.cell? ⟨gb668, 0, none⟩ = some (.int .i64 0) := (blk_cell BK668.out 0).trans rfl
    have hfs61 := zfr BK668 0
    have hns61_1 := NB669_668.out
    have hns61_2 := NB679_668.out
    have hns61_3 := NB688_668.out
    have hms61_1 := NB668_669.out
    have hms61_2 := NB668_679.out
    have hms61_3 := NB668_688.out
    have hs63 : w60.cell? ⟨gb668, 1, none⟩ = some (.slice none 0 0) := (blk_cell BK668.out 1).trans rfl
    have hfs63 := zfr BK668 1
    have hns63_1 := NB669_668.out
    have hns63_2 := NB679_668.out
    have hns63_3 := NB688_668.out
    have hms63_1 := NB668_669.out
    have hms63_2 := NB668_679.out
    have hms63_3 := NB668_688.out
    refine skip_ (w1 := ?_) (by rfl) rfl ?_ ?_
    rotate_left
    ·go_simp
     rfl
    refine hK.out _ _ ⟨((cell_far (p := ⟨gb668, _, none⟩) NB679_668.out _).trans (((cell_far (p := ⟨gb668, _, none⟩) NB679_668.out _).trans (hHeld.1)))), ((cell_far (p := ⟨gb668, _, none⟩) NB688_668.out _).trans (((cell_far (p := ⟨gb668, _, none⟩) NB688_668.out _).trans (hHeld.2))))⟩ (fun hHeld => ?_)
    clear hK K
    refine zp 8 (some 3) HT_ ?_
    refine one_ (i := 9) (N := none) #[true, true, true, true, true, true, true, true, true, true] rfl rfl (one_of HT_.out (by kernel_rfl)) (by decide) (fun K hK => ?_)
    have hs64 : w60.cell? ⟨gb669, 0, none⟩ = some (.int .i64 0) := (blk_cell BK669.out 0).trans rfl
    have hfs64 := zfr BK669 0
    have hns64_0 := NB668_669.out
    have hns64_2 := NB679_669.out
    have hns64_3 := NB688_669.out
    have hms64_0 := NB669_668.out
    have hms64_2 := NB669_679.out
    have hms64_3 := NB669_688.out
    have hs66 : w60.cell? ⟨gb669, 1, none⟩ = some (.slice none 0 0) := (blk_cell BK669.out 1).trans rfl
    have hfs66 := zfr BK669 1
    have hns66_0 := NB668_669.out
    have hns66_2 := NB679_669.out
    have hns66_3 := NB688_669.out
    have hms66_0 := NB669_668.out
    have hms66_2 := NB669_679.out
    have hms66_3 := NB669_688.out
    refine skip_ (w1 := ?_) (by rfl) rfl ?_ ?_
    rotate_left
    ·go_simp
     rfl
    refine hK.out _ _ ⟨((cell_far (p := ⟨gb669, _, none⟩) NB679_669.out _).trans (((cell_far (p := ⟨gb669, _, none⟩) NB679_669.out _).trans (hHeld.1)))), ((cell_far (p := ⟨gb669, _, none⟩) NB688_669.out _).trans (((cell_far (p := ⟨gb669, _, none⟩) NB688_669.out _).trans (hHeld.2))))⟩ (fun hHeld => ?_)
    clear hK K
    refine done_ (done_of HT_.out (by kernel_rfl)) ?_
    try go_wp2
    refine bodyPost_ret (results_list (rs := [.cell 2 25, .tmp 3, .cell 4 25]) rfl (by simp) (.cell gb668 25 #[.int .i64 t705, .slice Ao62 t706.length co62] (0, 0) _ rfl (by (with_reducible repeat (first | refine blk_drewN ?_ _ | refine blk_drew ?_ | refine blk_alloc ?_ _)); refine blk_far ?_ NB668_669.out _; (with_reducible repeat (first | refine blk_drewN ?_ _ | refine blk_drew ?_ | refine blk_alloc ?_ _)); refine blk_far ?_ NB668_669.out _; (with_reducible repeat (first | refine blk_drewN ?_ _ | refine blk_drew ?_ | refine blk_alloc ?_ _)); refine blk_put (cs := #[.int .i64 t705, .slice none 0 0]) ?_ 1 _ rfl; (with_reducible repeat (first | refine blk_drewN ?_ _ | refine blk_drew ?_ | refine blk_alloc ?_ _)); apply blk_put (i := 0); (case h => exact y0 BK668.out); (case e => rfl)) Try.underlying25 rfl (by kernel_rfl) (.tmp (.cell gb669 25 #[.int .i64 t710, .slice Ao65 t711.length co65] (0, 0) _ rfl (by (with_reducible repeat (first | refine blk_drewN ?_ _ | refine blk_drew ?_ | refine blk_alloc ?_ _)); refine blk_put (cs := #[.int .i64 t710, .slice none 0 0]) ?_ 1 _ rfl; (with_reducible repeat (first | refine blk_drewN ?_ _ | refine blk_drew ?_ | refine blk_alloc ?_ _)); refine blk_put (cs := #[.int .i64 0, .slice none 0 0]) ?_ 0 _ rfl; (with_reducible repeat (first | refine blk_drewN ?_ _ | refine blk_drew ?_ | refine blk_alloc ?_ _)); refine blk_far ?_ NB669_668.out _; (with_reducible repeat (first | refine blk_drewN ?_ _ | refine blk_drew ?_ | refine blk_alloc ?_ _)); refine blk_far ?_ NB669_668.out _; (with_reducible repeat (first | refine blk_drewN ?_ _ | refine blk_drew ?_ | refine blk_alloc ?_ _)); exact BK669.out) Try.underlying25 rfl (by kernel_rfl) .nil)))) rfl ?_
    exact ⟨_, _, _, y15, (by (with_reducible repeat (first | apply Kd.N_alloc | apply Kd.N_drewN | apply Kd.N_drew)); exact Kd.N_mono (Kd.N_far (p := ⟨gb669, 1, none⟩) (Kd.N_far (p := ⟨gb669, 0, none⟩) (Kd.N_far (p := ⟨gb668, 1, none⟩) (Kd.N_far (p := ⟨gb668, 0, none⟩) (Kd.N_mono (Kd.N_mono HO708.out (fun k_ hk => (⟨hk, hk.1.2.2.2.1⟩ : _ ∧ k_ ≠ gb668))) (fun k_ hk => (⟨hk, hk.1.1.2.2.2.2.1⟩ : _ ∧ k_ ≠ gb669))) (fun _ hk => hk.1.2) (.int .i64 t705)) (fun _ hk => hk.1.2) (.slice Ao62 t706.length co62)) (fun _ hk => hk.2) (.int .i64 t710)) (fun _ hk => hk.2) (.slice Ao65 t711.length co65)) (fun _ hk => ⟨hk.1.1.1.1, ⟨hk.1.1.1.2.1, hk.1.1.2⟩⟩)), (by (with_reducible repeat (first | apply Kd.R_alloc | apply Kd.R_drewN | apply Kd.R_drew)); exact Kd.R_mono (Kd.R_far (p := ⟨gb669, 1, none⟩) (Kd.R_far (p := ⟨gb669, 0, none⟩) (Kd.R_far (p := ⟨gb668, 1, none⟩) (Kd.R_far (p := ⟨gb668, 0, none⟩) (Kd.R_types (Kd.R_types HO_7.out BK668.out (by decide)) BK669.out (by decide)) (fun _ hk => hk.1.2) (.int .i64 t705)) (fun _ hk => hk.1.2) (.slice Ao62 t706.length co62)) (fun _ hk => hk.2) (.int .i64 t710)) (fun _ hk => hk.2) (.slice Ao65 t711.length co65)) (fun _ hk => hk.1.1)), (by (with_reducible repeat (first | apply Kd.N_alloc | apply Kd.N_drewN | apply Kd.N_drew)); exact Kd.N_mono (Kd.N_far (p := ⟨gb669, 1, none⟩) (Kd.N_far (p := ⟨gb669, 0, none⟩) (Kd.N_far (p := ⟨gb668, 1, none⟩) (Kd.N_far (p := ⟨gb668, 0, none⟩) (Kd.N_mono (Kd.N_mono HO713.out (fun k_ hk => (⟨hk, hk.2.2.2.1⟩ : _ ∧ k_ ≠ gb668))) (fun k_ hk => (⟨hk, hk.1.2.2.2.2.1⟩ : _ ∧ k_ ≠ gb669))) (fun _ hk => hk.1.2) (.int .i64 t705)) (fun _ hk => hk.1.2) (.slice Ao62 t706.length co62)) (fun _ hk => hk.2) (.int .i64 t710)) (fun _ hk => hk.2) (.slice Ao65 t711.length co65)) (fun _ hk => ⟨hk.1.1.1, ⟨hk.1.1.2.2.1, hk.1.1.2.1⟩⟩)), (y26 HB.out HI672.out GE668.out GE669.out GE679.out GE688.out)⟩
end Go.Proofs.Ythfflieeifakdaa.PA
end
section
namespace Go.Proofs.Ythfflieeifakdaa.PA
open Go.RowKit Go.Proofs.YthfflieeifakdaaW.PrintWords Go.Proofs.YthfflieeifakdaaW.PrintLast Go.Proofs.YthfflieeifakdaaW.PrintMore
attribute [local go_sem] max2_int min2_int max_two min_two max_three min_three max_four min_four
set_option linter.unusedVariables false
set_option linter.unusedSimpArgs false
mutual
def spec_l1Of.j0 : Nat → Int → Bool → Int → List (S25) → Option ((List (S50)) × Bool)
 | 0, _, _, _, _ => none
 | k + 1, x1, x24, x234000, x234001 => if x24 = true then (some (([] : List (S50)), false)) else (spec_l1Of.l0 k x1 0 x234000 x234001 ([] : List (S50)))
def spec_l1Of.l0 : Nat → Int → Int → Int → List (S25) → List (S50) → Option ((List (S50)) × Bool)
 | 0, _, _, _, _, _ => none
 | k + 1, x1, x7, x234000, x234001, x236000 => if x7 < (x234001.length : Int) then (if 0 ≤ x7 then ((spec_l1Of.f k ((rd_T25 x234001 x7).f0) ((rd_T25 x234001 x7).f1) (wrap64 (x1 - 1))).bind fun bt237 => (if bt237.2 = true then (if x236000.length < 5864062014805 then (spec_l1Of.l0 k x1 (wrap64 (x7 + 1)) x234000 x234001 (x236000 ++ [(⟨bt237.1⟩ : S50)])) else (none)) else (some (x236000, false)))) else (none)) else (some (x236000, true))
def spec_l1Of.f : Nat → Int → List (S25) → Int → Option ((List (S50)) × Bool)
 | 0, _, _, _ => none
 | k + 1, a0_0, l0_1, a1 => if a1 < 1 then (spec_l1Of.j0 k a1 true a0_0 l0_1) else (if (l0_1.length : Int) = 0 then (spec_l1Of.j0 k a1 false a0_0 l0_1) else (spec_l1Of.j0 k a1 ((l0_1.length : Int) != 2) a0_0 l0_1))
end
theorem spec_l1Of.mono_l : ∀ k, (∀ y0 y1 y2, LeO (spec_l1Of.f k y0 y1 y2) (spec_l1Of.f (k + 1) y0 y1 y2)) ∧ (∀ y0 y1 y2 y3, LeO (spec_l1Of.j0 k y0 y1 y2 y3) (spec_l1Of.j0 (k + 1) y0 y1 y2 y3)) ∧ (∀ y0 y1 y2 y3 y4, LeO (spec_l1Of.l0 k y0 y1 y2 y3 y4) (spec_l1Of.l0 (k + 1) y0 y1 y2 y3 y4))
 | 0 => ⟨fun _ _ _ r h => by simp [spec_l1Of.f] at h, fun _ _ _ _ r h => by simp [spec_l1Of.j0] at h, fun _ _ _ _ _ r h => by simp [spec_l1Of.l0] at h⟩
 | k + 1 => by
  obtain ⟨ih0, ih1, ih2⟩ := spec_l1Of.mono_l k
  refine ⟨?_, ?_, ?_⟩
  ·intro y0 y1 y2
   unfold spec_l1Of.f
   repeat' first
   | (with_reducible exact ih0 _ _ _)
   | (with_reducible exact ih1 _ _ _ _)
   | (with_reducible exact ih2 _ _ _ _ _)
   | (with_reducible exact LeO.refl _)
   | (with_reducible exact LeO.none _)
   | (with_reducible refine LeO.ite ?_ ?_)
   | (with_reducible refine LeO.bind ?_ (fun _ => ?_))
   | exact ih0 _ _ _
   | exact ih1 _ _ _ _
   | exact ih2 _ _ _ _ _
   | exact LeO.none _
   | refine LeO.ite ?_ ?_
   | refine LeO.bind ?_ (fun _ => ?_)
  ·intro y0 y1 y2 y3
   unfold spec_l1Of.j0
   repeat' first
   | (with_reducible exact ih0 _ _ _)
   | (with_reducible exact ih1 _ _ _ _)
   | (with_reducible exact ih2 _ _ _ _ _)
   | (with_reducible exact LeO.refl _)
   | (with_reducible exact LeO.none _)
   | (with_reducible refine LeO.ite ?_ ?_)
   | (with_reducible refine LeO.bind ?_ (fun _ => ?_))
   | exact ih0 _ _ _
   | exact ih1 _ _ _ _
   | exact ih2 _ _ _ _ _
   | exact LeO.none _
   | refine LeO.ite ?_ ?_
   | refine LeO.bind ?_ (fun _ => ?_)
  ·intro y0 y1 y2 y3 y4
   unfold spec_l1Of.l0
   repeat' first
   | (with_reducible exact ih0 _ _ _)
   | (with_reducible exact ih1 _ _ _ _)
   | (with_reducible exact ih2 _ _ _ _ _)
   | (with_reducible exact LeO.refl _)
   | (with_reducible exact LeO.none _)
   | (with_reducible refine LeO.ite ?_ ?_)
   | (with_reducible refine LeO.bind ?_ (fun _ => ?_))
   | exact ih0 _ _ _
   | exact ih1 _ _ _ _
   | exact ih2 _ _ _ _ _
   | exact LeO.none _
   | refine LeO.ite ?_ ?_
   | refine LeO.bind ?_ (fun _ => ?_)
theorem spec_l1Of.mono : ∀ a0 a1 a2 k, LeO (spec_l1Of.f k a0 a1 a2) (spec_l1Of.f (k + 1) a0 a1 a2) := by
 intro a0 a1 a2 k
 obtain ⟨ih0, ih1, ih2⟩ := spec_l1Of.mono_l k
 exact ih0 a0 a1 a2
set_option maxHeartbeats 8000000 in
set_option maxRecDepth 100000 in
theorem spec_l1Of.calls (k : Nat) : ∀ (a0_0 : Int) (A0_1 : Option Addr) (c0_1 : Nat) (l0_1 : List (S25)) (a1 : Int) (r1 : List (S50)) (r2 : Bool) (w : World) (hr0_1 : Kd.C k25 w A0_1 l0_1.length l0_1) (hc0_1 : l0_1.length ≤ c0_1) (h : spec_l1Of.f k a0_0 l0_1 a1 = some (r1, r2)),
  Calls Try.prog 49 #[.agg #[.int .i64 a0_0, .slice A0_1 l0_1.length c0_1], .int .i64 a1] w fun e w' => ∃ v0_ : Value, e = .returned (.tuple #[.agg #[v0_], .bool r2]) ∧ Kd.R k50 50 w' w.heap.size (fun _ => True) v0_ r1 ∧ Below w.heap.size w w' := by
 induction k using Nat.strongRecOn with
 | _ k ih =>
 intro a0_0 A0_1 c0_1 l0_1 a1 r1 r2 w hr0_1 hc0_1 h
 cases k with
 | zero => exact absurd h (by simp [spec_l1Of.f])
 | succ k =>
 simp only [spec_l1Of.f] at h
 have hu25 := Try.underlying25
 have hu50 := Try.underlying50
 have HR0_1 := Aside0.mk hr0_1
 have HC0_1 := Aside0.mk hc0_1
 clear hr0_1 hc0_1
 have HB := Aside0.mk (Below.refl w.heap.size w)
 have H : (if a1 < 1 then (spec_l1Of.j0 k a1 true a0_0 l0_1) else (if (l0_1.length : Int) = 0 then (spec_l1Of.j0 k a1 false a0_0 l0_1) else (spec_l1Of.j0 k a1 ((l0_1.length : Int) != 2) a0_0 l0_1))) = some (r1, r2) := h
 clear h
 have HC3 := Aside0.mk H
 clear H
 go_enter Try.func49, Try.ntmps49
 go_upto_region 2 with (first | ((with_reducible refine gate_dst (N := 2) rfl ?_); (try (refine gate_guard (by rfl) ?_; dsimp only)); refine zbx 2 #[.int .i64 a0_0, .slice A0_1 l0_1.length c0_1] 25 ?_; intro gb233 hg w4 hbox hb; have BK233 := Aside0.mk hbox; have GW233 := Aside0.mk ((y10 hg HB.out : w.heap.size ≤ gb233)); have GE233 := Aside0.mk ((y10 hg HB.out : w.heap.size ≤ gb233)); replace HB := Aside0.mk (below_step (y6 HB.out) hb); clear hb hbox hg) | ((with_reducible refine gate_dst (N := 4) rfl ?_); (try (refine gate_guard (by rfl) ?_; dsimp only)); refine zbx 4 #[.slice none 0 0] 50 ?_; intro gb234 hg w5 hbox hb; have BK234 := Aside0.mk hbox; have GW234 := Aside0.mk ((y12 hg HB.out GE233.out : w.heap.size ≤ gb234)); have GE234 := Aside0.mk ((y12 hg HB.out GE233.out : w.heap.size ≤ gb234)); replace HB := Aside0.mk (below_step (y7 HB.out GE233.out) hb); have NB233_234 := zltn hg BK233; have NB234_233 := zgtn hg BK233; replace BK233 := zbb BK233 hb; clear hb hbox hg) | ((with_reducible refine gate_dst (N := 6) rfl ?_); (try (refine gate_guard (by rfl) ?_; dsimp only)); refine zbx 6 #[.slice none 0 0] 50 ?_; intro gb235 hg w6 hbox hb; have BK235 := Aside0.mk hbox; have GW235 := Aside0.mk ((y16 hg HB.out GE233.out GE234.out : w.heap.size ≤ gb235)); have GE235 := Aside0.mk ((y16 hg HB.out GE233.out GE234.out : w.heap.size ≤ gb235)); replace HB := Aside0.mk (below_step (y3 HB.out GE233.out GE234.out) hb); have NB233_235 := zltn hg BK233; have NB235_233 := zgtn hg BK233; replace BK233 := zbb BK233 hb; have NB234_235 := zltn hg BK234; have NB235_234 := zgtn hg BK234; replace BK234 := zbb BK234 hb; clear hb hbox hg; have hnb7 := NB235_233.out; have hnc7 := NB233_235.out; have hnb8 := NB235_234.out; have hnc8 := NB234_235.out; have hcz9_0 := zh BK235; have hfz9_0 := zfr BK235 0))
 (try simp only [Act.put, List.setIfInBounds_toArray, List.set_cons_zero, List.set_cons_succ])
 go_cut [24] (fun v24 wc => ∃ (kq : Nat) (x24_2 : Bool), v24 = .bool x24_2 ∧ Aside0 (spec_l1Of.j0 kq a1 x24_2 a0_0 l0_1 = some (r1, r2)) ∧ Aside0 (kq ≤ k) ∧ Aside0 (wc.heap[gb233]? = some (.cells #[.int .i64 a0_0, (.slice A0_1 l0_1.length c0_1)] 25 (0, 0))) ∧ Aside0 (wc.heap[gb234]? = some (.cells #[(.slice none 0 0)] 50 (0, 0))) ∧ Aside0 (wc.heap[gb235]? = some (.cells #[(.slice none 0 0)] 50 (0, 0))) ∧ Aside0 (Below w.heap.size w wc))
 case first =>
  have H := HC3.out
  clear HC3
  by_cases c10 : a1 < 1
  ·rw [if_pos c10] at H
   have c10b0 : decide (a1 < 1) = true := decide_eq_true c10
   clear c10
   (first | rw [c10b0] | (simp only [i64_w, i32_w]; rw [c10b0]) | skip)
   have H' := Aside0.mk H
   clear H
   go_wp2
   go_meet
   case rel => exact ⟨_, (true), y29, H', ⟨y50⟩, ⟨(y13 NB233_235.out BK233.out)⟩, ⟨(y13 NB234_235.out BK234.out)⟩, ⟨(by (with_reducible repeat (first | refine blk_drewN ?_ _ | refine blk_drew ?_ | refine blk_alloc ?_ _)); refine blk_put (cs := #[.slice none 0 0]) ?_ 0 _ rfl; (with_reducible repeat (first | refine blk_drewN ?_ _ | refine blk_drew ?_ | refine blk_alloc ?_ _)); exact BK235.out)⟩, ⟨(y4 HB.out GE233.out GE234.out GE235.out)⟩⟩
  ·rw [if_neg c10] at H
   have c10b0 : decide (a1 < 1) = false := decide_eq_false c10
   clear c10
   (first | rw [c10b0] | (simp only [i64_w, i32_w]; rw [c10b0]) | skip)
   by_cases c11 : (l0_1.length : Int) = 0
   ·rw [if_pos c11] at H
    have c11b0 : ((l0_1.length : Int) == 0) = true := beq_iff_eq.mpr c11
    have c11b1 : ((l0_1.length : Int) != 0) = false := bne_eq_false_iff_eq.mpr c11
    clear c11
    have H' := Aside0.mk H
    clear H
    have hnb12 := NB233_234.out
    have hnc12 := NB234_233.out
    have hnb13 := NB233_235.out
    have hnc13 := NB235_233.out
    have hcz14_0 := zh BK233
    have hcz14_1 := zh1 BK233
    have hfz14_0 := zfr BK233 0
    have hfz14_1 := zfr BK233 1
    go_wp2
    go_meet
    case rel => exact ⟨_, (false), y29, H', ⟨y50⟩, ⟨(y13 NB233_235.out BK233.out)⟩, ⟨(y13 NB234_235.out BK234.out)⟩, ⟨(by (with_reducible repeat (first | refine blk_drewN ?_ _ | refine blk_drew ?_ | refine blk_alloc ?_ _)); refine blk_put (cs := #[.slice none 0 0]) ?_ 0 _ rfl; (with_reducible repeat (first | refine blk_drewN ?_ _ | refine blk_drew ?_ | refine blk_alloc ?_ _)); exact BK235.out)⟩, ⟨(y4 HB.out GE233.out GE234.out GE235.out)⟩⟩
   ·rw [if_neg c11] at H
    have c11b0 : ((l0_1.length : Int) == 0) = false := beq_eq_false_iff_ne.mpr c11
    have c11b1 : ((l0_1.length : Int) != 0) = true := bne_iff_ne.mpr c11
    have c11b2 : ¬ (l0_1 = []) := fun h_ => c11 (by rw [h_]; rfl)
    have H' := Aside0.mk H
    clear H
    have hnb15 := NB233_234.out
    have hnc15 := NB234_233.out
    have hnb16 := NB233_235.out
    have hnc16 := NB235_233.out
    have hcz17_0 := zh BK233
    have hcz17_1 := zh1 BK233
    have hfz17_0 := zfr BK233 0
    have hfz17_1 := zfr BK233 1
    go_wp2
    go_meet
    case rel => exact ⟨_, (((l0_1.length : Int) != 2)), y29, H', ⟨y50⟩, ⟨(y13 NB233_235.out BK233.out)⟩, ⟨(y13 NB234_235.out BK234.out)⟩, ⟨(by (with_reducible repeat (first | refine blk_drewN ?_ _ | refine blk_drew ?_ | refine blk_alloc ?_ _)); refine blk_put (cs := #[.slice none 0 0]) ?_ 0 _ rfl; (with_reducible repeat (first | refine blk_drewN ?_ _ | refine blk_drew ?_ | refine blk_alloc ?_ _)); exact BK235.out)⟩, ⟨(y4 HB.out GE233.out GE234.out GE235.out)⟩⟩
 case rest =>
  clear HC3
  try clear c1
  try clear p2
  try clear c4
  try clear c7
  try clear c8
  try clear c10
  try clear c10b0
  try clear c11
  try clear c11b0
  try clear c11b1
  try clear c11b2
  try clear c12
  try clear c13
  try clear c15
  try clear c16
  try clear hcz14_0
  try clear hcz14_1
  try clear hcz17_0
  try clear hcz17_1
  try clear hcz9_0
  try clear hfz14_0
  try clear hfz14_1
  try clear hfz17_0
  try clear hfz17_1
  try clear hfz9_0
  obtain ⟨kq, x24_2, rfl, HA, HJ2, BK233, BK234, BK235, HB⟩ := hcut
  cases kq with
  | zero => exact absurd HA.out (by simp [spec_l1Of.j0])
  | succ kj2 =>
   have H := HA.out
   clear HA
   simp only [spec_l1Of.j0] at H
   by_cases c18 : x24_2 = true
   ·subst c18
    rw [if_pos rfl] at H
    simp only [Option.some.injEq, Prod.mk.injEq] at H
    obtain ⟨rfl, rfl⟩ := H
    have hnb19 := NB235_233.out
    have hnc19 := NB233_235.out
    have hnb20 := NB235_234.out
    have hnc20 := NB234_235.out
    have hcz21_0 := zh BK235
    have hfz21_0 := zfr BK235 0
    have hnb22 := NB234_233.out
    have hnc22 := NB233_234.out
    have hcz23_0 := zh BK234
    have hfz23_0 := zfr BK234 0
    go_wp2
    refine bodyPost_ret (results_ct rfl _ _ gb234 50 #[.slice none 0 0] (0, 0) _ rfl (by (with_reducible repeat (first | refine blk_drewN ?_ _ | refine blk_drew ?_ | refine blk_alloc ?_ _)); apply blk_put (i := 0); (case h => exact y0 BK234.out); (case e => rfl)) Try.underlying50 rfl (by kernel_rfl)) rfl ?_
    exact ⟨_, y15, y38, (y4 HB.out GE233.out GE234.out GE235.out)⟩
   ·replace c18 := Bool.eq_false_iff.mpr c18
    subst c18
    rw [if_neg (show ¬ (false = true) by decide)] at H
    have H' := Aside0.mk H
    clear H
    go_wp2
    go_loopg [7] kj2 (fun kq v7 w' => ∃ (x7_2 : Int) (x236000_2 : List (S50)) (u236000 : Value), v7 = .int .i64 x7_2 ∧ Aside0 (spec_l1Of.l0 kq a1 x7_2 a0_0 l0_1 x236000_2 = some (r1, r2)) ∧ Aside0 (kq ≤ kj2) ∧ Aside0 (Kd.R k50 50 w' w.heap.size (fun k_ => k_ ≠ gb234 ∧ k_ ≠ gb235) u236000 x236000_2) ∧ Aside0 (w'.heap[gb233]? = some (.cells #[.int .i64 a0_0, (.slice A0_1 l0_1.length c0_1)] 25 (0, 0))) ∧ Aside0 (w'.heap[gb234]? = some (.cells #[(.slice none 0 0)] 50 (0, 0))) ∧ Aside0 (w'.heap[gb235]? = some (.cells #[u236000] 50 (0, 0))) ∧ Aside0 (Below w.heap.size w w'))
    case atStart => exact ⟨(0), (([] : List (S50))), (.slice none 0 0), y29, H', ⟨Nat.le_refl _⟩, ⟨y38⟩, ⟨(y0 BK233.out)⟩, ⟨(y0 BK234.out)⟩, ⟨(y0 BK235.out)⟩, ⟨(y4 HB.out GE233.out GE234.out GE235.out)⟩⟩
    case round =>
     clear H'
     try clear c1
     try clear c2
     try clear p2
     try clear c4
     try clear c7
     try clear c8
     try clear c10
     try clear c10b0
     try clear c11
     try clear c11b0
     try clear c11b1
     try clear c11b2
     try clear c12
     try clear c13
     try clear c15
     try clear c16
     try clear c18
     try clear c19
     try clear c20
     try clear c22
     try clear hcz14_0
     try clear hcz14_1
     try clear hcz17_0
     try clear hcz17_1
     try clear hcz21_0
     try clear hcz23_0
     try clear hcz9_0
     try clear hfz14_0
     try clear hfz14_1
     try clear hfz17_0
     try clear hfz17_1
     try clear hfz21_0
     try clear hfz23_0
     try clear hfz9_0
     try clear p2
     (try clear BK233); (try clear BK234); (try clear BK235)
     obtain ⟨x7_2, x236000_2, u236000, rfl, HA, HK2, HO_236000, BK233, BK234, BK235, HB⟩ := hrel
     cases gk with
     | zero => exact absurd HA.out (by simp [spec_l1Of.l0])
     | succ k2 =>
      have H := HA.out
      clear HA
      simp only [spec_l1Of.l0] at H
      by_cases c24 : x7_2 < (l0_1.length : Int)
      ·rw [if_pos c24] at H
       have c24b0 : decide (x7_2 < (l0_1.length : Int)) = true := decide_eq_true c24
       clear c24
       by_cases c25 : 0 ≤ x7_2
       ·rw [if_pos c25] at H
        have c25b0 : decide (0 ≤ x7_2) = true := decide_eq_true c25
        clear c25
        obtain ⟨⟨t237, t240⟩, A260, H⟩ := ob H
        have A26 := Aside0.mk A260
        clear A260
        by_cases c27 : t240 = true
        ·subst c27
         rw [if_pos rfl] at H
         by_cases c28 : x236000_2.length < 5864062014805
         ·rw [if_pos c28] at H
          have LMc28 := Aside0.mk c28
          clear c28
          obtain ⟨y242, hy242⟩ : ∃ y_ : List (S50), y_ = (x236000_2 ++ [(⟨t237⟩ : S50)]) := ⟨_, rfl⟩
          replace H : (spec_l1Of.l0 k2 a1 (wrap64 (x7_2 + 1)) a0_0 l0_1 y242) = some (r1, r2) := by first | (rw [hy242]; with_reducible exact H) | (have H2_ := (Option.bind_some _ _).symm.trans H; rw [hy242]; with_reducible exact H2_) | (have H2_ := (Option.bind_some _ _).symm.trans H; with_reducible exact H2_) | with_reducible exact H | (rw [hy242]; exact H) | exact H
          have Ny242 := Aside0.mk hy242
          clear hy242
          have H' := Aside0.mk H
          clear H
          have hnb29 := NB233_234.out
          have hnc29 := NB234_233.out
          have hnb30 := NB233_235.out
          have hnc30 := NB235_233.out
          have hcz31_0 := zh BK233
          have hcz31_1 := zh1 BK233
          have hfz31_0 := zfr BK233 0
          have hfz31_1 := zfr BK233 1
          have p236 : 0 ≤ (x7_2 : Int) := of_decide_eq_true y23
          have q236 : x7_2 < (l0_1.length : Int) := of_decide_eq_true y23
          obtain ⟨ad236, A236_1, c236_1, e236, hx236_0, hx236_1, hl236_1, hi236_1⟩ := at_T25 HR0_1.out x7_2 p236 q236
          cases e236
          replace hx236_0 := (HB.out.cell (World.block_lt_of_cell? w _ hx236_0)).trans hx236_0
          replace hx236_1 := (HB.out.cell (World.block_lt_of_cell? w _ hx236_1)).trans hx236_1
          have HR236_1 := Aside0.mk hi236_1
          have HC236_1 := Aside0.mk hl236_1
          clear hi236_1 hl236_1
          replace p236 := eq_true p236
          replace q236 := eq_true q236
          go_wp2_with (first | ((with_reducible refine gate_callee (f := 49) rfl ?_); refine goesL_ (some 41) rfl rfl Try.func49 (by kernel_rfl) rfl #[.agg #[.int .i64 ((rd_T25 l0_1 x7_2).f0), .slice A236_1 ((rd_T25 l0_1 x7_2).f1).length c236_1], .int .i64 (wrap64 (a1 - 1))] rfl y9 ?_; (with_reducible refine (ih k2 (y108 HJ2.out HK2.out) ((rd_T25 l0_1 x7_2).f0) _ _ ((rd_T25 l0_1 x7_2).f1) (wrap64 (a1 - 1)) t237 true _ ?side1 ?side2 A26.out).mono ?_); (case side1 => exact y18 HR236_1.out HB.out); (case side2 => exact HC236_1.out); rintro e w32 ⟨v238, rfl, ho0, hb⟩; refine ⟨_, rfl, ?_⟩; have HO239 := Aside0.mk (Kd.R_lower (Kd.R_newB (Kd.R_newB (Kd.R_new' ho0 (Kd.R_lt (y8 HO_236000.out))) (g := gb234) (o := .cells #[.slice none 0 0] 50 (0, 0)) (y0 BK234.out)) (g := gb235) (o := .cells #[u236000] 50 (0, 0)) (y0 BK235.out)) (below_size (y4 HB.out GE233.out GE234.out GE235.out))); replace HO_236000 := Aside0.mk (Kd.R_elder' (y8 HO_236000.out) (Kd.R_base ho0) hb); replace BK233 := zbb BK233 hb; replace BK234 := zbb BK234 hb; replace BK235 := zbb BK235 hb; replace HB := Aside0.mk (below_step (y4 HB.out GE233.out GE234.out GE235.out) hb); (try clear hb); (try clear hb2); (try clear hk); (try clear hi); (try clear ho0)) | ((with_reducible refine gate_dst (N := 8) rfl ?_); (try (refine gate_guard (by rfl) ?_; dsimp only)); refine zbx 8 #[.slice none 0 0] 50 ?_; intro gb241 hg w33 hbox hb; replace HO_236000 := Aside0.mk (Kd.R_below (Kd.R_elderB (y8 HO_236000.out) gb241 (Nat.le_of_eq hg.symm)) hb); replace HO239 := Aside0.mk (Kd.R_below (Kd.R_elderB (y8 HO239.out) gb241 (Nat.le_of_eq hg.symm)) hb); have BK241 := Aside0.mk hbox; have GW241 := Aside0.mk ((y20 hg HB.out GE233.out GE234.out GE235.out : w.heap.size ≤ gb241)); have GE241 := Aside0.mk ((y20 hg HB.out GE233.out GE234.out GE235.out : w.heap.size ≤ gb241)); replace HB := Aside0.mk (below_step (y4 HB.out GE233.out GE234.out GE235.out) hb); have NB233_241 := zltn hg BK233; have NB241_233 := zgtn hg BK233; replace BK233 := zbb BK233 hb; have NB234_241 := zltn hg BK234; have NB241_234 := zgtn hg BK234; replace BK234 := zbb BK234 hb; have NB235_241 := zltn hg BK235; have NB241_235 := zgtn hg BK235; replace BK235 := zbb BK235 hb; clear hb hbox hg; obtain ⟨Ao34, co34, eo34⟩ := Kd.R_slice HO239.out; subst eo34; have hnb35 := NB241_233.out; have hnc35 := NB233_241.out; have hnb36 := NB241_234.out; have hnc36 := NB234_241.out; have hnb37 := NB241_235.out; have hnc37 := NB235_241.out; have hcz38_0 := zh BK241; have hfz38_0 := zfr BK241 0) | ((with_reducible refine gate_store (t := 50) (p := 8) rfl ?_); refine store_event (t := 50) (p := 8) (v := ?vo_w39) (w1 := (w33.setCell ⟨gb241, 0, none⟩ (.slice Ao34 t237.length co34))) ?hg ?ho ?hn ?hr ?_; (case ho => rfl); (case hg => rfl); (case hn => rfl); (case hr => first | (go_simp; done) | (go_simp; rfl)); intro w39 hw; have n0_ : Aside0 (Kd.R k50 50 w39 w.heap.size (fun k_ => some k_ ≠ (.slice Ao34 t237.length co34 : Value).ownBlock ∧ k_ ≠ gb234 ∧ k_ ≠ gb235 ∧ k_ ≠ gb241) u236000 x236000_2) := ⟨(by rw [hw]; exact (by (with_reducible repeat (first | apply Kd.R_alloc | apply Kd.R_drewN | apply Kd.R_drew)); exact Kd.R_mono (Kd.R_far (p := ⟨gb241, 0, none⟩) (Kd.R_mono HO_236000.out (fun k_ hk => (⟨hk, hk.2⟩ : _ ∧ k_ ≠ gb241))) (fun _ hk => hk.2) (.slice Ao34 t237.length co34)) (fun _ hk => ⟨hk.1.1.2, ⟨hk.1.1.1.1, ⟨hk.1.1.1.2, hk.1.2⟩⟩⟩)))⟩; have n1_ : Aside0 (Kd.R k50 50 w39 w.heap.size (fun k_ => some k_ ≠ (u236000 : Value).ownBlock ∧ k_ ≠ gb234 ∧ k_ ≠ gb235 ∧ k_ ≠ gb241) (.slice Ao34 t237.length co34) t237) := ⟨(by rw [hw]; exact (by (with_reducible repeat (first | apply Kd.R_alloc | apply Kd.R_drewN | apply Kd.R_drew)); exact Kd.R_mono (Kd.R_far (p := ⟨gb241, 0, none⟩) (Kd.R_mono HO239.out (fun k_ hk => (⟨hk, hk.2⟩ : _ ∧ k_ ≠ gb241))) (fun _ hk => hk.2) (.slice Ao34 t237.length co34)) (fun _ hk => ⟨hk.1.1.1.1.2, ⟨hk.1.1.1.2, ⟨hk.1.1.2, hk.1.2⟩⟩⟩)))⟩; have n2_ : Aside0 (w39.heap[gb233]? = some (.cells #[.int .i64 a0_0, .slice (some ad236) l0_1.length c0_1] 25 (0, 0))) := ⟨(by rw [hw]; exact (y13 NB233_241.out BK233.out))⟩; have n3_ : Aside0 (w39.heap[gb234]? = some (.cells #[.slice none 0 0] 50 (0, 0))) := ⟨(by rw [hw]; exact (y13 NB234_241.out BK234.out))⟩; have n4_ : Aside0 (w39.heap[gb235]? = some (.cells #[u236000] 50 (0, 0))) := ⟨(by rw [hw]; exact (y13 NB235_241.out BK235.out))⟩; have n5_ : Aside0 (w39.heap[gb241]? = some (.cells #[.slice Ao34 t237.length co34] 50 (0, 0))) := ⟨(by rw [hw]; exact (by (with_reducible repeat (first | refine blk_drewN ?_ _ | refine blk_drew ?_ | refine blk_alloc ?_ _)); apply blk_put (i := 0); (case h => exact y0 BK241.out); (case e => rfl)))⟩; have n6_ : Aside0 (Below w.heap.size w w39) := ⟨(by rw [hw]; exact (y5 HB.out GE233.out GE234.out GE235.out GE241.out))⟩; clear hw; clear HO_236000; clear HO239; clear BK233; clear BK234; clear BK235; clear BK241; clear HB; have HO_236000 := n0_; have HO239 := n1_; have BK233 := n2_; have BK234 := n3_; have BK235 := n4_; have BK241 := n5_; have HB := n6_; clear n0_ n1_ n2_ n3_ n4_ n5_ n6_; have hnb40 := NB235_234.out; have hnc40 := NB234_235.out; have hcz41_0 := zh BK235; have hfz41_0 := zfr BK235 0; have hcz42_0 := zh BK241; have hfz42_0 := zfr BK241 0) | ((with_reducible refine gate_builtin (b := .append) (xs := #[.tmp 48, .tmp 50]) rfl ?_); (try (refine gate_guard (by rfl) ?_; dsimp only)); at_builtin; refine Kd.R_append k50 (w0 := w) w.heap.size rfl (.tmp 48) (.tmp 50) 48 50 (.agg #[(.slice none 0 0)]) 24 rfl Try.underlying48 info50 rfl (by decide) (by omega) u236000 x236000_2 (⟨t237⟩ : S50) [.slice Ao34 t237.length co34] (fun k_ => k_ ≠ gb234 ∧ k_ ≠ gb235 ∧ k_ ≠ gb241) (fun k_ => ((fun k_ => k_ ≠ gb234 ∧ k_ ≠ gb235 ∧ k_ ≠ gb241)) k_ ∧ some k_ ≠ (u236000 : Value).ownBlock) rfl rfl ?aP (fun _ hk => hk) ?aF ?aO ?aB ?aS ?aL ?_; (case aP => exact k50_mkM _ _ _ (⟨t237⟩ : S50) (Kd.R_mono (HO239.out) (fun k_ hk => ⟨⟨hk.2.1, ⟨hk.2.2.1, hk.2.2.2⟩⟩, hk.1⟩))); (case aB => exact y52 HB.out GE233.out GE234.out GE235.out GE241.out); (case aF => exact (fun k_ hk => ⟨Kd.freshB (g := gb234) (o := .cells #[.slice none 0 0] 50 (0, 0)) (y0 BK234.out) k_ hk, Kd.freshB (g := gb235) (o := .cells #[u236000] 50 (0, 0)) (y0 BK235.out) k_ hk, Kd.freshB (g := gb241) (o := .cells #[.slice Ao34 t237.length co34] 50 (0, 0)) (y0 BK241.out) k_ hk⟩)); (case aO => exact (by (with_reducible repeat (first | apply Kd.R_alloc | apply Kd.R_drewN | apply Kd.R_drew)); exact Kd.R_mono HO_236000.out (fun _ hk => ⟨hk.2.1, ⟨hk.2.2.1, hk.2.2.2⟩⟩))); (case aS => exact y51 HB.out GE233.out GE234.out GE235.out GE241.out); (case aL => exact y69 LMc28.out); intro v243 w43 ho hb hg hat; rw [← Ny242.out] at ho; replace BK233 := Aside0.mk (blk_grown (g := gb233) (o := .cells #[.int .i64 a0_0, .slice (some ad236) l0_1.length c0_1] 25 (0, 0)) (y0 BK233.out) hg (Kd.R_ne HO_236000.out BK233.out (by decide))); replace BK234 := Aside0.mk (blk_grown (g := gb234) (o := .cells #[.slice none 0 0] 50 (0, 0)) (y0 BK234.out) hg (Kd.R_away HO_236000.out (fun _ hk => hk.2.1))); replace BK235 := Aside0.mk (blk_grown (g := gb235) (o := .cells #[u236000] 50 (0, 0)) (y0 BK235.out) hg (Kd.R_away HO_236000.out (fun _ hk => hk.2.2.1))); replace BK241 := Aside0.mk (blk_grown (g := gb241) (o := .cells #[.slice Ao34 t237.length co34] 50 (0, 0)) (y0 BK241.out) hg (Kd.R_away HO_236000.out (fun _ hk => hk.2.2.2))); replace HB := Aside0.mk (hb); have HO244 := Aside0.mk (ho); clear HO239 HO_236000; clear ho hb hg hat; obtain ⟨Ao44, co44, eo44⟩ := Kd.R_slice HO244.out; subst eo44; have hcz45_0 := zh BK235; have hfz45_0 := zfr BK235 0))
          go_roundg k2
          case measure => have := HJ2.out; have := HK2.out; omega
          case rel => exact ⟨(wrap64 (x7_2 + 1)), (y242), (.slice Ao44 y242.length co44), y29, H', ⟨(y108 HJ2.out HK2.out)⟩, ⟨(by (with_reducible repeat (first | apply Kd.R_alloc | apply Kd.R_drewN | apply Kd.R_drew)); exact Kd.R_mono (Kd.R_far (p := ⟨gb235, 0, none⟩) (Kd.R_mono HO244.out (fun k_ hk => (⟨hk, hk.2.1⟩ : _ ∧ k_ ≠ gb235))) (fun _ hk => hk.2) (.slice Ao44 y242.length co44)) (fun _ hk => ⟨hk.1.1, hk.1.2.1⟩))⟩, ⟨(y13 NB233_235.out BK233.out)⟩, ⟨(y13 NB234_235.out BK234.out)⟩, ⟨(by (with_reducible repeat (first | refine blk_drewN ?_ _ | refine blk_drew ?_ | refine blk_alloc ?_ _)); refine blk_put (cs := #[u236000]) ?_ 0 _ rfl; (with_reducible repeat (first | refine blk_drewN ?_ _ | refine blk_drew ?_ | refine blk_alloc ?_ _)); exact BK235.out)⟩, ⟨(y5 HB.out GE233.out GE234.out GE235.out GE241.out)⟩⟩
         ·rw [if_neg c28] at H
          exact absurd H (by simp)
        ·replace c27 := Bool.eq_false_iff.mpr c27
         subst c27
         rw [if_neg (show ¬ (false = true) by decide)] at H
         simp only [Option.some.injEq, Prod.mk.injEq] at H
         obtain ⟨rfl, rfl⟩ := H
         have hnb46 := NB233_234.out
         have hnc46 := NB234_233.out
         have hnb47 := NB233_235.out
         have hnc47 := NB235_233.out
         have hcz48_0 := zh BK233
         have hcz48_1 := zh1 BK233
         have hfz48_0 := zfr BK233 0
         have hfz48_1 := zfr BK233 1
         have p236 : 0 ≤ (x7_2 : Int) := of_decide_eq_true y23
         have q236 : x7_2 < (l0_1.length : Int) := of_decide_eq_true y23
         obtain ⟨ad236, A236_1, c236_1, e236, hx236_0, hx236_1, hl236_1, hi236_1⟩ := at_T25 HR0_1.out x7_2 p236 q236
         cases e236
         replace hx236_0 := (HB.out.cell (World.block_lt_of_cell? w _ hx236_0)).trans hx236_0
         replace hx236_1 := (HB.out.cell (World.block_lt_of_cell? w _ hx236_1)).trans hx236_1
         have HR236_1 := Aside0.mk hi236_1
         have HC236_1 := Aside0.mk hl236_1
         clear hi236_1 hl236_1
         replace p236 := eq_true p236
         replace q236 := eq_true q236
         go_wp2_with (first | ((with_reducible refine gate_callee (f := 49) rfl ?_); refine goesL_ (some 41) rfl rfl Try.func49 (by kernel_rfl) rfl #[.agg #[.int .i64 ((rd_T25 l0_1 x7_2).f0), .slice A236_1 ((rd_T25 l0_1 x7_2).f1).length c236_1], .int .i64 (wrap64 (a1 - 1))] rfl y9 ?_; (with_reducible refine (ih k2 (y108 HJ2.out HK2.out) ((rd_T25 l0_1 x7_2).f0) _ _ ((rd_T25 l0_1 x7_2).f1) (wrap64 (a1 - 1)) t237 false _ ?side1 ?side2 A26.out).mono ?_); (case side1 => exact y18 HR236_1.out HB.out); (case side2 => exact HC236_1.out); rintro e w49 ⟨v238, rfl, ho0, hb⟩; refine ⟨_, rfl, ?_⟩; have HO239 := Aside0.mk (Kd.R_lower (Kd.R_newB (Kd.R_newB (Kd.R_new' ho0 (Kd.R_lt (y8 HO_236000.out))) (g := gb234) (o := .cells #[.slice none 0 0] 50 (0, 0)) (y0 BK234.out)) (g := gb235) (o := .cells #[u236000] 50 (0, 0)) (y0 BK235.out)) (below_size (y4 HB.out GE233.out GE234.out GE235.out))); replace HO_236000 := Aside0.mk (Kd.R_elder' (y8 HO_236000.out) (Kd.R_base ho0) hb); replace BK233 := zbb BK233 hb; replace BK234 := zbb BK234 hb; replace BK235 := zbb BK235 hb; replace HB := Aside0.mk (below_step (y4 HB.out GE233.out GE234.out GE235.out) hb); (try clear hb); (try clear hb2); (try clear hk); (try clear hi); (try clear ho0)) | ((with_reducible refine gate_dst (N := 8) rfl ?_); (try (refine gate_guard (by rfl) ?_; dsimp only)); refine zbx 8 #[.slice none 0 0] 50 ?_; intro gb241 hg w50 hbox hb; replace HO_236000 := Aside0.mk (Kd.R_below (Kd.R_elderB (y8 HO_236000.out) gb241 (Nat.le_of_eq hg.symm)) hb); replace HO239 := Aside0.mk (Kd.R_below (Kd.R_elderB (y8 HO239.out) gb241 (Nat.le_of_eq hg.symm)) hb); have BK241 := Aside0.mk hbox; have GW241 := Aside0.mk ((y20 hg HB.out GE233.out GE234.out GE235.out : w.heap.size ≤ gb241)); have GE241 := Aside0.mk ((y20 hg HB.out GE233.out GE234.out GE235.out : w.heap.size ≤ gb241)); replace HB := Aside0.mk (below_step (y4 HB.out GE233.out GE234.out GE235.out) hb); have NB233_241 := zltn hg BK233; have NB241_233 := zgtn hg BK233; replace BK233 := zbb BK233 hb; have NB234_241 := zltn hg BK234; have NB241_234 := zgtn hg BK234; replace BK234 := zbb BK234 hb; have NB235_241 := zltn hg BK235; have NB241_235 := zgtn hg BK235; replace BK235 := zbb BK235 hb; clear hb hbox hg; obtain ⟨Ao51, co51, eo51⟩ := Kd.R_slice HO239.out; subst eo51; have hnb52 := NB241_233.out; have hnc52 := NB233_241.out; have hnb53 := NB241_234.out; have hnc53 := NB234_241.out; have hnb54 := NB241_235.out; have hnc54 := NB235_241.out; have hcz55_0 := zh BK241; have hfz55_0 := zfr BK241 0; have hnb56 := NB235_234.out; have hnc56 := NB234_235.out; have hcz57_0 := zh BK235; have hfz57_0 := zfr BK235 0; obtain ⟨Ao58, co58, eo58⟩ := Kd.R_slice HO_236000.out; subst eo58; have hcz59_0 := zh BK234; have hfz59_0 := zfr BK234 0))
         refine bodyPost_ret (results_ct rfl _ _ gb234 50 #[.slice Ao58 x236000_2.length co58] (0, 0) _ rfl (by (with_reducible repeat (first | refine blk_drewN ?_ _ | refine blk_drew ?_ | refine blk_alloc ?_ _)); refine blk_put (cs := #[.slice none 0 0]) ?_ 0 _ rfl; (with_reducible repeat (first | refine blk_drewN ?_ _ | refine blk_drew ?_ | refine blk_alloc ?_ _)); refine blk_far ?_ NB234_241.out _; (with_reducible repeat (first | refine blk_drewN ?_ _ | refine blk_drew ?_ | refine blk_alloc ?_ _)); exact BK234.out) Try.underlying50 rfl (by kernel_rfl)) rfl ?_
         exact ⟨_, y15, (by (with_reducible repeat (first | apply Kd.R_alloc | apply Kd.R_drewN | apply Kd.R_drew)); exact Kd.R_mono (Kd.R_far (p := ⟨gb234, 0, none⟩) (Kd.R_far (p := ⟨gb241, 0, none⟩) (Kd.R_mono (Kd.R_mono HO_236000.out (fun k_ hk => (⟨hk, hk.2⟩ : _ ∧ k_ ≠ gb241))) (fun k_ hk => (⟨hk, hk.1.1.1.1⟩ : _ ∧ k_ ≠ gb234))) (fun _ hk => hk.1.2) (.slice Ao51 t237.length co51)) (fun _ hk => hk.2) (.slice Ao58 x236000_2.length co58)) (fun _ hk => trivial)), (y5 HB.out GE233.out GE234.out GE235.out GE241.out)⟩
       ·rw [if_neg c25] at H
        exact absurd H (by simp)
      ·rw [if_neg c24] at H
       have c24b0 : decide (x7_2 < (l0_1.length : Int)) = false := decide_eq_false c24
       clear c24
       simp only [Option.some.injEq, Prod.mk.injEq] at H
       obtain ⟨rfl, rfl⟩ := H
       have hnb60 := NB233_234.out
       have hnc60 := NB234_233.out
       have hnb61 := NB233_235.out
       have hnc61 := NB235_233.out
       have hcz62_0 := zh BK233
       have hcz62_1 := zh1 BK233
       have hfz62_0 := zfr BK233 0
       have hfz62_1 := zfr BK233 1
       have hnb63 := NB235_234.out
       have hnc63 := NB234_235.out
       have hcz64_0 := zh BK235
       have hfz64_0 := zfr BK235 0
       obtain ⟨Ao65, co65, eo65⟩ := Kd.R_slice HO_236000.out
       subst eo65
       have hcz66_0 := zh BK234
       have hfz66_0 := zfr BK234 0
       go_wp2
       refine bodyPost_ret (results_ct rfl _ _ gb234 50 #[.slice Ao65 x236000_2.length co65] (0, 0) _ rfl (by (with_reducible repeat (first | refine blk_drewN ?_ _ | refine blk_drew ?_ | refine blk_alloc ?_ _)); apply blk_put (i := 0); (case h => exact y0 BK234.out); (case e => rfl)) Try.underlying50 rfl (by kernel_rfl)) rfl ?_
       exact ⟨_, y15, (by (with_reducible repeat (first | apply Kd.R_alloc | apply Kd.R_drewN | apply Kd.R_drew)); exact Kd.R_mono (Kd.R_far (p := ⟨gb234, 0, none⟩) (Kd.R_mono HO_236000.out (fun k_ hk => (⟨hk, hk.1⟩ : _ ∧ k_ ≠ gb234))) (fun _ hk => hk.2) (.slice Ao65 x236000_2.length co65)) (fun _ hk => trivial)), (y4 HB.out GE233.out GE234.out GE235.out)⟩
end Go.Proofs.Ythfflieeifakdaa.PA
end
section
namespace Go.Proofs.Ythfflieeifakdaa.PA
open Go.RowKit Go.Proofs.YthfflieeifakdaaW.PrintWords Go.Proofs.YthfflieeifakdaaW.PrintLast Go.Proofs.YthfflieeifakdaaW.PrintMore
attribute [local go_sem] max2_int min2_int max_two min_two max_three min_three max_four min_four
set_option linter.unusedVariables false
set_option linter.unusedSimpArgs false
def spec_l1Any.f (k : Nat) (a0_0 : Int) (l0_1 : List (S25)) : Option (Bool) := (spec_l1Of.f k a0_0 l0_1 4).bind fun bt246 => (if bt246.2 = true then ((spec_ValOk.f k bt246.1 a0_0 l0_1).bind fun t251 => (some t251)) else (some false))
theorem spec_l1Any.mono : ∀ a0 a1 k, LeO (spec_l1Any.f k a0 a1) (spec_l1Any.f (k + 1) a0 a1) := by
 intro a0 a1 k
 unfold spec_l1Any.f
 repeat' first
   | (with_reducible exact spec_ValOk.mono _ _ _ _)
   | (with_reducible exact spec_l1Of.mono _ _ _ _)
   | (with_reducible exact LeO.refl _)
   | (with_reducible exact LeO.none _)
   | (with_reducible refine LeO.ite ?_ ?_)
   | (with_reducible refine LeO.bind ?_ (fun _ => ?_))
   | exact spec_ValOk.mono _ _ _ _
   | exact spec_l1Of.mono _ _ _ _
   | exact LeO.none _
   | refine LeO.ite ?_ ?_
   | refine LeO.bind ?_ (fun _ => ?_)
set_option maxHeartbeats 8000000 in
set_option maxRecDepth 100000 in
theorem spec_l1Any.calls (k : Nat) (a0_0 : Int) (A0_1 : Option Addr) (c0_1 : Nat) (l0_1 : List (S25)) (r : Bool) (w : World) (hr0_1 : Kd.C k25 w A0_1 l0_1.length l0_1) (hc0_1 : l0_1.length ≤ c0_1) (h : spec_l1Any.f k a0_0 l0_1 = some r) :
  Calls Try.prog 35 #[.agg #[.int .i64 a0_0, .slice A0_1 l0_1.length c0_1]] w fun e w' => e = .returned (.bool r) ∧ Below w.heap.size w w' := by
 have hu25 := Try.underlying25
 have hu50 := Try.underlying50
 have HR0_1 := Aside0.mk hr0_1
 have HC0_1 := Aside0.mk hc0_1
 clear hr0_1 hc0_1
 have HB := Aside0.mk (Below.refl w.heap.size w)
 have H : ((spec_l1Of.f k a0_0 l0_1 4).bind fun bt246 => (if bt246.2 = true then ((spec_ValOk.f k bt246.1 a0_0 l0_1).bind fun t251 => (some t251)) else (some false))) = some r := h
 clear h
 obtain ⟨⟨t246, t249⟩, A20, H⟩ := ob H
 have A2 := Aside0.mk A20
 clear A20
 by_cases c3 : t249 = true
 ·subst c3
  rw [if_pos rfl] at H
  obtain ⟨t251, A40, H⟩ := ob H
  have A4 := Aside0.mk A40
  clear A40
  obtain rfl := Option.some.inj H
  go_enter Try.func35, Try.ntmps35
  go_wp2_with (first | ((with_reducible refine gate_dst (N := 1) rfl ?_); refine zbx 1 #[.int .i64 a0_0, .slice A0_1 l0_1.length c0_1] 25 ?_; intro gb245 hg w5 hbox hb; have BK245 := Aside0.mk hbox; have GW245 := Aside0.mk ((y10 hg HB.out : w.heap.size ≤ gb245)); have GE245 := Aside0.mk ((y10 hg HB.out : w.heap.size ≤ gb245)); replace HB := Aside0.mk (below_step (y6 HB.out) hb); clear hb hbox hg; have hcz6_0 := zh BK245; have hcz6_1 := zh1 BK245; have hfz6_0 := zfr BK245 0; have hfz6_1 := zfr BK245 1) | ((with_reducible refine gate_callee (f := 49) rfl ?_); refine goesL_ (some 7) rfl rfl Try.func49 (by kernel_rfl) rfl #[.agg #[.int .i64 a0_0, .slice A0_1 l0_1.length c0_1], .int .i64 4] rfl y9 ?_; (with_reducible refine (spec_l1Of.calls k a0_0 _ _ l0_1 4 t246 true _ ?side1 ?side2 A2.out).mono ?_); (case side1 => exact y18 HR0_1.out HB.out); (case side2 => exact HC0_1.out); rintro e w7 ⟨v247, rfl, ho0, hb⟩; refine ⟨_, rfl, ?_⟩; have HO248 := Aside0.mk (Kd.R_lower ho0 (below_size (y7 HB.out GE245.out))); replace BK245 := zbb BK245 hb; replace HB := Aside0.mk (below_step (y7 HB.out GE245.out) hb); (try clear hb); (try clear hb2); (try clear hk); (try clear hi); (try clear ho0)) | ((with_reducible refine gate_dst (N := 3) rfl ?_); refine zbx 3 #[.slice none 0 0] 50 ?_; intro gb250 hg w8 hbox hb; replace HO248 := Aside0.mk (Kd.R_below (Kd.R_elderB (y8 HO248.out) gb250 (Nat.le_of_eq hg.symm)) hb); have BK250 := Aside0.mk hbox; have GW250 := Aside0.mk ((y12 hg HB.out GE245.out : w.heap.size ≤ gb250)); have GE250 := Aside0.mk ((y12 hg HB.out GE245.out : w.heap.size ≤ gb250)); replace HB := Aside0.mk (below_step (y7 HB.out GE245.out) hb); have NB245_250 := zltn hg BK245; have NB250_245 := zgtn hg BK245; replace BK245 := zbb BK245 hb; clear hb hbox hg; obtain ⟨Ao9, co9, eo9⟩ := Kd.R_slice HO248.out; subst eo9; have hnb10 := NB250_245.out; have hnc10 := NB245_250.out; have hcz11_0 := zh BK250; have hfz11_0 := zfr BK250 0; have hcz12_0 := zh BK245; have hcz12_1 := zh1 BK245; have hfz12_0 := zfr BK245 0; have hfz12_1 := zfr BK245 1) | (go_at_call 29; (with_reducible refine (spec_ValOk.calls k _ _ t246 a0_0 _ _ l0_1 t251 _ ?side1 ?side2 ?side3 ?side4 A4.out).mono ?_); (case side1 => refine (Kd.R_reads' (e := 50) (base := w.heap.size) (ok := fun k_ => (True ∧ k_ ≠ gb250)) (n := t246.length) (c := co9) ?_).2.2; exact (by (with_reducible repeat (first | apply Kd.R_alloc | apply Kd.R_drewN | apply Kd.R_drew)); exact (Kd.R_mono (Kd.R_far (p := ⟨gb250, 0, none⟩) (Kd.R_mono HO248.out (fun k_ hk => (⟨hk, hk.2⟩ : _ ∧ k_ ≠ gb250))) (fun _ hk => hk.2) (.slice Ao9 t246.length co9)) (fun _ h_ => h_.1)))); (case side2 => exact (Kd.R_reads' HO248.out).2.1); (case side3 => exact y92 HR0_1.out HB.out GE245.out GE250.out); (case side4 => exact HC0_1.out); rintro e w13 ⟨rfl, hb⟩; replace HO248 := Aside0.mk (Kd.R_below (by (with_reducible repeat (first | apply Kd.R_alloc | apply Kd.R_drewN | apply Kd.R_drew)); exact (Kd.R_mono (Kd.R_far (p := ⟨gb250, 0, none⟩) (Kd.R_mono HO248.out (fun k_ hk => (⟨hk, hk.2⟩ : _ ∧ k_ ≠ gb250))) (fun _ hk => hk.2) (.slice Ao9 t246.length co9)) (fun _ h_ => h_.1))) hb); replace BK245 := zbf BK245 NB245_250 hb; replace BK250 := Aside0.mk (blk_below (g := gb250) (o := .cells #[.slice Ao9 t246.length co9] 50 (0, 0)) (by (with_reducible repeat (first | refine blk_drewN ?_ _ | refine blk_drew ?_ | refine blk_alloc ?_ _)); apply blk_put (i := 0); (case h => exact y0 BK250.out); (case e => rfl)) hb); replace HB := Aside0.mk (below_step (y3 HB.out GE245.out GE250.out) hb); (try clear hb); (try clear hb2); (try clear hk); (try clear hi)))
  go_ret
  exact ⟨y15, (y3 HB.out GE245.out GE250.out)⟩
 ·replace c3 := Bool.eq_false_iff.mpr c3
  subst c3
  rw [if_neg (show ¬ (false = true) by decide)] at H
  obtain rfl := Option.some.inj H
  go_enter Try.func35, Try.ntmps35
  go_wp2_with (first | ((with_reducible refine gate_dst (N := 1) rfl ?_); refine zbx 1 #[.int .i64 a0_0, .slice A0_1 l0_1.length c0_1] 25 ?_; intro gb245 hg w14 hbox hb; have BK245 := Aside0.mk hbox; have GW245 := Aside0.mk ((y10 hg HB.out : w.heap.size ≤ gb245)); have GE245 := Aside0.mk ((y10 hg HB.out : w.heap.size ≤ gb245)); replace HB := Aside0.mk (below_step (y6 HB.out) hb); clear hb hbox hg; have hcz15_0 := zh BK245; have hcz15_1 := zh1 BK245; have hfz15_0 := zfr BK245 0; have hfz15_1 := zfr BK245 1) | ((with_reducible refine gate_callee (f := 49) rfl ?_); refine goesL_ (some 7) rfl rfl Try.func49 (by kernel_rfl) rfl #[.agg #[.int .i64 a0_0, .slice A0_1 l0_1.length c0_1], .int .i64 4] rfl y9 ?_; (with_reducible refine (spec_l1Of.calls k a0_0 _ _ l0_1 4 t246 false _ ?side1 ?side2 A2.out).mono ?_); (case side1 => exact y18 HR0_1.out HB.out); (case side2 => exact HC0_1.out); rintro e w16 ⟨v247, rfl, ho0, hb⟩; refine ⟨_, rfl, ?_⟩; have HO248 := Aside0.mk (Kd.R_lower ho0 (below_size (y7 HB.out GE245.out))); replace BK245 := zbb BK245 hb; replace HB := Aside0.mk (below_step (y7 HB.out GE245.out) hb); (try clear hb); (try clear hb2); (try clear hk); (try clear hi); (try clear ho0)) | ((with_reducible refine gate_dst (N := 3) rfl ?_); refine zbx 3 #[.slice none 0 0] 50 ?_; intro gb250 hg w17 hbox hb; replace HO248 := Aside0.mk (Kd.R_below (Kd.R_elderB (y8 HO248.out) gb250 (Nat.le_of_eq hg.symm)) hb); have BK250 := Aside0.mk hbox; have GW250 := Aside0.mk ((y12 hg HB.out GE245.out : w.heap.size ≤ gb250)); have GE250 := Aside0.mk ((y12 hg HB.out GE245.out : w.heap.size ≤ gb250)); replace HB := Aside0.mk (below_step (y7 HB.out GE245.out) hb); have NB245_250 := zltn hg BK245; have NB250_245 := zgtn hg BK245; replace BK245 := zbb BK245 hb; clear hb hbox hg; obtain ⟨Ao18, co18, eo18⟩ := Kd.R_slice HO248.out; subst eo18; have hnb19 := NB250_245.out; have hnc19 := NB245_250.out; have hcz20_0 := zh BK250; have hfz20_0 := zfr BK250 0))
  go_ret
  exact ⟨y15, (y3 HB.out GE245.out GE250.out)⟩
end Go.Proofs.Ythfflieeifakdaa.PA
end
section
namespace Go.Proofs.Ythfflieeifakdaa.PA
open Go.RowKit Go.Proofs.YthfflieeifakdaaW.PrintWords Go.Proofs.YthfflieeifakdaaW.PrintLast Go.Proofs.YthfflieeifakdaaW.PrintMore
attribute [local go_sem] max2_int min2_int max_two min_two max_three min_three max_four min_four
set_option linter.unusedVariables false
set_option linter.unusedSimpArgs false
mutual
def spec_l1Anew.l0 : Nat → Int → Int → List (S25) → Int → List (S25) → Option (Int × (List (S25)))
 | 0, _, _, _, _, _ => none
 | k + 1, x4, x253000, x253001, x255000, x255001 => if x4 < (x253001.length : Int) then (if 0 ≤ x4 then ((spec_l1Anew.f k ((rd_T25 x253001 x4).f0) ((rd_T25 x253001 x4).f1)).bind fun bt256 => (if x255001.length < 4398046511104 then (spec_l1Anew.l0 k (wrap64 (x4 + 1)) x253000 x253001 x255000 (x255001 ++ [(⟨bt256.1, bt256.2⟩ : S25)])) else (none))) else (none)) else (some (x255000, x255001))
def spec_l1Anew.f : Nat → Int → List (S25) → Option (Int × (List (S25)))
 | 0, _, _ => none
 | k + 1, a0_0, l0_1 => spec_l1Anew.l0 k 0 a0_0 l0_1 a0_0 ([] : List (S25))
end
theorem spec_l1Anew.mono_l : ∀ k, (∀ y0 y1, LeO (spec_l1Anew.f k y0 y1) (spec_l1Anew.f (k + 1) y0 y1)) ∧ (∀ y0 y1 y2 y3 y4, LeO (spec_l1Anew.l0 k y0 y1 y2 y3 y4) (spec_l1Anew.l0 (k + 1) y0 y1 y2 y3 y4))
 | 0 => ⟨fun _ _ r h => by simp [spec_l1Anew.f] at h, fun _ _ _ _ _ r h => by simp [spec_l1Anew.l0] at h⟩
 | k + 1 => by
  obtain ⟨ih0, ih1⟩ := spec_l1Anew.mono_l k
  refine ⟨?_, ?_⟩
  ·intro y0 y1
   unfold spec_l1Anew.f
   repeat' first
   | (with_reducible exact ih0 _ _)
   | (with_reducible exact ih1 _ _ _ _ _)
   | (with_reducible exact LeO.refl _)
   | (with_reducible exact LeO.none _)
   | (with_reducible refine LeO.ite ?_ ?_)
   | (with_reducible refine LeO.bind ?_ (fun _ => ?_))
   | exact ih0 _ _
   | exact ih1 _ _ _ _ _
   | exact LeO.none _
   | refine LeO.ite ?_ ?_
   | refine LeO.bind ?_ (fun _ => ?_)
  ·intro y0 y1 y2 y3 y4
   unfold spec_l1Anew.l0
   repeat' first
   | (with_reducible exact ih0 _ _)
   | (with_reducible exact ih1 _ _ _ _ _)
   | (with_reducible exact LeO.refl _)
   | (with_reducible exact LeO.none _)
   | (with_reducible refine LeO.ite ?_ ?_)
   | (with_reducible refine LeO.bind ?_ (fun _ => ?_))
   | exact ih0 _ _
   | exact ih1 _ _ _ _ _
   | exact LeO.none _
   | refine LeO.ite ?_ ?_
   | refine LeO.bind ?_ (fun _ => ?_)
theorem spec_l1Anew.mono : ∀ a0 a1 k, LeO (spec_l1Anew.f k a0 a1) (spec_l1Anew.f (k + 1) a0 a1) := by
 intro a0 a1 k
 obtain ⟨ih0, ih1⟩ := spec_l1Anew.mono_l k
 exact ih0 a0 a1
def spec_l1Anew.T5 : Bool × List (List Nat × List Nat) := (true, [([], []), ([0], [0]), ([], []), ([2], [2]), ([], []), ([3, 4], [3, 4]), ([5], [5]), ([6], [6]), ([7], [7]), ([1, 8, 7], [1, 8]), ([0, 1, 2, 3, 4, 5, 6, 7, 8, 9], []), ([10, 9, 9, 0, 1, 2, 3, 4, 5, 6, 7, 8, 9], [9, 10])])
def spec_l1Anew.B5 : List Nat := [0, 1, 0, 4, 0, 28, 60, 124, 252, 511, 1023, 2047]
theorem spec_l1Anew.tab5 : rtab .any (opsOf Try.f37 5) = spec_l1Anew.T5 := by kernel_rfl
theorem spec_l1Anew.bits5 : waitsOk spec_l1Anew.T5.2 spec_l1Anew.B5 = true := by kernel_rfl
set_option maxHeartbeats 8000000 in
set_option maxRecDepth 100000 in
theorem spec_l1Anew.calls (k : Nat) : ∀ (a0_0 : Int) (A0_1 : Option Addr) (c0_1 : Nat) (l0_1 : List (S25)) (r1 : Int) (r2 : List (S25)) (w : World) (hr0_1 : Kd.C k25 w A0_1 l0_1.length l0_1) (hc0_1 : l0_1.length ≤ c0_1) (h : spec_l1Anew.f k a0_0 l0_1 = some (r1, r2)),
  Calls Try.prog 37 #[.agg #[.int .i64 a0_0, .slice A0_1 l0_1.length c0_1]] w fun e w' => ∃ v1_ : Value, e = .returned (.agg #[.int .i64 r1, v1_]) ∧ Kd.R k25 25 w' w.heap.size (fun _ => True) v1_ r2 ∧ Below w.heap.size w w' := by
 induction k using Nat.strongRecOn with
 | _ k ih =>
 intro a0_0 A0_1 c0_1 l0_1 r1 r2 w hr0_1 hc0_1 h
 cases k with
 | zero => exact absurd h (by simp [spec_l1Anew.f])
 | succ k =>
 simp only [spec_l1Anew.f] at h
 have hu25 := Try.underlying25
 have HR0_1 := Aside0.mk hr0_1
 have HC0_1 := Aside0.mk hc0_1
 clear hr0_1 hc0_1
 have HB := Aside0.mk (Below.refl w.heap.size w)
 have H : (spec_l1Anew.l0 k 0 a0_0 l0_1 a0_0 ([] : List (S25))) = some (r1, r2) := h
 clear h
 have H' := Aside0.mk H
 clear H
 go_enter Try.func37, Try.ntmps37
 go_wp2_with (first | ((with_reducible refine gate_dst (N := 1) rfl ?_); refine zbx 1 #[.int .i64 a0_0, .slice A0_1 l0_1.length c0_1] 25 ?_; intro gb252 hg w2 hbox hb; have BK252 := Aside0.mk hbox; have GW252 := Aside0.mk ((y10 hg HB.out : w.heap.size ≤ gb252)); have GE252 := Aside0.mk ((y10 hg HB.out : w.heap.size ≤ gb252)); replace HB := Aside0.mk (below_step (y6 HB.out) hb); clear hb hbox hg) | ((with_reducible refine gate_dst (N := 2) rfl ?_); refine zbx 2 #[.int .i64 0, .slice none 0 0] 25 ?_; intro gb253 hg w3 hbox hb; have BK253 := Aside0.mk hbox; have GW253 := Aside0.mk ((y12 hg HB.out GE252.out : w.heap.size ≤ gb253)); have GE253 := Aside0.mk ((y12 hg HB.out GE252.out : w.heap.size ≤ gb253)); replace HB := Aside0.mk (below_step (y7 HB.out GE252.out) hb); have NB252_253 := zltn hg BK252; have NB253_252 := zgtn hg BK252; replace BK252 := zbb BK252 hb; clear hb hbox hg; have hnb4 := NB252_253.out; have hnc4 := NB253_252.out; have hcz5_0 := zh BK252; have hcz5_1 := zh1 BK252; have hfz5_0 := zfr BK252 0; have hfz5_1 := zfr BK252 1) | ((with_reducible refine gate_dst (N := 3) rfl ?_); refine zbx 3 #[.int .i64 0, .slice none 0 0] 25 ?_; intro gb254 hg w6 hbox hb; have BK254 := Aside0.mk hbox; have GW254 := Aside0.mk ((y16 hg HB.out GE252.out GE253.out : w.heap.size ≤ gb254)); have GE254 := Aside0.mk ((y16 hg HB.out GE252.out GE253.out : w.heap.size ≤ gb254)); replace HB := Aside0.mk (below_step (y3 HB.out GE252.out GE253.out) hb); have NB252_254 := zltn hg BK252; have NB254_252 := zgtn hg BK252; replace BK252 := zbb BK252 hb; have NB253_254 := zltn hg BK253; have NB254_253 := zgtn hg BK253; replace BK253 := zbb BK253 hb; clear hb hbox hg; have hnb7 := NB254_252.out; have hnc7 := NB252_254.out; have hnb8 := NB254_253.out; have hnc8 := NB253_254.out; have hcz9_0 := zh BK254; have hcz9_1 := zh1 BK254; have hfz9_0 := zfr BK254 0; have hfz9_1 := zfr BK254 1))
 go_loopg [4] k (fun kq v4 w' => ∃ (x4_1 : Int) (x255001_1 : List (S25)) (u255001 : Value), v4 = .int .i64 x4_1 ∧ Aside0 (spec_l1Anew.l0 kq x4_1 a0_0 l0_1 a0_0 x255001_1 = some (r1, r2)) ∧ Aside0 (kq ≤ k) ∧ Aside0 (Kd.R k25 25 w' w.heap.size (fun k_ => k_ ≠ gb252 ∧ k_ ≠ gb253 ∧ k_ ≠ gb254) u255001 x255001_1) ∧ Aside0 (w'.heap[gb252]? = some (.cells #[.int .i64 a0_0, (.slice A0_1 l0_1.length c0_1)] 25 (0, 0))) ∧ Aside0 (w'.heap[gb253]? = some (.cells #[.int .i64 0, (.slice none 0 0)] 25 (0, 0))) ∧ Aside0 (w'.heap[gb254]? = some (.cells #[.int .i64 a0_0, u255001] 25 (0, 0))) ∧ Aside0 (Below w.heap.size w w'))
 case atStart => exact ⟨(0), (([] : List (S25))), (.slice none 0 0), y29, H', ⟨Nat.le_refl _⟩, ⟨y38⟩, ⟨(y1 NB252_254.out BK252.out)⟩, ⟨(y1 NB253_254.out BK253.out)⟩, ⟨(by (with_reducible repeat (first | refine blk_drewN ?_ _ | refine blk_drew ?_ | refine blk_alloc ?_ _)); refine blk_put (cs := #[.int .i64 a0_0, .slice none 0 0]) ?_ 1 _ rfl; (with_reducible repeat (first | refine blk_drewN ?_ _ | refine blk_drew ?_ | refine blk_alloc ?_ _)); refine blk_put (cs := #[.int .i64 0, .slice none 0 0]) ?_ 0 _ rfl; (with_reducible repeat (first | refine blk_drewN ?_ _ | refine blk_drew ?_ | refine blk_alloc ?_ _)); exact BK254.out)⟩, ⟨(y4 HB.out GE252.out GE253.out GE254.out)⟩⟩
 case round =>
  clear H'
  try clear p2
  try clear c3
  try clear c4
  try clear c7
  try clear c8
  try clear hcz5_0
  try clear hcz5_1
  try clear hcz9_0
  try clear hcz9_1
  try clear hfz5_0
  try clear hfz5_1
  try clear hfz9_0
  try clear hfz9_1
  (try clear BK252); (try clear BK253); (try clear BK254)
  obtain ⟨x4_1, x255001_1, u255001, rfl, HA, HK1, HO_255001, BK252, BK253, BK254, HB⟩ := hrel
  cases gk with
  | zero => exact absurd HA.out (by simp [spec_l1Anew.l0])
  | succ k1 =>
   have H := HA.out
   clear HA
   simp only [spec_l1Anew.l0] at H
   by_cases c10 : x4_1 < (l0_1.length : Int)
   ·rw [if_pos c10] at H
    have c10b0 : decide (x4_1 < (l0_1.length : Int)) = true := decide_eq_true c10
    clear c10
    by_cases c11 : 0 ≤ x4_1
    ·rw [if_pos c11] at H
     have c11b0 : decide (0 ≤ x4_1) = true := decide_eq_true c11
     clear c11
     obtain ⟨⟨t256, t257⟩, A120, H⟩ := ob H
     have A12 := Aside0.mk A120
     clear A120
     by_cases c13 : x255001_1.length < 4398046511104
     ·rw [if_pos c13] at H
      have LMc13 := Aside0.mk c13
      clear c13
      obtain ⟨y260, hy260⟩ : ∃ y_ : List (S25), y_ = (x255001_1 ++ [(⟨t256, t257⟩ : S25)]) := ⟨_, rfl⟩
      replace H : (spec_l1Anew.l0 k1 (wrap64 (x4_1 + 1)) a0_0 l0_1 a0_0 y260) = some (r1, r2) := by first | (rw [hy260]; with_reducible exact H) | (have H2_ := (Option.bind_some _ _).symm.trans H; rw [hy260]; with_reducible exact H2_) | (have H2_ := (Option.bind_some _ _).symm.trans H; with_reducible exact H2_) | with_reducible exact H | (rw [hy260]; exact H) | exact H
      have Ny260 := Aside0.mk hy260
      clear hy260
      have H' := Aside0.mk H
      clear H
      have hnb14 := NB252_253.out
      have hnc14 := NB253_252.out
      have hnb15 := NB252_254.out
      have hnc15 := NB254_252.out
      have hcz16_0 := zh BK252
      have hcz16_1 := zh1 BK252
      have hfz16_0 := zfr BK252 0
      have hfz16_1 := zfr BK252 1
      try go_wp2
      replace HO_255001 := Aside0.mk (Kd.R_drew HO_255001.out)
      replace BK252 := Aside0.mk (blk_drew BK252.out)
      replace BK253 := Aside0.mk (blk_drew BK253.out)
      replace BK254 := Aside0.mk (blk_drew BK254.out)
      replace HB := Aside0.mk (below_drew1 HB.out)
      have p255 : 0 ≤ (x4_1 : Int) := of_decide_eq_true y23
      have q255 : x4_1 < (l0_1.length : Int) := of_decide_eq_true y23
      obtain ⟨ad255, A255_1, c255_1, e255, hx255_0, hx255_1, hl255_1, hi255_1⟩ := at_T25 HR0_1.out x4_1 p255 q255
      have hw255_1 := hx255_1
      have hw255_0 := hx255_0
      cases e255
      replace hx255_0 := (HB.out.cell (World.block_lt_of_cell? w _ hx255_0)).trans hx255_0
      replace hx255_1 := (HB.out.cell (World.block_lt_of_cell? w _ hx255_1)).trans hx255_1
      have HR255_1 := Aside0.mk hi255_1
      have HC255_1 := Aside0.mk hl255_1
      clear hi255_1 hl255_1
      replace p255 := eq_true p255
      replace q255 := eq_true q255
      refine start_ (n := 12) (S := fun w' => w'.cell? ⟨gb254, 0, none⟩ = some (.int .i64 a0_0) ∧ w'.cell? ⟨gb254, 1, none⟩ = some (u255001) ∧ w'.cell? ⟨gb252, 0, none⟩ = some (.int .i64 a0_0) ∧ w'.cell? ⟨gb252, 1, none⟩ = some (.slice (some ad255) l0_1.length c0_1) ∧ w'.cell? (ad255.add ((x4_1).toNat * 2)) = some (.int .i64 ((rd_T25 l0_1 x4_1).f0)) ∧ w'.cell? ⟨(ad255.add ((x4_1).toNat * 2)).block, (ad255.add ((x4_1).toNat * 2)).off + 1, none⟩ = some (.slice A255_1 ((rd_T25 l0_1 x4_1).f1).length c255_1)) (ds := [11]) #[false, false, false, false, false, false, false, false, false, false, false, false] (by kernel_rfl) rfl rfl ⟨(blk_cell BK254.out 0).trans rfl, (blk_cell BK254.out 1).trans rfl, (blk_cell BK252.out 0).trans rfl, (blk_cell BK252.out 1).trans rfl, ((HB.out.cell (World.block_lt_of_cell? w _ hw255_0)).trans hw255_0), ((HB.out.cell (World.block_lt_of_cell? w _ hw255_1)).trans hw255_1)⟩ (fun hHeld => ?_); refine with_tabW spec_l1Anew.tab5 spec_l1Anew.bits5 (fun HT_ HW_ => ?_)
      generalize wr.drew = w17 at HO_255001 BK252 BK253 BK254 HB HR255_1 hx255_0 hx255_1 hHeld ⊢
      refine zp 0 (some 15) HT_ ?_
      refine zp 2 (some 17) HT_ ?_
      refine zp 4 (some 19) HT_ ?_
      refine zt6 1 (some 16) HT_ HW_ hHeld ?_
      refine zt6 3 (some 18) HT_ HW_ hHeld ?_
      refine zp 5 (some 20) HT_ ?_
      refine zt6 6 (some 21) HT_ HW_ hHeld ?_
      refine one_ (i := 7) (N := some 22) #[true, true, true, true, true, true, true, true, false, false, false, false] rfl rfl (one_of HT_.out (by kernel_rfl)) (by decide) (fun K hK => ?_)
      refine goes_ Try.func37 (by kernel_rfl) rfl #[.agg #[.int .i64 ((rd_T25 l0_1 x4_1).f0), .slice A255_1 ((rd_T25 l0_1 x4_1).f1).length c255_1]] (by rfl) rfl rfl y9 ?_
      with_reducible refine (ih k1 (y69 HK1.out) ((rd_T25 l0_1 x4_1).f0) _ _ ((rd_T25 l0_1 x4_1).f1) t256 t257 _ ?side1 ?side2 A12.out).mono ?_
      (case side1 => exact y18 HR255_1.out HB.out)
      (case side2 => exact HC255_1.out)
      rintro e w18 ⟨v258, rfl, ho0, hb⟩
      refine ⟨_, rfl, ?_⟩
      have HO259 := Aside0.mk (Kd.R_lower (Kd.R_newB (Kd.R_newB (Kd.R_newB (Kd.R_new' ho0 (Kd.R_lt (y8 HO_255001.out))) (g := gb252) (o := .cells #[.int .i64 a0_0, .slice (some ad255) l0_1.length c0_1] 25 (0, 0)) (y0 BK252.out)) (g := gb253) (o := .cells #[.int .i64 0, .slice none 0 0] 25 (0, 0)) (y0 BK253.out)) (g := gb254) (o := .cells #[.int .i64 a0_0, u255001] 25 (0, 0)) (y0 BK254.out)) (below_size (y4 HB.out GE252.out GE253.out GE254.out)))
      replace HO_255001 := Aside0.mk (Kd.R_elder' (y8 HO_255001.out) (Kd.R_base ho0) hb)
      replace BK252 := zbb BK252 hb
      replace BK253 := zbb BK253 hb
      replace BK254 := zbb BK254 hb
      replace HB := Aside0.mk (below_step (y4 HB.out GE252.out GE253.out GE254.out) hb)
      (try clear hb)
      (try clear hb2)
      (try clear hk)
      (try clear hi)
      (try clear ho0)
      obtain ⟨Ao20, co20, eo20⟩ := Kd.R_slice HO259.out
      (first | subst eo20 | (injection eo20 with f1_ f2_ f3_; have f4_ := f1_.symm; have f5_ := f3_.symm; clear f1_ f2_ f3_; subst f4_; subst f5_))
      refine hK.out _ _ ⟨(blk_cell BK254.out 0).trans rfl, (blk_cell BK254.out 1).trans rfl, (blk_cell BK252.out 0).trans rfl, (blk_cell BK252.out 1).trans rfl, ((HB.out.cell (World.block_lt_of_cell? w _ hw255_0)).trans hw255_0), ((HB.out.cell (World.block_lt_of_cell? w _ hw255_1)).trans hw255_1)⟩ (fun hHeld => ?_)
      clear hK K
      refine norm_ (a' := ?_) ?_ ?_
      rotate_left
      ·show Act.put _ (some 22) _ = _
       simp only [Act.put, List.setIfInBounds_toArray, List.set_cons_zero, List.set_cons_succ, i64_w, i32_w]
       rfl
      refine one_ (i := 8) (N := some 23) #[true, true, true, true, true, true, true, true, true, false, false, false] rfl rfl (one_of HT_.out (by kernel_rfl)) (by decide) (fun K hK => ?_)
      refine value_ (w1 := ?_) (v := ?_) (by rfl) rfl ?_ ?_
      rotate_left 2
      ·go_simp
       constructor
       ·rfl
       ·rfl
      refine hK.out _ _ ⟨(blk_cell (blk_alloc BK254.out _) 0).trans rfl, (blk_cell (blk_alloc BK254.out _) 1).trans rfl, (blk_cell (blk_alloc BK252.out _) 0).trans rfl, (blk_cell (blk_alloc BK252.out _) 1).trans rfl, (World.cell?_alloc_lt _ _ _ (World.block_lt_of_cell? _ _ (((HB.out.cell (World.block_lt_of_cell? w _ hw255_0)).trans hw255_0)))).trans (((HB.out.cell (World.block_lt_of_cell? w _ hw255_0)).trans hw255_0)), (World.cell?_alloc_lt _ _ _ (World.block_lt_of_cell? _ _ (((HB.out.cell (World.block_lt_of_cell? w _ hw255_1)).trans hw255_1)))).trans (((HB.out.cell (World.block_lt_of_cell? w _ hw255_1)).trans hw255_1))⟩ (fun hHeld => ?_)
      clear hK K
      refine norm_ (a' := ?_) ?_ ?_
      rotate_left
      ·show Act.put _ (some 23) _ = _
       simp only [Act.put, List.setIfInBounds_toArray, List.set_cons_zero, List.set_cons_succ, i64_w, i32_w]
       rfl
      refine one_ (i := 9) (N := some 24) #[true, true, true, true, true, true, true, true, true, true, false, false] rfl rfl (one_of HT_.out (by kernel_rfl)) (by decide) (fun K hK => ?_)
      refine Kd.R_append_step k25 (w0 := w) w.heap.size (by rfl) (.tmp 16) (.tmp 23) 23 25 (.agg #[(.int .i64 0), (.slice none 0 0)]) 32 rfl Try.underlying23 info25 rfl (by decide) (by omega) u255001 x255001_1 (⟨t256, t257⟩ : S25) [.int .i64 t256, .slice Ao20 t257.length co20] (fun k_ => k_ ≠ gb252 ∧ k_ ≠ gb253 ∧ k_ ≠ gb254) (fun k_ => ((fun k_ => k_ ≠ gb252 ∧ k_ ≠ gb253 ∧ k_ ≠ gb254)) k_ ∧ some k_ ≠ (u255001 : Value).ownBlock) rfl rfl ?aP (fun _ hk => hk) ?aF ?aO ?aB ?aS ?aL ?_
      (case aP => exact k25_mkM _ _ _ (⟨t256, t257⟩ : S25) (Kd.R_mono (HO259.out) (fun k_ hk => ⟨⟨hk.1.1.2, ⟨hk.1.2, hk.2⟩⟩, hk.1.1.1.2⟩)))
      (case aB => exact y91 HB.out GE252.out GE253.out GE254.out)
      (case aF => exact (fun k_ hk => ⟨Kd.freshB (g := gb252) (o := .cells #[.int .i64 a0_0, .slice (some ad255) l0_1.length c0_1] 25 (0, 0)) (y0 BK252.out) k_ hk, Kd.freshB (g := gb253) (o := .cells #[.int .i64 0, .slice none 0 0] 25 (0, 0)) (y0 BK253.out) k_ hk, Kd.freshB (g := gb254) (o := .cells #[.int .i64 a0_0, u255001] 25 (0, 0)) (y0 BK254.out) k_ hk⟩))
      (case aO => exact y102 HO_255001.out)
      (case aS => exact y86 HB.out GE252.out GE253.out GE254.out)
      (case aL => exact y69 LMc13.out)
      intro v261 w19 ho hb hg hat
      rw [← Ny260.out] at ho
      replace BK252 := Aside0.mk (blk_grown (g := gb252) (o := .cells #[.int .i64 a0_0, .slice (some ad255) l0_1.length c0_1] 25 (0, 0)) (y0 BK252.out) hg (Kd.R_away HO_255001.out (fun _ hk => hk.1.1)))
      replace BK253 := Aside0.mk (blk_grown (g := gb253) (o := .cells #[.int .i64 0, .slice none 0 0] 25 (0, 0)) (y0 BK253.out) hg (Kd.R_away HO_255001.out (fun _ hk => hk.1.2.1)))
      replace BK254 := Aside0.mk (blk_grown (g := gb254) (o := .cells #[.int .i64 a0_0, u255001] 25 (0, 0)) (y0 BK254.out) hg (Kd.R_away HO_255001.out (fun _ hk => hk.1.2.2)))
      replace HB := Aside0.mk (hb)
      have HO262 := Aside0.mk (ho)
      clear HO259 HO_255001
      clear ho hb hg hat
      obtain ⟨Ao21, co21, eo21⟩ := Kd.R_slice HO262.out
      (first | subst eo21 | (injection eo21 with f1_ f2_ f3_; have f4_ := f1_.symm; have f5_ := f3_.symm; clear f1_ f2_ f3_; subst f4_; subst f5_))
      refine hK.out _ _ ⟨(blk_cell BK254.out 0).trans rfl, (blk_cell BK254.out 1).trans rfl, (blk_cell BK252.out 0).trans rfl, (blk_cell BK252.out 1).trans rfl, ((HB.out.cell (World.block_lt_of_cell? w _ hw255_0)).trans hw255_0), ((HB.out.cell (World.block_lt_of_cell? w _ hw255_1)).trans hw255_1)⟩ (fun hHeld => ?_)
      clear hK K
      refine norm_ (a' := ?_) ?_ ?_
      rotate_left
      ·show Act.put _ (some 24) _ = _
       simp only [Act.put, List.setIfInBounds_toArray, List.set_cons_zero, List.set_cons_succ, i64_w, i32_w]
       rfl
      refine zp 10 (some 25) HT_ ?_
      refine last_ (i := 11) (N := none) #[true, true, true, true, true, true, true, true, true, true, true, true] rfl rfl (one_of HT_.out (by kernel_rfl)) (by decide) (fun K hK => ?_)
      have hs22 : w19.cell? ⟨gb254, 1, none⟩ = some (u255001) := (blk_cell BK254.out 1).trans rfl
      have hfs22 := zfr BK254 1
      have hns22_0 := NB252_254.out
      have hns22_1 := NB253_254.out
      have hms22_0 := NB254_252.out
      have hms22_1 := NB254_253.out
      refine skip_ (w1 := ?_) (by rfl) rfl ?_ ?_
      rotate_left
      ·go_simp
       rfl
      refine hK.out _ _ ?_
      clear hK K
      refine done_ (done_of HT_.out (by kernel_rfl)) ?_
      try go_wp2
      go_roundg k1
      case measure => have := HK1.out; omega
      case rel => exact ⟨(wrap64 (x4_1 + 1)), (y260), (.slice Ao21 y260.length co21), y29, H', ⟨(y69 HK1.out)⟩, ⟨(by (with_reducible repeat (first | apply Kd.R_alloc | apply Kd.R_drewN | apply Kd.R_drew)); exact Kd.R_mono (Kd.R_far (p := ⟨gb254, 1, none⟩) (Kd.R_mono HO262.out (fun k_ hk => (⟨hk, hk.2.2⟩ : _ ∧ k_ ≠ gb254))) (fun _ hk => hk.2) (.slice Ao21 y260.length co21)) (fun _ hk => ⟨hk.1.1, ⟨hk.1.2.1, hk.1.2.2⟩⟩))⟩, ⟨(y13 NB252_254.out BK252.out)⟩, ⟨(y13 NB253_254.out BK253.out)⟩, ⟨(by (with_reducible repeat (first | refine blk_drewN ?_ _ | refine blk_drew ?_ | refine blk_alloc ?_ _)); refine blk_put (cs := #[.int .i64 a0_0, u255001]) ?_ 1 _ rfl; (with_reducible repeat (first | refine blk_drewN ?_ _ | refine blk_drew ?_ | refine blk_alloc ?_ _)); exact BK254.out)⟩, ⟨(y4 HB.out GE252.out GE253.out GE254.out)⟩⟩
     ·rw [if_neg c13] at H
      exact absurd H (by simp)
    ·rw [if_neg c11] at H
     exact absurd H (by simp)
   ·rw [if_neg c10] at H
    have c10b0 : decide (x4_1 < (l0_1.length : Int)) = false := decide_eq_false c10
    clear c10
    simp only [Option.some.injEq, Prod.mk.injEq] at H
    obtain ⟨rfl, rfl⟩ := H
    have hnb23 := NB252_253.out
    have hnc23 := NB253_252.out
    have hnb24 := NB252_254.out
    have hnc24 := NB254_252.out
    have hcz25_0 := zh BK252
    have hcz25_1 := zh1 BK252
    have hfz25_0 := zfr BK252 0
    have hfz25_1 := zfr BK252 1
    have hnb26 := NB254_253.out
    have hnc26 := NB253_254.out
    have hcz27_0 := zh BK254
    have hcz27_1 := zh1 BK254
    have hfz27_0 := zfr BK254 0
    have hfz27_1 := zfr BK254 1
    have hcz28_0 := zh BK253
    have hcz28_1 := zh1 BK253
    have hfz28_0 := zfr BK253 0
    have hfz28_1 := zfr BK253 1
    obtain ⟨Ao29, co29, eo29⟩ := Kd.R_slice HO_255001.out
    subst eo29
    go_wp2
    refine bodyPost_ret (results_cell_row rfl _ _ gb253 25 #[.int .i64 a0_0, .slice Ao29 x255001_1.length co29] (0, 0) _ rfl (by (with_reducible repeat (first | refine blk_drewN ?_ _ | refine blk_drew ?_ | refine blk_alloc ?_ _)); refine blk_put (cs := #[.int .i64 a0_0, .slice none 0 0]) ?_ 1 _ rfl; (with_reducible repeat (first | refine blk_drewN ?_ _ | refine blk_drew ?_ | refine blk_alloc ?_ _)); apply blk_put (i := 0); (case h => exact y0 BK253.out); (case e => rfl)) Try.underlying25 rfl (by kernel_rfl)) rfl ?_
    exact ⟨_, y15, (by (with_reducible repeat (first | apply Kd.R_alloc | apply Kd.R_drewN | apply Kd.R_drew)); exact Kd.R_mono (Kd.R_far (p := ⟨gb253, 1, none⟩) (Kd.R_far (p := ⟨gb253, 0, none⟩) (Kd.R_mono HO_255001.out (fun k_ hk => (⟨hk, hk.2.1⟩ : _ ∧ k_ ≠ gb253))) (fun _ hk => hk.2) (.int .i64 a0_0)) (fun _ hk => hk.2) (.slice Ao29 x255001_1.length co29)) (fun _ hk => trivial)), (y4 HB.out GE252.out GE253.out GE254.out)⟩
end Go.Proofs.Ythfflieeifakdaa.PA
end
section
namespace Go.Proofs.Ythfflieeifakdaa.PA
open Go.RowKit Go.Proofs.YthfflieeifakdaaW.PrintWords Go.Proofs.YthfflieeifakdaaW.PrintLast Go.Proofs.YthfflieeifakdaaW.PrintMore
attribute [local go_sem] max2_int min2_int max_two min_two max_three min_three max_four min_four
set_option linter.unusedVariables false
set_option linter.unusedSimpArgs false
def spec_ValAt.l0 : Nat → List Int → Int → Int → List (S25) → Option (Int × (List (S25)) × Bool)
 | 0, _, _, _, _ => none
 | k + 1, x1, x6, x264000, x264001 => if x6 < (x1.length : Int) then (if 0 ≤ x6 then ((spec_l6In.f (rd x1 x6) 0 (wrap64 ((x264001.length : Int) - 1))).bind fun t267 => (if t267 = true then (if 0 ≤ (rd x1 x6) then (if (rd x1 x6) < (x264001.length : Int) then (spec_ValAt.l0 k x1 (wrap64 (x6 + 1)) ((rd_T25 x264001 (rd x1 x6)).f0) ((rd_T25 x264001 (rd x1 x6)).f1)) else (none)) else (none)) else (some (0, ([] : List (S25)), false)))) else (none)) else ((spec_l1Anew.f k x264000 x264001).bind fun bt270 => (some (bt270.1, bt270.2, true)))
def spec_ValAt.f (k : Nat) (a0_0 : Int) (l0_1 : List (S25)) (l1 : List Int) : Option (Int × (List (S25)) × Bool) := (spec_l1Any.f k a0_0 l0_1).bind fun t265 => (if t265 = true then (spec_ValAt.l0 k l1 0 a0_0 l0_1) else (some (0, ([] : List (S25)), false)))
theorem spec_ValAt.mono_l : ∀ k, (∀ y0 y1 y2 y3, LeO (spec_ValAt.l0 k y0 y1 y2 y3) (spec_ValAt.l0 (k + 1) y0 y1 y2 y3))
 | 0 => fun _ _ _ _ r h => by simp [spec_ValAt.l0] at h
 | k + 1 => by
  have ih0 := spec_ValAt.mono_l k
  ·intro y0 y1 y2 y3
   unfold spec_ValAt.l0
   repeat' first
   | (with_reducible exact ih0 _ _ _ _)
   | (with_reducible exact spec_l1Anew.mono _ _ _)
   | (with_reducible exact spec_l1Any.mono _ _ _)
   | (with_reducible exact LeO.refl _)
   | (with_reducible exact LeO.none _)
   | (with_reducible refine LeO.ite ?_ ?_)
   | (with_reducible refine LeO.bind ?_ (fun _ => ?_))
   | exact ih0 _ _ _ _
   | exact spec_l1Anew.mono _ _ _
   | exact spec_l1Any.mono _ _ _
   | exact LeO.none _
   | refine LeO.ite ?_ ?_
   | refine LeO.bind ?_ (fun _ => ?_)
theorem spec_ValAt.mono : ∀ a0 a1 a2 k, LeO (spec_ValAt.f k a0 a1 a2) (spec_ValAt.f (k + 1) a0 a1 a2) := by
 intro a0 a1 a2 k
 have ih0 := spec_ValAt.mono_l k
 unfold spec_ValAt.f
 repeat' first
   | (with_reducible exact ih0 _ _ _ _)
   | (with_reducible exact spec_l1Anew.mono _ _ _)
   | (with_reducible exact spec_l1Any.mono _ _ _)
   | (with_reducible exact LeO.refl _)
   | (with_reducible exact LeO.none _)
   | (with_reducible refine LeO.ite ?_ ?_)
   | (with_reducible refine LeO.bind ?_ (fun _ => ?_))
   | exact ih0 _ _ _ _
   | exact spec_l1Anew.mono _ _ _
   | exact spec_l1Any.mono _ _ _
   | exact LeO.none _
   | refine LeO.ite ?_ ?_
   | refine LeO.bind ?_ (fun _ => ?_)
def spec_ValAt.T6 : Bool × List (List Nat × List Nat) := (true, [([], []), ([], []), ([0, 1], [0, 1]), ([2], [2]), ([], []), ([4], [4]), ([5], [5]), ([6], [6]), ([3, 7], [3, 7]), ([8], [8])])
def spec_ValAt.B6 : List Nat := [0, 0, 3, 7, 0, 16, 48, 112, 255, 511]
theorem spec_ValAt.tab6 : rtab .any (opsOf Try.f13 6) = spec_ValAt.T6 := by kernel_rfl
theorem spec_ValAt.bits6 : waitsOk spec_ValAt.T6.2 spec_ValAt.B6 = true := by kernel_rfl
def spec_ValAt.T8 : Bool × List (List Nat × List Nat) := (true, [([], []), ([0], [0]), ([], []), ([], []), ([2, 3], [2, 3]), ([4], [4]), ([1, 5], [1, 5]), ([6], [6]), ([7, 0, 1, 2, 3, 4, 5, 6, 7], [7])])
def spec_ValAt.B8 : List Nat := [0, 1, 0, 0, 12, 28, 63, 127, 255]
theorem spec_ValAt.tab8 : rtab .any (opsOf Try.f13 8) = spec_ValAt.T8 := by kernel_rfl
theorem spec_ValAt.bits8 : waitsOk spec_ValAt.T8.2 spec_ValAt.B8 = true := by kernel_rfl
set_option maxHeartbeats 8000000 in
set_option maxRecDepth 100000 in
theorem spec_ValAt.calls (k : Nat) (a0_0 : Int) (P0_1_ : Nat → Prop) (A0_1 : Option Addr) (c0_1 : Nat) (l0_1 : List (S25)) (A1 : Option Addr) (c1 : Nat) (l1 : List Int) (r1 : Int) (r2 : List (S25)) (r3 : Bool) (w : World) (hs0_1 : Kd.V k25 25 w w.heap.size (fun k_ => P0_1_ k_) (.slice A0_1 l0_1.length c0_1) l0_1) (hr1 : Kd.C (Kd.int .i64) w A1 l1.length l1) (hc1 : l1.length ≤ c1) (h : spec_ValAt.f k a0_0 l0_1 l1 = some (r1, r2, r3)) :
  Calls Try.prog 13 #[.agg #[.int .i64 a0_0, .slice A0_1 l0_1.length c0_1], .slice A1 l1.length c1] w fun e w' => ∃ v1_ : Value, e = .returned (.tuple #[.agg #[.int .i64 r1, v1_], .bool r3]) ∧ Kd.R k25 25 w' w.heap.size (fun k_ => (w.heap.size ≤ k_)) v1_ r2 ∧ Below w.heap.size w w' := by
 have hu25 := Try.underlying25
 have HO0_1 := Aside0.mk (show Kd.V k25 25 w w.heap.size (fun k_ => (P0_1_ k_ ∨ w.heap.size ≤ k_)) (.slice A0_1 l0_1.length c0_1) l0_1 from Kd.V_mono hs0_1 (fun k_ hk => .inl hk))
 have HR1 := Aside0.mk hr1
 have HC1 := Aside0.mk hc1
 clear hr1 hc1
 have HB := Aside0.mk (Below.refl w.heap.size w)
 have H : ((spec_l1Any.f k a0_0 l0_1).bind fun t265 => (if t265 = true then (spec_ValAt.l0 k l1 0 a0_0 l0_1) else (some (0, ([] : List (S25)), false)))) = some (r1, r2, r3) := h
 clear h
 obtain ⟨t265, A30, H⟩ := ob H
 have A3 := Aside0.mk A30
 clear A30
 have HZ4 := Aside0.mk H
 clear H
 go_enter Try.func13, Try.ntmps13
 go_upto_if 9 with (first | ((with_reducible refine gate_dst (N := 2) rfl ?_); refine zbx 2 #[.int .i64 a0_0, .slice A0_1 l0_1.length c0_1] 25 ?_; intro gb263 hg w5 hbox hb; replace HO0_1 := Aside0.mk (Kd.V_below (Kd.V_elderB (y11 HO0_1.out) gb263 (Nat.le_of_eq hg.symm)) hb); have BK263 := Aside0.mk hbox; have GW263 := Aside0.mk ((y10 hg HB.out : w.heap.size ≤ gb263)); have GE263 := Aside0.mk ((y10 hg HB.out : w.heap.size ≤ gb263)); replace HB := Aside0.mk (below_step (y6 HB.out) hb); clear hb hbox hg) | ((with_reducible refine gate_dst (N := 4) rfl ?_); refine zbx 4 #[.int .i64 0, .slice none 0 0] 25 ?_; intro gb264 hg w6 hbox hb; replace HO0_1 := Aside0.mk (Kd.V_below (Kd.V_elderB (y11 HO0_1.out) gb264 (Nat.le_of_eq hg.symm)) hb); have BK264 := Aside0.mk hbox; have GW264 := Aside0.mk ((y12 hg HB.out GE263.out : w.heap.size ≤ gb264)); have GE264 := Aside0.mk ((y12 hg HB.out GE263.out : w.heap.size ≤ gb264)); replace HB := Aside0.mk (below_step (y7 HB.out GE263.out) hb); have NB263_264 := zltn hg BK263; have NB264_263 := zgtn hg BK263; replace BK263 := zbb BK263 hb; clear hb hbox hg; have hnb7 := NB263_264.out; have hnc7 := NB264_263.out; have hcz8_0 := zh BK263; have hcz8_1 := zh1 BK263; have hfz8_0 := zfr BK263 0; have hfz8_1 := zfr BK263 1) | ((with_reducible refine gate_callee (f := 35) rfl ?_); refine goesL_ (some 8) rfl rfl Try.func35 (by kernel_rfl) rfl #[.agg #[.int .i64 a0_0, .slice A0_1 l0_1.length c0_1]] rfl y9 ?_; (with_reducible refine (spec_l1Any.calls k a0_0 _ _ l0_1 t265 _ ?side1 ?side2 A3.out).mono ?_); (case side1 => exact y33 HO0_1.out); (case side2 => exact (Kd.V_reads' HO0_1.out).2.1); rintro e w9 ⟨rfl, hb⟩; refine ⟨_, rfl, ?_⟩; replace HO0_1 := Aside0.mk (Kd.V_below (y11 HO0_1.out) hb); replace BK263 := zbb BK263 hb; replace BK264 := zbb BK264 hb; replace HB := Aside0.mk (below_step (y3 HB.out GE263.out GE264.out) hb); (try clear hb); (try clear hb2); (try clear hk); (try clear hi)))
 (try simp only [Act.put, List.setIfInBounds_toArray, List.set_cons_zero, List.set_cons_succ])
 have H := HZ4.out
 clear HZ4
 by_cases c10 : t265 = true
 ·subst c10
  rw [if_pos rfl] at H
  have H' := Aside0.mk H
  clear H
  go_wp2
  go_loopg [6] k (fun kq v6 w' => ∃ (x6_1 : Int) (x264000_1 : Int) (x264001_1 : List (S25)) (x265000_1 : Int) (u264001 : Value), v6 = .int .i64 x6_1 ∧ Aside0 (spec_ValAt.l0 kq l1 x6_1 x264000_1 x264001_1 = some (r1, r2, r3)) ∧ Aside0 (kq ≤ k) ∧ Aside0 (Kd.V k25 25 w' w.heap.size (fun k_ => (P0_1_ k_ ∨ w.heap.size ≤ k_) ∧ k_ ≠ gb263 ∧ k_ ≠ gb264) u264001 x264001_1) ∧ Aside0 (w'.heap[gb263]? = some (.cells #[.int .i64 x264000_1, u264001] 25 (0, 0))) ∧ Aside0 (w'.heap[gb264]? = some (.cells #[.int .i64 x265000_1, (.slice none 0 0)] 25 (0, 0))) ∧ Aside0 (Below w.heap.size w w'))
  case atStart => exact ⟨(0), (a0_0), (l0_1), (0), (.slice A0_1 l0_1.length c0_1), y29, H', ⟨Nat.le_refl _⟩, ⟨(y87 HO0_1.out)⟩, ⟨(y0 BK263.out)⟩, ⟨(y0 BK264.out)⟩, ⟨(y3 HB.out GE263.out GE264.out)⟩⟩
  case round =>
   clear H'
   try clear c1
   try clear p2
   try clear c3
   try clear c7
   try clear c10
   try clear hcz8_0
   try clear hcz8_1
   try clear hfz8_0
   try clear hfz8_1
   (try clear BK263); (try clear BK264)
   obtain ⟨x6_1, x264000_1, x264001_1, x265000_1, u264001, rfl, HA, HK1, HO_264001, BK263, BK264, HB⟩ := hrel
   cases gk with
   | zero => exact absurd HA.out (by simp [spec_ValAt.l0])
   | succ k1 =>
    have H := HA.out
    clear HA
    simp only [spec_ValAt.l0] at H
    by_cases c11 : x6_1 < (l1.length : Int)
    ·rw [if_pos c11] at H
     have c11b0 : decide (x6_1 < (l1.length : Int)) = true := decide_eq_true c11
     clear c11
     (first | rw [c11b0] | (simp only [i64_w, i32_w]; rw [c11b0]) | skip)
     by_cases c12 : 0 ≤ x6_1
     ·rw [if_pos c12] at H
      have c12b0 : decide (0 ≤ x6_1) = true := decide_eq_true c12
      clear c12
      obtain ⟨t267, A130, H⟩ := ob H
      have A13 := Aside0.mk A130
      clear A130
      have HZ14 := Aside0.mk H
      clear H
      try go_wp2
      replace HO_264001 := Aside0.mk (Kd.V_drew HO_264001.out)
      replace BK263 := Aside0.mk (blk_drew BK263.out)
      replace BK264 := Aside0.mk (blk_drew BK264.out)
      replace HB := Aside0.mk (below_drew1 HB.out)
      have p266 : 0 ≤ (x6_1 : Int) := of_decide_eq_true y23
      have q266 : x6_1 < (l1.length : Int) := of_decide_eq_true y23
      obtain ⟨ad266, e266, hx266_0⟩ := Kd.at_int HR1.out x6_1 p266 q266
      have hw266_0 := hx266_0
      cases e266
      replace hx266_0 := (HB.out.cell (World.block_lt_of_cell? w _ hx266_0)).trans hx266_0
      replace p266 := eq_true p266
      replace q266 := eq_true q266
      obtain ⟨Ao16, co16, eo16⟩ := Kd.V_slice HO_264001.out
      (first | subst eo16 | (injection eo16 with f1_ f2_ f3_; have f4_ := f1_.symm; have f5_ := f3_.symm; clear f1_ f2_ f3_; subst f4_; subst f5_))
      refine start_ (n := 10) (S := fun w' => w'.cell? ⟨gb263, 0, none⟩ = some (.int .i64 x264000_1) ∧ w'.cell? ⟨gb263, 1, none⟩ = some (.slice Ao16 x264001_1.length co16) ∧ w'.cell? (ad266.add (x6_1).toNat) = some (.int .i64 (rd l1 x6_1))) (ds := []) #[false, false, false, false, false, false, false, false, false, false] (by kernel_rfl) rfl rfl ⟨(blk_cell BK263.out 0).trans rfl, (blk_cell BK263.out 1).trans rfl, ((HB.out.cell (World.block_lt_of_cell? w _ hw266_0)).trans hw266_0)⟩ (fun hHeld => ?_); refine with_tabW spec_ValAt.tab6 spec_ValAt.bits6 (fun HT_ HW_ => ?_)
      generalize wr.drew = w15 at HO_264001 BK263 BK264 HB hx266_0 hHeld ⊢
      refine zp 0 (some 17) HT_ ?_
      refine zp 1 (some 18) HT_ ?_
      refine zp 2 (some 19) HT_ ?_
      refine zp 4 (some 21) HT_ ?_
      refine zt3 3 (some 20) HT_ HW_ hHeld ?_
      refine zt3 5 (some 22) HT_ HW_ hHeld ?_
      refine zp 6 (some 23) HT_ ?_
      refine zp 7 (some 24) HT_ ?_
      refine one_ (i := 8) (N := some 25) #[true, true, true, true, true, true, true, true, true, false] rfl rfl (one_of HT_.out (by kernel_rfl)) (by decide) (fun K hK => ?_)
      refine goes_ Try.func36 (by kernel_rfl) rfl #[.int .i64 (rd l1 x6_1), .int .i64 0, .int .i64 (wrap64 ((x264001_1.length : Int) - 1))] (by rfl) rfl rfl y9 ?_
      with_reducible refine (spec_l6In.calls (rd l1 x6_1) 0 (wrap64 ((x264001_1.length : Int) - 1)) t267 _ A13.out).mono ?_
      rintro e w' ⟨rfl, ⟨nd, rfl⟩⟩
      refine ⟨_, rfl, ?_⟩
      refine hK.out _ _ ⟨(blk_cell BK263.out 0).trans rfl, (blk_cell BK263.out 1).trans rfl, ((HB.out.cell (World.block_lt_of_cell? w _ hw266_0)).trans hw266_0)⟩ (fun hHeld => ?_)
      clear hK K
      refine norm_ (a' := ?_) ?_ ?_
      rotate_left
      ·show Act.put _ (some 25) _ = _
       simp only [Act.put, List.setIfInBounds_toArray, List.set_cons_zero, List.set_cons_succ, i64_w, i32_w]
       rfl
      refine zp 9 (some 26) HT_ ?_
      refine done_ (done_of HT_.out (by kernel_rfl)) ?_
      have H := HZ14.out
      clear HZ14
      by_cases c17 : t267 = true
      ·subst c17
       rw [if_pos rfl] at H
       by_cases c18 : 0 ≤ (rd l1 x6_1)
       ·rw [if_pos c18] at H
        have c18b0 : decide (0 ≤ (rd l1 x6_1)) = true := decide_eq_true c18
        clear c18
        by_cases c19 : (rd l1 x6_1) < (x264001_1.length : Int)
        ·rw [if_pos c19] at H
         have c19b0 : decide ((rd l1 x6_1) < (x264001_1.length : Int)) = true := decide_eq_true c19
         clear c19
         have H' := Aside0.mk H
         clear H
         try go_wp2
         (try (rw [drewN_self w15]; generalize hq_ : World.drewN w15 _ = w15; have n0_ : Aside0 (Kd.V k25 25 w15 w.heap.size (fun k_ => (P0_1_ k_ ∨ w.heap.size ≤ k_) ∧ k_ ≠ gb263 ∧ k_ ≠ gb264) (.slice Ao16 x264001_1.length co16) x264001_1) := ⟨(by rw [← hq_]; exact (y11 HO_264001.out))⟩; have n1_ : Aside0 (w15.heap[gb263]? = some (.cells #[.int .i64 x264000_1, .slice Ao16 x264001_1.length co16] 25 (0, 0))) := ⟨(by rw [← hq_]; exact (y0 BK263.out))⟩; have n2_ : Aside0 (w15.heap[gb264]? = some (.cells #[.int .i64 x265000_1, .slice none 0 0] 25 (0, 0))) := ⟨(by rw [← hq_]; exact (y0 BK264.out))⟩; have n3_ : Aside0 (Below w.heap.size w w15) := ⟨(by rw [← hq_]; exact (y3 HB.out GE263.out GE264.out))⟩; clear HO_264001 BK263 BK264 HB hq_; have HO_264001 := n0_; have BK263 := n1_; have BK264 := n2_; have HB := n3_; clear n0_ n1_ n2_ n3_))
         replace HO_264001 := Aside0.mk (Kd.V_drew HO_264001.out)
         replace BK263 := Aside0.mk (blk_drew BK263.out)
         replace BK264 := Aside0.mk (blk_drew BK264.out)
         replace HB := Aside0.mk (below_drew1 HB.out)
         have p268 : 0 ≤ (x6_1 : Int) := of_decide_eq_true y23
         have q268 : x6_1 < (l1.length : Int) := of_decide_eq_true y23
         obtain ⟨ad268, e268, hx268_0⟩ := Kd.at_int HR1.out x6_1 p268 q268
         have hw268_0 := hx268_0
         obtain rfl : ad266 = ad268 := (by injection e268)
         replace hx268_0 := (HB.out.cell (World.block_lt_of_cell? w _ hx268_0)).trans hx268_0
         replace p268 := eq_true p268
         replace q268 := eq_true q268
         have p269 : 0 ≤ ((rd l1 x6_1) : Int) := of_decide_eq_true y23
         have q269 : (rd l1 x6_1) < (x264001_1.length : Int) := of_decide_eq_true y23
         obtain ⟨ad269, A269_1, c269_1, e269, hx269_0, hx269_1, hl269_1, hi269_1⟩ := at_T25 (Kd.V_reads' HO_264001.out).2.2 (rd l1 x6_1) p269 q269
         cases e269
         obtain ⟨ce269, hce269, hMe269, hcc269⟩ := Kd.V_get HO_264001.out z25 (rd l1 x6_1) p269 (by first | exact q269 | exact of_decide_eq_true y23 | (have e_ := (Kd.V_reads' HO_264001.out).1; omega))
         obtain ⟨ua269_1, uc269_1, rfl, ul269_1, ge269_1⟩ := k25_openF hMe269
         have hv269_1 := hcc269 1 _ rfl
         rw [add_field _ _ 1 (by omega)] at hv269_1
         replace hv269_1 := Option.some.inj (hv269_1.symm.trans hx269_1)
         injection hv269_1 with hva_ hvn_ hvc_
         rw [hva_] at ge269_1
         rw [hvc_] at ul269_1
         have HL269_1 := Aside0.mk (show Kd.V k25 25 _ w.heap.size _ _ ((rd_T25 x264001_1 (rd l1 x6_1)).f1) from Kd.V_mk ul269_1 ge269_1)
         clear hva_ hvn_ hvc_ ge269_1 ul269_1
         clear hcc269 hce269
         have HR269_1 := Aside0.mk hi269_1
         have HC269_1 := Aside0.mk hl269_1
         clear hi269_1 hl269_1
         replace p269 := eq_true p269
         replace q269 := eq_true q269
         refine start_ (n := 9) (S := fun w' => w'.cell? ⟨gb263, 0, none⟩ = some (.int .i64 x264000_1) ∧ w'.cell? ⟨gb263, 1, none⟩ = some (.slice (some ad269) x264001_1.length co16) ∧ w'.cell? (ad266.add (x6_1).toNat) = some (.int .i64 (rd l1 x6_1)) ∧ w'.cell? (ad269.add (((rd l1 x6_1)).toNat * 2)) = some (.int .i64 ((rd_T25 x264001_1 (rd l1 x6_1)).f0)) ∧ w'.cell? ⟨(ad269.add (((rd l1 x6_1)).toNat * 2)).block, (ad269.add (((rd l1 x6_1)).toNat * 2)).off + 1, none⟩ = some (.slice A269_1 ((rd_T25 x264001_1 (rd l1 x6_1)).f1).length c269_1)) (ds := [8]) #[false, false, false, false, false, false, false, false, false] (by kernel_rfl) rfl rfl ⟨(blk_cell BK263.out 0).trans rfl, (blk_cell BK263.out 1).trans rfl, ((HB.out.cell (World.block_lt_of_cell? w _ hw268_0)).trans hw268_0), hx269_0, hx269_1⟩ (fun hHeld => ?_); refine with_tabW spec_ValAt.tab8 spec_ValAt.bits8 (fun HT_ HW_ => ?_)
         generalize w15.drew = w20 at HO_264001 BK263 BK264 HB HL269_1 HR269_1 hx268_0 hx269_0 hx269_1 hHeld ⊢
         refine zp 0 (some 28) HT_ ?_
         refine zp 2 (some 30) HT_ ?_
         refine zp 3 (some 31) HT_ ?_
         refine zp 4 (some 32) HT_ ?_
         refine zt5 1 (some 29) HT_ HW_ hHeld ?_
         refine zt5 5 (some 33) HT_ HW_ hHeld ?_
         refine zp 6 (some 34) HT_ ?_
         refine zt5 7 (some 35) HT_ HW_ hHeld ?_
         refine last_ (i := 8) (N := none) #[true, true, true, true, true, true, true, true, true] rfl rfl (one_of HT_.out (by kernel_rfl)) (by decide) (fun K hK => ?_)
         have hs21 : w20.cell? ⟨gb263, 0, none⟩ = some (.int .i64 x264000_1) := (blk_cell BK263.out 0).trans rfl
         have hfs21 := zfr BK263 0
         have hns21_1 := NB264_263.out
         have hms21_1 := NB263_264.out
         have hs22 : w20.cell? ⟨gb263, 1, none⟩ = some (.slice (some ad269) x264001_1.length co16) := (blk_cell BK263.out 1).trans rfl
         have hfs22 := zfr BK263 1
         have hns22_1 := NB264_263.out
         have hms22_1 := NB263_264.out
         refine skip_ (w1 := ?_) (by rfl) rfl ?_ ?_
         rotate_left
         ·go_simp
          rfl
         refine hK.out _ _ ?_
         clear hK K
         refine done_ (done_of HT_.out (by kernel_rfl)) ?_
         try go_wp2
         go_roundg k1
         case measure => have := HK1.out; omega
         case rel => exact ⟨(wrap64 (x6_1 + 1)), ((rd_T25 x264001_1 (rd l1 x6_1)).f0), ((rd_T25 x264001_1 (rd l1 x6_1)).f1), (x265000_1), (.slice A269_1 ((rd_T25 x264001_1 (rd l1 x6_1)).f1).length c269_1), y29, H', ⟨(y69 HK1.out)⟩, ⟨(by (with_reducible repeat (first | apply Kd.V_alloc | apply Kd.V_drewN | apply Kd.V_drew)); exact Kd.V_mono (Kd.V_far (p := ⟨gb263, 1, none⟩) (Kd.V_far (p := ⟨gb263, 0, none⟩) (Kd.V_mono HL269_1.out (fun k_ hk => (⟨hk, hk.2.1⟩ : _ ∧ k_ ≠ gb263))) (fun _ hk => hk.2) (.int .i64 ((rd_T25 x264001_1 (rd l1 x6_1)).f0))) (fun _ hk => hk.2) (.slice A269_1 ((rd_T25 x264001_1 (rd l1 x6_1)).f1).length c269_1)) (fun _ hk => ⟨hk.1.1, ⟨hk.1.2.1, hk.1.2.2⟩⟩))⟩, ⟨(by (with_reducible repeat (first | refine blk_drewN ?_ _ | refine blk_drew ?_ | refine blk_alloc ?_ _)); refine blk_put (cs := #[.int .i64 ((rd_T25 x264001_1 (rd l1 x6_1)).f0), .slice (some ad269) x264001_1.length co16]) ?_ 1 _ rfl; (with_reducible repeat (first | refine blk_drewN ?_ _ | refine blk_drew ?_ | refine blk_alloc ?_ _)); refine blk_put (cs := #[.int .i64 x264000_1, .slice (some ad269) x264001_1.length co16]) ?_ 0 _ rfl; (with_reducible repeat (first | refine blk_drewN ?_ _ | refine blk_drew ?_ | refine blk_alloc ?_ _)); exact BK263.out)⟩, ⟨(y1 NB264_263.out BK264.out)⟩, ⟨(y3 HB.out GE263.out GE264.out)⟩⟩
        ·rw [if_neg c19] at H
         exact absurd H (by simp)
       ·rw [if_neg c18] at H
        exact absurd H (by simp)
      ·replace c17 := Bool.eq_false_iff.mpr c17
       subst c17
       rw [if_neg (show ¬ (false = true) by decide)] at H
       simp only [Option.some.injEq, Prod.mk.injEq] at H
       obtain ⟨rfl, rfl, rfl⟩ := H
       have hnb23 := NB264_263.out
       have hnc23 := NB263_264.out
       have hcz24_0 := zh BK264
       have hcz24_1 := zh1 BK264
       have hfz24_0 := zfr BK264 0
       have hfz24_1 := zfr BK264 1
       go_wp2
       refine bodyPost_ret (results_ct rfl _ _ gb264 25 #[.int .i64 0, .slice none 0 0] (0, 0) _ rfl (by (with_reducible repeat (first | refine blk_drewN ?_ _ | refine blk_drew ?_ | refine blk_alloc ?_ _)); refine blk_put (cs := #[.int .i64 0, .slice none 0 0]) ?_ 1 _ rfl; (with_reducible repeat (first | refine blk_drewN ?_ _ | refine blk_drew ?_ | refine blk_alloc ?_ _)); apply blk_put (i := 0); (case h => exact y0 BK264.out); (case e => rfl)) Try.underlying25 rfl (by kernel_rfl)) rfl ?_
       exact ⟨_, y15, y38, (y3 HB.out GE263.out GE264.out)⟩
     ·rw [if_neg c12] at H
      exact absurd H (by simp)
    ·rw [if_neg c11] at H
     have c11b0 : decide (x6_1 < (l1.length : Int)) = false := decide_eq_false c11
     clear c11
     (first | rw [c11b0] | (simp only [i64_w, i32_w]; rw [c11b0]) | skip)
     obtain ⟨⟨t270, t271⟩, A250, H⟩ := ob H
     have A25 := Aside0.mk A250
     clear A250
     simp only [Option.some.injEq, Prod.mk.injEq] at H
     obtain ⟨rfl, rfl, rfl⟩ := H
     have hnb26 := NB263_264.out
     have hnc26 := NB264_263.out
     have hcz27_0 := zh BK263
     have hcz27_1 := zh1 BK263
     have hfz27_0 := zfr BK263 0
     have hfz27_1 := zfr BK263 1
     obtain ⟨Ao28, co28, eo28⟩ := Kd.V_slice HO_264001.out
     subst eo28
     go_wp2_with (first | ((with_reducible refine gate_callee (f := 37) rfl ?_); refine goesL_ (some 37) rfl rfl Try.func37 (by kernel_rfl) rfl #[.agg #[.int .i64 x264000_1, .slice Ao28 x264001_1.length co28]] rfl y9 ?_; (with_reducible refine (spec_l1Anew.calls k1 x264000_1 _ _ x264001_1 t270 t271 _ ?side1 ?side2 A25.out).mono ?_); (case side1 => exact y33 HO_264001.out); (case side2 => exact (Kd.V_reads' HO_264001.out).2.1); rintro e w29 ⟨v272, rfl, ho0, hb⟩; refine ⟨_, rfl, ?_⟩; replace HO_264001 := Aside0.mk (Kd.V_elder' (y11 HO_264001.out) (Kd.R_base ho0) hb); have HO273 := Aside0.mk (Kd.R_lower (Kd.R_newB (Kd.R_newB (Kd.R_newM (M := fun k_ => (w.heap.size ≤ k_)) ho0 (below_size (y3 HB.out GE263.out GE264.out)) (fun k_ h_ => h_)) (g := gb263) (o := .cells #[.int .i64 x264000_1, .slice Ao28 x264001_1.length co28] 25 (0, 0)) (y0 BK263.out)) (g := gb264) (o := .cells #[.int .i64 x265000_1, .slice none 0 0] 25 (0, 0)) (y0 BK264.out)) (below_size (y3 HB.out GE263.out GE264.out))); replace BK263 := zbb BK263 hb; replace BK264 := zbb BK264 hb; replace HB := Aside0.mk (below_step (y3 HB.out GE263.out GE264.out) hb); (try clear hb); (try clear hb2); (try clear hk); (try clear hi); (try clear ho0); have hcz30_0 := zh BK264; have hcz30_1 := zh1 BK264; have hfz30_0 := zfr BK264 0; have hfz30_1 := zfr BK264 1; obtain ⟨Ao31, co31, eo31⟩ := Kd.R_slice HO273.out; subst eo31))
     refine bodyPost_ret (results_ct rfl _ _ gb264 25 #[.int .i64 t270, .slice Ao31 t271.length co31] (0, 0) _ rfl (by (with_reducible repeat (first | refine blk_drewN ?_ _ | refine blk_drew ?_ | refine blk_alloc ?_ _)); refine blk_put (cs := #[.int .i64 t270, .slice none 0 0]) ?_ 1 _ rfl; (with_reducible repeat (first | refine blk_drewN ?_ _ | refine blk_drew ?_ | refine blk_alloc ?_ _)); apply blk_put (i := 0); (case h => exact y0 BK264.out); (case e => rfl)) Try.underlying25 rfl (by kernel_rfl)) rfl ?_
     exact ⟨_, y15, (by (with_reducible repeat (first | apply Kd.R_alloc | apply Kd.R_drewN | apply Kd.R_drew)); exact Kd.R_mono (Kd.R_far (p := ⟨gb264, 1, none⟩) (Kd.R_far (p := ⟨gb264, 0, none⟩) (Kd.R_mono HO273.out (fun k_ hk => (⟨hk, hk.2⟩ : _ ∧ k_ ≠ gb264))) (fun _ hk => hk.2) (.int .i64 t270)) (fun _ hk => hk.2) (.slice Ao31 t271.length co31)) (fun _ hk => hk.1.1.1.1)), (y3 HB.out GE263.out GE264.out)⟩
 ·replace c10 := Bool.eq_false_iff.mpr c10
  subst c10
  rw [if_neg (show ¬ (false = true) by decide)] at H
  simp only [Option.some.injEq, Prod.mk.injEq] at H
  obtain ⟨rfl, rfl, rfl⟩ := H
  have hnb32 := NB264_263.out
  have hnc32 := NB263_264.out
  have hcz33_0 := zh BK264
  have hcz33_1 := zh1 BK264
  have hfz33_0 := zfr BK264 0
  have hfz33_1 := zfr BK264 1
  go_wp2
  refine bodyPost_ret (results_ct rfl _ _ gb264 25 #[.int .i64 0, .slice none 0 0] (0, 0) _ rfl (by (with_reducible repeat (first | refine blk_drewN ?_ _ | refine blk_drew ?_ | refine blk_alloc ?_ _)); refine blk_put (cs := #[.int .i64 0, .slice none 0 0]) ?_ 1 _ rfl; (with_reducible repeat (first | refine blk_drewN ?_ _ | refine blk_drew ?_ | refine blk_alloc ?_ _)); apply blk_put (i := 0); (case h => exact y0 BK264.out); (case e => rfl)) Try.underlying25 rfl (by kernel_rfl)) rfl ?_
  exact ⟨_, y15, y38, (y3 HB.out GE263.out GE264.out)⟩
end Go.Proofs.Ythfflieeifakdaa.PA
end
section
namespace Go.Proofs.Ythfflieeifakdaa.PA
open Go.RowKit Go.Proofs.YthfflieeifakdaaW.PrintWords Go.Proofs.YthfflieeifakdaaW.PrintLast Go.Proofs.YthfflieeifakdaaW.PrintMore
attribute [local go_sem] max2_int min2_int max_two min_two max_three min_three max_four min_four
set_option linter.unusedVariables false
set_option linter.unusedSimpArgs false
mutual
def spec_l1Same.l0 : Nat → Int → List (S50) → List (S50) → Option (Bool)
 | 0, _, _, _ => none
 | k + 1, x5, x716000, x717000 => if x5 < (x716000.length : Int) then (if 0 ≤ x5 then (if x5 < (x717000.length : Int) then ((spec_l1Same.f k ((rd_T50 x716000 x5).f0) ((rd_T50 x717000 x5).f0)).bind fun t719 => (if t719 = true then (spec_l1Same.l0 k (wrap64 (x5 + 1)) x716000 x717000) else (some false))) else (none)) else (none)) else (some true)
def spec_l1Same.f : Nat → List (S50) → List (S50) → Option (Bool)
 | 0, _, _ => none
 | k + 1, l0_0, l1_0 => if (l0_0.length : Int) = (l1_0.length : Int) then (spec_l1Same.l0 k 0 l0_0 l1_0) else (some false)
end
theorem spec_l1Same.mono_l : ∀ k, (∀ y0 y1, LeO (spec_l1Same.f k y0 y1) (spec_l1Same.f (k + 1) y0 y1)) ∧ (∀ y0 y1 y2, LeO (spec_l1Same.l0 k y0 y1 y2) (spec_l1Same.l0 (k + 1) y0 y1 y2))
 | 0 => ⟨fun _ _ r h => by simp [spec_l1Same.f] at h, fun _ _ _ r h => by simp [spec_l1Same.l0] at h⟩
 | k + 1 => by
  obtain ⟨ih0, ih1⟩ := spec_l1Same.mono_l k
  refine ⟨?_, ?_⟩
  ·intro y0 y1
   unfold spec_l1Same.f
   repeat' first
   | (with_reducible exact ih0 _ _)
   | (with_reducible exact ih1 _ _ _)
   | (with_reducible exact LeO.refl _)
   | (with_reducible exact LeO.none _)
   | (with_reducible refine LeO.ite ?_ ?_)
   | (with_reducible refine LeO.bind ?_ (fun _ => ?_))
   | exact ih0 _ _
   | exact ih1 _ _ _
   | exact LeO.none _
   | refine LeO.ite ?_ ?_
   | refine LeO.bind ?_ (fun _ => ?_)
  ·intro y0 y1 y2
   unfold spec_l1Same.l0
   repeat' first
   | (with_reducible exact ih0 _ _)
   | (with_reducible exact ih1 _ _ _)
   | (with_reducible exact LeO.refl _)
   | (with_reducible exact LeO.none _)
   | (with_reducible refine LeO.ite ?_ ?_)
   | (with_reducible refine LeO.bind ?_ (fun _ => ?_))
   | exact ih0 _ _
   | exact ih1 _ _ _
   | exact LeO.none _
   | refine LeO.ite ?_ ?_
   | refine LeO.bind ?_ (fun _ => ?_)
theorem spec_l1Same.mono : ∀ a0 a1 k, LeO (spec_l1Same.f k a0 a1) (spec_l1Same.f (k + 1) a0 a1) := by
 intro a0 a1 k
 obtain ⟨ih0, ih1⟩ := spec_l1Same.mono_l k
 exact ih0 a0 a1
def spec_l1Same.T6 : Bool × List (List Nat × List Nat) := (true, [([], []), ([0], [0]), ([], []), ([1, 2], [1, 2]), ([3], [3]), ([], []), ([5], [5]), ([], []), ([6, 7], [6, 7]), ([8], [8]), ([4, 9], [4, 9]), ([10], [10])])
def spec_l1Same.B6 : List Nat := [0, 1, 0, 7, 15, 0, 32, 0, 224, 480, 1023, 2047]
theorem spec_l1Same.tab6 : rtab .any (opsOf Try.f50 6) = spec_l1Same.T6 := by kernel_rfl
theorem spec_l1Same.bits6 : waitsOk spec_l1Same.T6.2 spec_l1Same.B6 = true := by kernel_rfl
set_option maxHeartbeats 8000000 in
set_option maxRecDepth 100000 in
theorem spec_l1Same.calls (k : Nat) : ∀ (A0_0 : Option Addr) (c0_0 : Nat) (l0_0 : List (S50)) (A1_0 : Option Addr) (c1_0 : Nat) (l1_0 : List (S50)) (r : Bool) (w : World) (hr0_0 : Kd.C k50 w A0_0 l0_0.length l0_0) (hc0_0 : l0_0.length ≤ c0_0) (hr1_0 : Kd.C k50 w A1_0 l1_0.length l1_0) (hc1_0 : l1_0.length ≤ c1_0) (h : spec_l1Same.f k l0_0 l1_0 = some r),
  Calls Try.prog 50 #[.agg #[.slice A0_0 l0_0.length c0_0], .agg #[.slice A1_0 l1_0.length c1_0]] w fun e w' => e = .returned (.bool r) ∧ Below w.heap.size w w' := by
 induction k using Nat.strongRecOn with
 | _ k ih =>
 intro A0_0 c0_0 l0_0 A1_0 c1_0 l1_0 r w hr0_0 hc0_0 hr1_0 hc1_0 h
 cases k with
 | zero => exact absurd h (by simp [spec_l1Same.f])
 | succ k =>
 simp only [spec_l1Same.f] at h
 have hu50 := Try.underlying50
 have HR0_0 := Aside0.mk hr0_0
 have HC0_0 := Aside0.mk hc0_0
 clear hr0_0 hc0_0
 have HR1_0 := Aside0.mk hr1_0
 have HC1_0 := Aside0.mk hc1_0
 clear hr1_0 hc1_0
 have HB := Aside0.mk (Below.refl w.heap.size w)
 have H : (if (l0_0.length : Int) = (l1_0.length : Int) then (spec_l1Same.l0 k 0 l0_0 l1_0) else (some false)) = some r := h
 clear h
 have HZ3 := Aside0.mk H
 clear H
 go_enter Try.func50, Try.ntmps50
 go_upto_if 12 with (first | ((with_reducible refine gate_dst (N := 2) rfl ?_); refine zbx 2 #[.slice A0_0 l0_0.length c0_0] 50 ?_; intro gb715 hg w4 hbox hb; have BK715 := Aside0.mk hbox; have GW715 := Aside0.mk ((y10 hg HB.out : w.heap.size ≤ gb715)); have GE715 := Aside0.mk ((y10 hg HB.out : w.heap.size ≤ gb715)); replace HB := Aside0.mk (below_step (y6 HB.out) hb); clear hb hbox hg) | ((with_reducible refine gate_dst (N := 3) rfl ?_); refine zbx 3 #[.slice A1_0 l1_0.length c1_0] 50 ?_; intro gb716 hg w5 hbox hb; have BK716 := Aside0.mk hbox; have GW716 := Aside0.mk ((y12 hg HB.out GE715.out : w.heap.size ≤ gb716)); have GE716 := Aside0.mk ((y12 hg HB.out GE715.out : w.heap.size ≤ gb716)); replace HB := Aside0.mk (below_step (y7 HB.out GE715.out) hb); have NB715_716 := zltn hg BK715; have NB716_715 := zgtn hg BK715; replace BK715 := zbb BK715 hb; clear hb hbox hg; have hnb6 := NB715_716.out; have hnc6 := NB716_715.out; have hcz7_0 := zh BK715; have hfz7_0 := zfr BK715 0; have hcz8_0 := zh BK716; have hfz8_0 := zfr BK716 0))
 (try simp only [Act.put, List.setIfInBounds_toArray, List.set_cons_zero, List.set_cons_succ])
 have H := HZ3.out
 clear HZ3
 by_cases c9 : (l0_0.length : Int) = (l1_0.length : Int)
 ·rw [if_pos c9] at H
  have c9b0 : ((l0_0.length : Int) == (l1_0.length : Int)) = true := beq_iff_eq.mpr c9
  have c9b1 : ((l0_0.length : Int) != (l1_0.length : Int)) = false := bne_eq_false_iff_eq.mpr c9
  have c9b2 : (l0_0.length == l1_0.length) = true := by first | simpa using c9 | (simp at c9 ⊢; omega)
  clear c9
  (first | rw [c9b0] | (simp only [i64_w, i32_w]; rw [c9b0]) | skip)
  have H' := Aside0.mk H
  clear H
  go_wp2
  go_loopg [5] k (fun kq v5 w' => ∃ (x5_1 : Int), v5 = .int .i64 x5_1 ∧ Aside0 (spec_l1Same.l0 kq x5_1 l0_0 l1_0 = some r) ∧ Aside0 (kq ≤ k) ∧ Aside0 (w'.heap[gb715]? = some (.cells #[(.slice A0_0 l0_0.length c0_0)] 50 (0, 0))) ∧ Aside0 (w'.heap[gb716]? = some (.cells #[(.slice A1_0 l1_0.length c1_0)] 50 (0, 0))) ∧ Aside0 (Below w.heap.size w w'))
  case atStart => exact ⟨(0), y29, H', ⟨Nat.le_refl _⟩, ⟨(y0 BK715.out)⟩, ⟨(y0 BK716.out)⟩, ⟨(y3 HB.out GE715.out GE716.out)⟩⟩
  case round =>
   clear H'
   try clear c1
   try clear p2
   try clear c5
   try clear c6
   try clear c9
   try clear c9b0
   try clear c9b1
   try clear c9b2
   try clear hcz7_0
   try clear hcz8_0
   try clear hfz7_0
   try clear hfz8_0
   (try clear BK715); (try clear BK716)
   obtain ⟨x5_1, rfl, HA, HK1, BK715, BK716, HB⟩ := hrel
   cases gk with
   | zero => exact absurd HA.out (by simp [spec_l1Same.l0])
   | succ k1 =>
    have H := HA.out
    clear HA
    simp only [spec_l1Same.l0] at H
    by_cases c10 : x5_1 < (l0_0.length : Int)
    ·rw [if_pos c10] at H
     have c10b0 : decide (x5_1 < (l0_0.length : Int)) = true := decide_eq_true c10
     clear c10
     by_cases c11 : 0 ≤ x5_1
     ·rw [if_pos c11] at H
      have c11b0 : decide (0 ≤ x5_1) = true := decide_eq_true c11
      clear c11
      by_cases c12 : x5_1 < (l1_0.length : Int)
      ·rw [if_pos c12] at H
       have c12b0 : decide (x5_1 < (l1_0.length : Int)) = true := decide_eq_true c12
       clear c12
       obtain ⟨t719, A130, H⟩ := ob H
       have A13 := Aside0.mk A130
       clear A130
       have HZ14 := Aside0.mk H
       clear H
       have hnb15 := NB715_716.out
       have hnc15 := NB716_715.out
       have hcz16_0 := zh BK715
       have hfz16_0 := zfr BK715 0
       try go_wp2
       replace BK715 := Aside0.mk (blk_drew BK715.out)
       replace BK716 := Aside0.mk (blk_drew BK716.out)
       replace HB := Aside0.mk (below_drew1 HB.out)
       have p717 : 0 ≤ (x5_1 : Int) := of_decide_eq_true y23
       have q717 : x5_1 < (l0_0.length : Int) := of_decide_eq_true y23
       obtain ⟨ad717, A717_0, c717_0, e717, hx717_0, hl717_0, hi717_0⟩ := at_T50 HR0_0.out x5_1 p717 q717
       have hw717_0 := hx717_0
       cases e717
       replace hx717_0 := (HB.out.cell (World.block_lt_of_cell? w _ hx717_0)).trans hx717_0
       have HR717_0 := Aside0.mk hi717_0
       have HC717_0 := Aside0.mk hl717_0
       clear hi717_0 hl717_0
       replace p717 := eq_true p717
       replace q717 := eq_true q717
       have p718 : 0 ≤ (x5_1 : Int) := of_decide_eq_true y23
       have q718 : x5_1 < (l1_0.length : Int) := of_decide_eq_true y23
       obtain ⟨ad718, A718_0, c718_0, e718, hx718_0, hl718_0, hi718_0⟩ := at_T50 HR1_0.out x5_1 p718 q718
       have hw718_0 := hx718_0
       cases e718
       replace hx718_0 := (HB.out.cell (World.block_lt_of_cell? w _ hx718_0)).trans hx718_0
       have HR718_0 := Aside0.mk hi718_0
       have HC718_0 := Aside0.mk hl718_0
       clear hi718_0 hl718_0
       replace p718 := eq_true p718
       replace q718 := eq_true q718
       refine start_ (n := 12) (S := fun w' => w'.cell? ⟨gb715, 0, none⟩ = some (.slice (some ad717) l0_0.length c0_0) ∧ w'.cell? ⟨gb716, 0, none⟩ = some (.slice (some ad718) l1_0.length c1_0) ∧ w'.cell? (ad717.add (x5_1).toNat) = some (.slice A717_0 ((rd_T50 l0_0 x5_1).f0).length c717_0) ∧ w'.cell? (ad718.add (x5_1).toNat) = some (.slice A718_0 ((rd_T50 l1_0 x5_1).f0).length c718_0)) (ds := []) #[false, false, false, false, false, false, false, false, false, false, false, false] (by kernel_rfl) rfl rfl ⟨(blk_cell BK715.out 0).trans rfl, (blk_cell BK716.out 0).trans rfl, ((HB.out.cell (World.block_lt_of_cell? w _ hw717_0)).trans hw717_0), ((HB.out.cell (World.block_lt_of_cell? w _ hw718_0)).trans hw718_0)⟩ (fun hHeld => ?_); refine with_tabW spec_l1Same.tab6 spec_l1Same.bits6 (fun HT_ HW_ => ?_)
       generalize wr.drew = w17 at BK715 BK716 HB HR717_0 HR718_0 hx717_0 hx718_0 hHeld ⊢
       refine zp 0 (some 20) HT_ ?_
       refine zp 2 (some 22) HT_ ?_
       refine zp 5 (some 25) HT_ ?_
       refine zp 7 (some 27) HT_ ?_
       refine zt4 1 (some 21) HT_ HW_ hHeld ?_
       refine zp 3 (some 23) HT_ ?_
       refine zt4 4 (some 24) HT_ HW_ hHeld ?_
       refine zt4 6 (some 26) HT_ HW_ hHeld ?_
       refine zp 8 (some 28) HT_ ?_
       refine zt4 9 (some 29) HT_ HW_ hHeld ?_
       refine one_ (i := 10) (N := some 30) #[true, true, true, true, true, true, true, true, true, true, true, false] rfl rfl (one_of HT_.out (by kernel_rfl)) (by decide) (fun K hK => ?_)
       refine goes_ Try.func50 (by kernel_rfl) rfl #[.agg #[.slice A717_0 ((rd_T50 l0_0 x5_1).f0).length c717_0], .agg #[.slice A718_0 ((rd_T50 l1_0 x5_1).f0).length c718_0]] (by rfl) rfl rfl y9 ?_
       with_reducible refine (ih k1 (y69 HK1.out) _ _ ((rd_T50 l0_0 x5_1).f0) _ _ ((rd_T50 l1_0 x5_1).f0) t719 _ ?side1 ?side2 ?side3 ?side4 A13.out).mono ?_
       (case side1 => exact y18 HR717_0.out HB.out)
       (case side2 => exact HC717_0.out)
       (case side3 => exact y18 HR718_0.out HB.out)
       (case side4 => exact HC718_0.out)
       rintro e w18 ⟨rfl, hb⟩
       refine ⟨_, rfl, ?_⟩
       replace BK715 := zbb BK715 hb
       replace BK716 := zbb BK716 hb
       replace HB := Aside0.mk (below_step (y3 HB.out GE715.out GE716.out) hb)
       (try clear hb)
       (try clear hb2)
       (try clear hk)
       (try clear hi)
       refine hK.out _ _ ⟨(blk_cell BK715.out 0).trans rfl, (blk_cell BK716.out 0).trans rfl, ((HB.out.cell (World.block_lt_of_cell? w _ hw717_0)).trans hw717_0), ((HB.out.cell (World.block_lt_of_cell? w _ hw718_0)).trans hw718_0)⟩ (fun hHeld => ?_)
       clear hK K
       refine norm_ (a' := ?_) ?_ ?_
       rotate_left
       ·show Act.put _ (some 30) _ = _
        simp only [Act.put, List.setIfInBounds_toArray, List.set_cons_zero, List.set_cons_succ, i64_w, i32_w]
        rfl
       refine zp 11 (some 31) HT_ ?_
       refine done_ (done_of HT_.out (by kernel_rfl)) ?_
       have H := HZ14.out
       clear HZ14
       by_cases c19 : t719 = true
       ·subst c19
        rw [if_pos rfl] at H
        have H' := Aside0.mk H
        clear H
        go_wp2
        go_roundg k1
        case measure => have := HK1.out; omega
        case rel => exact ⟨(wrap64 (x5_1 + 1)), y29, H', ⟨(y69 HK1.out)⟩, ⟨(y0 BK715.out)⟩, ⟨(y0 BK716.out)⟩, ⟨(y3 HB.out GE715.out GE716.out)⟩⟩
       ·replace c19 := Bool.eq_false_iff.mpr c19
        subst c19
        rw [if_neg (show ¬ (false = true) by decide)] at H
        obtain rfl := Option.some.inj H
        go_wp2
        go_ret
        exact ⟨y15, (y3 HB.out GE715.out GE716.out)⟩
      ·rw [if_neg c12] at H
       exact absurd H (by simp)
     ·rw [if_neg c11] at H
      exact absurd H (by simp)
    ·rw [if_neg c10] at H
     have c10b0 : decide (x5_1 < (l0_0.length : Int)) = false := decide_eq_false c10
     clear c10
     obtain rfl := Option.some.inj H
     have hnb20 := NB715_716.out
     have hnc20 := NB716_715.out
     have hcz21_0 := zh BK715
     have hfz21_0 := zfr BK715 0
     go_wp2
     go_ret
     exact ⟨y15, (y3 HB.out GE715.out GE716.out)⟩
 ·rw [if_neg c9] at H
  have c9b0 : ((l0_0.length : Int) == (l1_0.length : Int)) = false := beq_eq_false_iff_ne.mpr c9
  have c9b1 : ((l0_0.length : Int) != (l1_0.length : Int)) = true := bne_iff_ne.mpr c9
  have c9b2 : (l0_0.length == l1_0.length) = false := by first | simpa using c9 | (simp at c9 ⊢; omega)
  (first | rw [c9b0] | (simp only [i64_w, i32_w]; rw [c9b0]) | skip)
  obtain rfl := Option.some.inj H
  go_wp2
  go_ret
  exact ⟨y15, (y3 HB.out GE715.out GE716.out)⟩
end Go.Proofs.Ythfflieeifakdaa.PA
end
section
namespace Go.Proofs.Ythfflieeifakdaa.PA
open Go.RowKit Go.Proofs.YthfflieeifakdaaW.PrintWords Go.Proofs.YthfflieeifakdaaW.PrintLast Go.Proofs.YthfflieeifakdaaW.PrintMore
attribute [local go_sem] max2_int min2_int max_two min_two max_three min_three max_four min_four
set_option linter.unusedVariables false
set_option linter.unusedSimpArgs false
def spec_l1Put.f : Nat → Int → List (S25) → List Int → Int → List (S25) → Option (Int × (List (S25)))
 | 0, _, _, _, _, _ => none
 | k + 1, a0_0, l0_1, l1, a2_0, l2_1 => if (l1.length : Int) = 0 then ((spec_l1Anew.f k a2_0 l2_1).bind fun bt723 => (some (bt723.1, bt723.2))) else ((spec_l1Anew.f k a0_0 l0_1).bind fun bt727 => (if 0 < (l1.length : Int) then (if 0 ≤ (rd l1 0) then (if (rd l1 0) < (l0_1.length : Int) then (if 1 ≤ (l1.length : Int) then ((spec_l1Put.f k ((rd_T25 l0_1 (rd l1 0)).f0) ((rd_T25 l0_1 (rd l1 0)).f1) (l1.drop 1) a2_0 l2_1).bind fun bt736 => (if (rd l1 0) < (bt727.2.length : Int) then (some (bt727.1, (bt727.2.set ((rd l1 0) : Int).toNat (⟨bt736.1, bt736.2⟩ : S25)))) else (none))) else (none)) else (none)) else (none)) else (none)))
theorem spec_l1Put.mono_l : ∀ k, (∀ y0 y1 y2 y3 y4, LeO (spec_l1Put.f k y0 y1 y2 y3 y4) (spec_l1Put.f (k + 1) y0 y1 y2 y3 y4))
 | 0 => fun _ _ _ _ _ r h => by simp [spec_l1Put.f] at h
 | k + 1 => by
  have ih0 := spec_l1Put.mono_l k
  ·intro y0 y1 y2 y3 y4
   unfold spec_l1Put.f
   repeat' first
   | (with_reducible exact ih0 _ _ _ _ _)
   | (with_reducible exact spec_l1Anew.mono _ _ _)
   | (with_reducible exact LeO.refl _)
   | (with_reducible exact LeO.none _)
   | (with_reducible refine LeO.ite ?_ ?_)
   | (with_reducible refine LeO.bind ?_ (fun _ => ?_))
   | exact ih0 _ _ _ _ _
   | exact spec_l1Anew.mono _ _ _
   | exact LeO.none _
   | refine LeO.ite ?_ ?_
   | refine LeO.bind ?_ (fun _ => ?_)
theorem spec_l1Put.mono : ∀ a0 a1 a2 a3 a4 k, LeO (spec_l1Put.f k a0 a1 a2 a3 a4) (spec_l1Put.f (k + 1) a0 a1 a2 a3 a4) := by
 intro a0 a1 a2 a3 a4 k
 have ih0 := spec_l1Put.mono_l k
 exact ih0 a0 a1 a2 a3 a4
def spec_l1Put.T4 : Bool × List (List Nat × List Nat) := (true, [([], []), ([0], [0]), ([], []), ([2], [2]), ([3], [3]), ([], []), ([5], [5]), ([], []), ([7], [7]), ([8], [8]), ([6, 9], [6, 9]), ([10], [10]), ([], []), ([12], [12]), ([], []), ([11, 13, 14], [11, 13, 14]), ([1, 4, 0, 1, 2, 3, 4, 5, 6, 7, 8, 9, 10, 11, 12, 13, 14, 15], [1, 4]), ([16, 15, 15, 0, 1, 2, 3, 4, 5, 6, 7, 8, 9, 10, 11, 12, 13, 14, 15], [15, 16])])
def spec_l1Put.B4 : List Nat := [0, 1, 0, 4, 12, 0, 32, 0, 128, 384, 992, 2016, 0, 4096, 0, 32736, 65535, 131071]
theorem spec_l1Put.tab4 : rtab .any (opsOf Try.f51 4) = spec_l1Put.T4 := by kernel_rfl
theorem spec_l1Put.bits4 : waitsOk spec_l1Put.T4.2 spec_l1Put.B4 = true := by kernel_rfl
set_option maxHeartbeats 8000000 in
set_option maxRecDepth 100000 in
theorem spec_l1Put.calls (k : Nat) : ∀ (a0_0 : Int) (A0_1 : Option Addr) (c0_1 : Nat) (l0_1 : List (S25)) (A1 : Option Addr) (c1 : Nat) (l1 : List Int) (a2_0 : Int) (A2_1 : Option Addr) (c2_1 : Nat) (l2_1 : List (S25)) (r1 : Int) (r2 : List (S25)) (w : World) (hr0_1 : Kd.C k25 w A0_1 l0_1.length l0_1) (hc0_1 : l0_1.length ≤ c0_1) (hr1 : Kd.C (Kd.int .i64) w A1 l1.length l1) (hc1 : l1.length ≤ c1) (hr2_1 : Kd.C k25 w A2_1 l2_1.length l2_1) (hc2_1 : l2_1.length ≤ c2_1) (h : spec_l1Put.f k a0_0 l0_1 l1 a2_0 l2_1 = some (r1, r2)),
  Calls Try.prog 51 #[.agg #[.int .i64 a0_0, .slice A0_1 l0_1.length c0_1], .slice A1 l1.length c1, .agg #[.int .i64 a2_0, .slice A2_1 l2_1.length c2_1]] w fun e w' => ∃ v1_ : Value, e = .returned (.agg #[.int .i64 r1, v1_]) ∧ Kd.N k25 25 w' w.heap.size (fun k_ => (w.heap.size ≤ k_)) v1_ r2 ∧ Below w.heap.size w w' := by
 induction k using Nat.strongRecOn with
 | _ k ih =>
 intro a0_0 A0_1 c0_1 l0_1 A1 c1 l1 a2_0 A2_1 c2_1 l2_1 r1 r2 w hr0_1 hc0_1 hr1 hc1 hr2_1 hc2_1 h
 cases k with
 | zero => exact absurd h (by simp [spec_l1Put.f])
 | succ k =>
 simp only [spec_l1Put.f] at h
 have hu25 := Try.underlying25
 have HR0_1 := Aside0.mk hr0_1
 have HC0_1 := Aside0.mk hc0_1
 clear hr0_1 hc0_1
 have HR1 := Aside0.mk hr1
 have HC1 := Aside0.mk hc1
 clear hr1 hc1
 have HR2_1 := Aside0.mk hr2_1
 have HC2_1 := Aside0.mk hc2_1
 clear hr2_1 hc2_1
 have HB := Aside0.mk (Below.refl w.heap.size w)
 have H : (if (l1.length : Int) = 0 then ((spec_l1Anew.f k a2_0 l2_1).bind fun bt723 => (some (bt723.1, bt723.2))) else ((spec_l1Anew.f k a0_0 l0_1).bind fun bt727 => (if 0 < (l1.length : Int) then (if 0 ≤ (rd l1 0) then (if (rd l1 0) < (l0_1.length : Int) then (if 1 ≤ (l1.length : Int) then ((spec_l1Put.f k ((rd_T25 l0_1 (rd l1 0)).f0) ((rd_T25 l0_1 (rd l1 0)).f1) (l1.drop 1) a2_0 l2_1).bind fun bt736 => (if (rd l1 0) < (bt727.2.length : Int) then (some (bt727.1, (bt727.2.set ((rd l1 0) : Int).toNat (⟨bt736.1, bt736.2⟩ : S25)))) else (none))) else (none)) else (none)) else (none)) else (none)))) = some (r1, r2) := h
 clear h
 have HZ4 := Aside0.mk H
 clear H
 go_enter Try.func51, Try.ntmps51
 go_upto_if 10 with (first | ((with_reducible refine gate_dst (N := 3) rfl ?_); refine zbx 3 #[.int .i64 a0_0, .slice A0_1 l0_1.length c0_1] 25 ?_; intro gb720 hg w5 hbox hb; have BK720 := Aside0.mk hbox; have GW720 := Aside0.mk ((y10 hg HB.out : w.heap.size ≤ gb720)); have GE720 := Aside0.mk ((y10 hg HB.out : w.heap.size ≤ gb720)); replace HB := Aside0.mk (below_step (y6 HB.out) hb); clear hb hbox hg) | ((with_reducible refine gate_dst (N := 5) rfl ?_); refine zbx 5 #[.int .i64 a2_0, .slice A2_1 l2_1.length c2_1] 25 ?_; intro gb721 hg w6 hbox hb; have BK721 := Aside0.mk hbox; have GW721 := Aside0.mk ((y12 hg HB.out GE720.out : w.heap.size ≤ gb721)); have GE721 := Aside0.mk ((y12 hg HB.out GE720.out : w.heap.size ≤ gb721)); replace HB := Aside0.mk (below_step (y7 HB.out GE720.out) hb); have NB720_721 := zltn hg BK720; have NB721_720 := zgtn hg BK720; replace BK720 := zbb BK720 hb; clear hb hbox hg) | ((with_reducible refine gate_dst (N := 6) rfl ?_); refine zbx 6 #[.int .i64 0, .slice none 0 0] 25 ?_; intro gb722 hg w7 hbox hb; have BK722 := Aside0.mk hbox; have GW722 := Aside0.mk ((y16 hg HB.out GE720.out GE721.out : w.heap.size ≤ gb722)); have GE722 := Aside0.mk ((y16 hg HB.out GE720.out GE721.out : w.heap.size ≤ gb722)); replace HB := Aside0.mk (below_step (y3 HB.out GE720.out GE721.out) hb); have NB720_722 := zltn hg BK720; have NB722_720 := zgtn hg BK720; replace BK720 := zbb BK720 hb; have NB721_722 := zltn hg BK721; have NB722_721 := zgtn hg BK721; replace BK721 := zbb BK721 hb; clear hb hbox hg))
 (try simp only [Act.put, List.setIfInBounds_toArray, List.set_cons_zero, List.set_cons_succ])
 have H := HZ4.out
 clear HZ4
 by_cases c8 : (l1.length : Int) = 0
 ·rw [if_pos c8] at H
  have c8b0 : ((l1.length : Int) == 0) = true := beq_iff_eq.mpr c8
  have c8b1 : ((l1.length : Int) != 0) = false := bne_eq_false_iff_eq.mpr c8
  clear c8
  (first | rw [c8b0] | (simp only [i64_w, i32_w]; rw [c8b0]) | skip)
  obtain ⟨⟨t723, t724⟩, A90, H⟩ := ob H
  have A9 := Aside0.mk A90
  clear A90
  simp only [Option.some.injEq, Prod.mk.injEq] at H
  obtain ⟨rfl, rfl⟩ := H
  have hnb10 := NB721_720.out
  have hnc10 := NB720_721.out
  have hnb11 := NB721_722.out
  have hnc11 := NB722_721.out
  have hcz12_0 := zh BK721
  have hcz12_1 := zh1 BK721
  have hfz12_0 := zfr BK721 0
  have hfz12_1 := zfr BK721 1
  go_wp2_with (first | ((with_reducible refine gate_callee (f := 37) rfl ?_); refine goesL_ (some 12) rfl rfl Try.func37 (by kernel_rfl) rfl #[.agg #[.int .i64 a2_0, .slice A2_1 l2_1.length c2_1]] rfl y9 ?_; (with_reducible refine (spec_l1Anew.calls k a2_0 _ _ l2_1 t723 t724 _ ?side1 ?side2 A9.out).mono ?_); (case side1 => exact y18 HR2_1.out HB.out); (case side2 => exact HC2_1.out); rintro e w13 ⟨v725, rfl, ho0, hb⟩; refine ⟨_, rfl, ?_⟩; have HO726 := Aside0.mk (Kd.N_lower (Kd.N_mono (ok' := fun k_ => (w.heap.size ≤ k_) ∧ k_ ≠ gb720 ∧ k_ ≠ gb721 ∧ k_ ≠ gb722) (Kd.R_N (Kd.R_bound ho0)) (fun k_ hk_ => ⟨(Nat.le_trans (below_size (y4 HB.out GE720.out GE721.out GE722.out)) hk_.2.1), (Kd.freshB (g := gb720) (o := .cells #[.int .i64 a0_0, .slice A0_1 l0_1.length c0_1] 25 (0, 0)) (y0 BK720.out) k_ hk_.2.1), (Kd.freshB (g := gb721) (o := .cells #[.int .i64 a2_0, .slice A2_1 l2_1.length c2_1] 25 (0, 0)) (y0 BK721.out) k_ hk_.2.1), (Kd.freshB (g := gb722) (o := .cells #[.int .i64 0, .slice none 0 0] 25 (0, 0)) (y0 BK722.out) k_ hk_.2.1)⟩)) (below_size (y4 HB.out GE720.out GE721.out GE722.out))); replace BK720 := zbb BK720 hb; replace BK721 := zbb BK721 hb; replace BK722 := zbb BK722 hb; replace HB := Aside0.mk (below_step (y4 HB.out GE720.out GE721.out GE722.out) hb); (try clear hb); (try clear hb2); (try clear hk); (try clear hi); (try clear ho0); have hnb14 := NB722_720.out; have hnc14 := NB720_722.out; have hcz15_0 := zh BK722; have hcz15_1 := zh1 BK722; have hfz15_0 := zfr BK722 0; have hfz15_1 := zfr BK722 1; obtain ⟨Ao16, co16, eo16⟩ := Kd.N_slice HO726.out; subst eo16))
  refine bodyPost_ret (results_cell_row rfl _ _ gb722 25 #[.int .i64 t723, .slice Ao16 t724.length co16] (0, 0) _ rfl (by (with_reducible repeat (first | refine blk_drewN ?_ _ | refine blk_drew ?_ | refine blk_alloc ?_ _)); refine blk_put (cs := #[.int .i64 t723, .slice none 0 0]) ?_ 1 _ rfl; (with_reducible repeat (first | refine blk_drewN ?_ _ | refine blk_drew ?_ | refine blk_alloc ?_ _)); apply blk_put (i := 0); (case h => exact y0 BK722.out); (case e => rfl)) Try.underlying25 rfl (by kernel_rfl)) rfl ?_
  exact ⟨_, y15, (by (with_reducible repeat (first | apply Kd.N_alloc | apply Kd.N_drewN | apply Kd.N_drew)); exact Kd.N_mono (Kd.N_far (p := ⟨gb722, 1, none⟩) (Kd.N_far (p := ⟨gb722, 0, none⟩) (Kd.N_mono HO726.out (fun k_ hk => (⟨hk, hk.2.2.2⟩ : _ ∧ k_ ≠ gb722))) (fun _ hk => hk.2) (.int .i64 t723)) (fun _ hk => hk.2) (.slice Ao16 t724.length co16)) (fun _ hk => hk.1.1)), (y4 HB.out GE720.out GE721.out GE722.out)⟩
 ·rw [if_neg c8] at H
  have c8b0 : ((l1.length : Int) == 0) = false := beq_eq_false_iff_ne.mpr c8
  have c8b1 : ((l1.length : Int) != 0) = true := bne_iff_ne.mpr c8
  have c8b2 : ¬ (l1 = []) := fun h_ => c8 (by rw [h_]; rfl)
  (first | rw [c8b0] | (simp only [i64_w, i32_w]; rw [c8b0]) | skip)
  obtain ⟨⟨t727, t728⟩, A170, H⟩ := ob H
  have A17 := Aside0.mk A170
  clear A170
  by_cases c18 : 0 < (l1.length : Int)
  ·rw [if_pos c18] at H
   have c18b0 : decide (0 < (l1.length : Int)) = true := decide_eq_true c18
   have c18b1 : decide (0 < l1.length) = true := decide_eq_true (by omega)
   clear c18
   by_cases c19 : 0 ≤ (rd l1 0)
   ·rw [if_pos c19] at H
    have c19b0 : decide (0 ≤ (rd l1 0)) = true := decide_eq_true c19
    clear c19
    by_cases c20 : (rd l1 0) < (l0_1.length : Int)
    ·rw [if_pos c20] at H
     have c20b0 : decide ((rd l1 0) < (l0_1.length : Int)) = true := decide_eq_true c20
     clear c20
     by_cases c21 : 1 ≤ (l1.length : Int)
     ·rw [if_pos c21] at H
      have c21b0 := eq_true c21
      have c21b1 : decide (1 ≤ (l1.length : Int)) = true := decide_eq_true c21
      clear c21
      obtain ⟨⟨t736, t737⟩, A220, H⟩ := ob H
      have A22 := Aside0.mk A220
      clear A220
      by_cases c23 : (rd l1 0) < (t728.length : Int)
      ·rw [if_pos c23] at H
       have c23b0 : decide ((rd l1 0) < (t728.length : Int)) = true := decide_eq_true c23
       clear c23
       obtain ⟨y740, hy740⟩ : ∃ y_ : List (S25), y_ = (t728.set ((rd l1 0) : Int).toNat (⟨t736, t737⟩ : S25)) := ⟨_, rfl⟩
       replace H : (some (t727, y740)) = some (r1, r2) := by first | (rw [hy740]; with_reducible exact H) | (have H2_ := (Option.bind_some _ _).symm.trans H; rw [hy740]; with_reducible exact H2_) | (have H2_ := (Option.bind_some _ _).symm.trans H; with_reducible exact H2_) | with_reducible exact H | (rw [hy740]; exact H) | exact H
       have Ny740 := Aside0.mk hy740
       clear hy740
       simp only [Option.some.injEq, Prod.mk.injEq] at H
       obtain ⟨rfl, rfl⟩ := H
       have hnb25 := NB720_721.out
       have hnc25 := NB721_720.out
       have hnb26 := NB720_722.out
       have hnc26 := NB722_720.out
       have hcz27_0 := zh BK720
       have hcz27_1 := zh1 BK720
       have hfz27_0 := zfr BK720 0
       have hfz27_1 := zfr BK720 1
       try go_wp2_with (first | ((with_reducible refine gate_callee (f := 37) rfl ?_); refine goesL_ (some 14) rfl rfl Try.func37 (by kernel_rfl) rfl #[.agg #[.int .i64 a0_0, .slice A0_1 l0_1.length c0_1]] rfl y9 ?_; (with_reducible refine (spec_l1Anew.calls k a0_0 _ _ l0_1 t727 t728 _ ?side1 ?side2 A17.out).mono ?_); (case side1 => exact y18 HR0_1.out HB.out); (case side2 => exact HC0_1.out); rintro e w28 ⟨v729, rfl, ho0, hb⟩; refine ⟨_, rfl, ?_⟩; have HO730 := Aside0.mk (Kd.N_lower (Kd.N_mono (ok' := fun k_ => (w.heap.size ≤ k_) ∧ k_ ≠ gb720 ∧ k_ ≠ gb721 ∧ k_ ≠ gb722) (Kd.R_N (Kd.R_bound ho0)) (fun k_ hk_ => ⟨(Nat.le_trans (below_size (y4 HB.out GE720.out GE721.out GE722.out)) hk_.2.1), (Kd.freshB (g := gb720) (o := .cells #[.int .i64 a0_0, .slice A0_1 l0_1.length c0_1] 25 (0, 0)) (y0 BK720.out) k_ hk_.2.1), (Kd.freshB (g := gb721) (o := .cells #[.int .i64 a2_0, .slice A2_1 l2_1.length c2_1] 25 (0, 0)) (y0 BK721.out) k_ hk_.2.1), (Kd.freshB (g := gb722) (o := .cells #[.int .i64 0, .slice none 0 0] 25 (0, 0)) (y0 BK722.out) k_ hk_.2.1)⟩)) (below_size (y4 HB.out GE720.out GE721.out GE722.out))); replace BK720 := zbb BK720 hb; replace BK721 := zbb BK721 hb; replace BK722 := zbb BK722 hb; replace HB := Aside0.mk (below_step (y4 HB.out GE720.out GE721.out GE722.out) hb); (try clear hb); (try clear hb2); (try clear hk); (try clear hi); (try clear ho0)) | ((with_reducible refine gate_dst (N := 7) rfl ?_); refine zbx 7 #[.int .i64 0, .slice none 0 0] 25 ?_; intro gb731 hg w29 hbox hb; replace HO730 := Aside0.mk (Kd.N_below (Kd.N_elderB (y2 HO730.out) gb731 (Nat.le_of_eq hg.symm)) hb); have BK731 := Aside0.mk hbox; have GW731 := Aside0.mk ((y20 hg HB.out GE720.out GE721.out GE722.out : w.heap.size ≤ gb731)); have GE731 := Aside0.mk ((y20 hg HB.out GE720.out GE721.out GE722.out : w.heap.size ≤ gb731)); replace HB := Aside0.mk (below_step (y4 HB.out GE720.out GE721.out GE722.out) hb); have NB720_731 := zltn hg BK720; have NB731_720 := zgtn hg BK720; replace BK720 := zbb BK720 hb; have NB721_731 := zltn hg BK721; have NB731_721 := zgtn hg BK721; replace BK721 := zbb BK721 hb; have NB722_731 := zltn hg BK722; have NB731_722 := zgtn hg BK722; replace BK722 := zbb BK722 hb; clear hb hbox hg; have hnb30 := NB731_720.out; have hnc30 := NB720_731.out; have hnb31 := NB731_721.out; have hnc31 := NB721_731.out; have hnb32 := NB731_722.out; have hnc32 := NB722_731.out; have hcz33_0 := zh BK731; have hcz33_1 := zh1 BK731; have hfz33_0 := zfr BK731 0; have hfz33_1 := zfr BK731 1; obtain ⟨Ao34, co34, eo34⟩ := Kd.N_slice HO730.out; subst eo34))
       have n0_ : Aside0 (Kd.N k25 25 ((w29.setCell ⟨gb731, 0, none⟩ (.int .i64 t727)).setCell ⟨gb731, 1, none⟩ (.slice Ao34 t728.length co34)) w.heap.size (fun k_ => (w.heap.size ≤ k_) ∧ k_ ≠ gb720 ∧ k_ ≠ gb721 ∧ k_ ≠ gb722 ∧ k_ ≠ gb731) (.slice Ao34 t728.length co34) t728) := ⟨(by (with_reducible repeat (first | apply Kd.N_alloc | apply Kd.N_drewN | apply Kd.N_drew)); exact Kd.N_mono (Kd.N_far (p := ⟨gb731, 1, none⟩) (Kd.N_far (p := ⟨gb731, 0, none⟩) (Kd.N_mono HO730.out (fun k_ hk => (⟨hk, hk.2⟩ : _ ∧ k_ ≠ gb731))) (fun _ hk => hk.2) (.int .i64 t727)) (fun _ hk => hk.2) (.slice Ao34 t728.length co34)) (fun _ hk => ⟨hk.1.1.1, ⟨hk.1.1.2.1, ⟨hk.1.1.2.2.1, ⟨hk.1.1.2.2.2, hk.1.2⟩⟩⟩⟩))⟩
       have n1_ : Aside0 (((w29.setCell ⟨gb731, 0, none⟩ (.int .i64 t727)).setCell ⟨gb731, 1, none⟩ (.slice Ao34 t728.length co34)).heap[gb720]? = some (.cells #[.int .i64 a0_0, .slice A0_1 l0_1.length c0_1] 25 (0, 0))) := ⟨(y1 NB720_731.out BK720.out)⟩
       have n2_ : Aside0 (((w29.setCell ⟨gb731, 0, none⟩ (.int .i64 t727)).setCell ⟨gb731, 1, none⟩ (.slice Ao34 t728.length co34)).heap[gb721]? = some (.cells #[.int .i64 a2_0, .slice A2_1 l2_1.length c2_1] 25 (0, 0))) := ⟨(y1 NB721_731.out BK721.out)⟩
       have n3_ : Aside0 (((w29.setCell ⟨gb731, 0, none⟩ (.int .i64 t727)).setCell ⟨gb731, 1, none⟩ (.slice Ao34 t728.length co34)).heap[gb722]? = some (.cells #[.int .i64 0, .slice none 0 0] 25 (0, 0))) := ⟨(y1 NB722_731.out BK722.out)⟩
       have n4_ : Aside0 (((w29.setCell ⟨gb731, 0, none⟩ (.int .i64 t727)).setCell ⟨gb731, 1, none⟩ (.slice Ao34 t728.length co34)).heap[gb731]? = some (.cells #[.int .i64 t727, .slice Ao34 t728.length co34] 25 (0, 0))) := ⟨(by (with_reducible repeat (first | refine blk_drewN ?_ _ | refine blk_drew ?_ | refine blk_alloc ?_ _)); refine blk_put (cs := #[.int .i64 t727, .slice none 0 0]) ?_ 1 _ rfl; (with_reducible repeat (first | refine blk_drewN ?_ _ | refine blk_drew ?_ | refine blk_alloc ?_ _)); refine blk_put (cs := #[.int .i64 0, .slice none 0 0]) ?_ 0 _ rfl; (with_reducible repeat (first | refine blk_drewN ?_ _ | refine blk_drew ?_ | refine blk_alloc ?_ _)); exact BK731.out)⟩
       have n5_ : Aside0 (Below w.heap.size w ((w29.setCell ⟨gb731, 0, none⟩ (.int .i64 t727)).setCell ⟨gb731, 1, none⟩ (.slice Ao34 t728.length co34))) := ⟨(y5 HB.out GE720.out GE721.out GE722.out GE731.out)⟩
       (try clear HO730)
       (try clear BK720)
       (try clear BK721)
       (try clear BK722)
       (try clear BK731)
       (try clear HB)
       generalize ((w29.setCell ⟨gb731, 0, none⟩ (.int .i64 t727)).setCell ⟨gb731, 1, none⟩ (.slice Ao34 t728.length co34)) = w35 at n0_ n1_ n2_ n3_ n4_ n5_ ⊢
       have HO730 := n0_
       have BK720 := n1_
       have BK721 := n2_
       have BK722 := n3_
       have BK731 := n4_
       have HB := n5_
       clear n0_ n1_ n2_ n3_ n4_ n5_
       replace HO730 := Aside0.mk (Kd.N_drew HO730.out)
       replace BK720 := Aside0.mk (blk_drew BK720.out)
       replace BK721 := Aside0.mk (blk_drew BK721.out)
       replace BK722 := Aside0.mk (blk_drew BK722.out)
       replace BK731 := Aside0.mk (blk_drew BK731.out)
       replace HB := Aside0.mk (below_drew1 HB.out)
       have p732 : 0 ≤ (0 : Int) := (by omega)
       have q732 : 0 < (l1.length : Int) := of_decide_eq_true y23
       obtain ⟨ad732, e732, hx732_0⟩ := Kd.at_int HR1.out 0 p732 q732
       have hw732_0 := hx732_0
       (try rw [show ((0 : Int)).toNat = 0 from rfl] at hw732_0)
       (try rw [show 0 * 1 = 0 from rfl] at hw732_0)
       (try rw [Addr.add_zero'] at hw732_0)
       cases e732
       have qi732 : (0 < l1.length) = True := eq_true (by omega)
       (try rw [show ((0 : Int)).toNat = 0 from rfl] at hx732_0)
       (try rw [Addr.add_zero'] at hx732_0)
       replace hx732_0 := (HB.out.cell (World.block_lt_of_cell? w _ hx732_0)).trans hx732_0
       replace p732 := eq_true p732
       replace q732 := eq_true q732
       have p733 : 0 ≤ (0 : Int) := (by omega)
       have q733 : 0 < (l1.length : Int) := of_decide_eq_true y23
       obtain ⟨ad733, e733, hx733_0⟩ := Kd.at_int HR1.out 0 p733 q733
       have hw733_0 := hx733_0
       (try rw [show ((0 : Int)).toNat = 0 from rfl] at hw733_0)
       (try rw [show 0 * 1 = 0 from rfl] at hw733_0)
       (try rw [Addr.add_zero'] at hw733_0)
       obtain rfl : ad732 = ad733 := (by injection e733)
       have qi733 : (0 < l1.length) = True := eq_true (by omega)
       (try rw [show ((0 : Int)).toNat = 0 from rfl] at hx733_0)
       (try rw [Addr.add_zero'] at hx733_0)
       replace hx733_0 := (HB.out.cell (World.block_lt_of_cell? w _ hx733_0)).trans hx733_0
       replace p733 := eq_true p733
       replace q733 := eq_true q733
       have p734 : 0 ≤ ((rd l1 0) : Int) := of_decide_eq_true y23
       have q734 : (rd l1 0) < (l0_1.length : Int) := of_decide_eq_true y23
       obtain ⟨ad734, A734_1, c734_1, e734, hx734_0, hx734_1, hl734_1, hi734_1⟩ := at_T25 HR0_1.out (rd l1 0) p734 q734
       have hw734_1 := hx734_1
       have hw734_0 := hx734_0
       cases e734
       replace hx734_0 := (HB.out.cell (World.block_lt_of_cell? w _ hx734_0)).trans hx734_0
       replace hx734_1 := (HB.out.cell (World.block_lt_of_cell? w _ hx734_1)).trans hx734_1
       have HR734_1 := Aside0.mk hi734_1
       have HC734_1 := Aside0.mk hl734_1
       clear hi734_1 hl734_1
       replace p734 := eq_true p734
       replace q734 := eq_true q734
       obtain ⟨i037, hi037, _, hsz37, _⟩ := info_parts info3
       obtain ⟨A37, hcut37, hA37, hC37⟩ := print_drop_of (P := Try.prog) (Value.int .i64) 0 26 3 .i64 Try.underlying26 hi037 hsz37 (some ad732) c1 l1 1 (by omega) (of_decide_eq_true y23) HC1.out
       have HR735 := Aside0.mk (Kd.C_of_reads (h1 := fun _ => rfl) (hA37 _ (Kd.reads_of_C HR1.out)))
       have HC735 := Aside0.mk hC37
       clear hA37 hC37 hi037 hsz37
       refine start_ (n := 18) (S := fun w' => w'.cell? ⟨gb731, 0, none⟩ = some (.int .i64 t727) ∧ w'.cell? ⟨gb731, 1, none⟩ = some (.slice Ao34 t728.length co34) ∧ w'.cell? ⟨gb720, 0, none⟩ = some (.int .i64 a0_0) ∧ w'.cell? ⟨gb720, 1, none⟩ = some (.slice (some ad734) l0_1.length c0_1) ∧ w'.cell? ⟨gb721, 0, none⟩ = some (.int .i64 a2_0) ∧ w'.cell? ⟨gb721, 1, none⟩ = some (.slice A2_1 l2_1.length c2_1) ∧ w'.cell? ad732 = some (.int .i64 (rd l1 0)) ∧ w'.cell? ad732 = some (.int .i64 (rd l1 0)) ∧ w'.cell? (ad734.add (((rd l1 0)).toNat * 2)) = some (.int .i64 ((rd_T25 l0_1 (rd l1 0)).f0)) ∧ w'.cell? ⟨(ad734.add (((rd l1 0)).toNat * 2)).block, (ad734.add (((rd l1 0)).toNat * 2)).off + 1, none⟩ = some (.slice A734_1 ((rd_T25 l0_1 (rd l1 0)).f1).length c734_1)) (ds := [17]) #[false, false, false, false, false, false, false, false, false, false, false, false, false, false, false, false, false, false] (by kernel_rfl) rfl rfl ⟨(blk_cell BK731.out 0).trans rfl, (blk_cell BK731.out 1).trans rfl, (blk_cell BK720.out 0).trans rfl, (blk_cell BK720.out 1).trans rfl, (blk_cell BK721.out 0).trans rfl, (blk_cell BK721.out 1).trans rfl, ((HB.out.cell (World.block_lt_of_cell? w _ hw732_0)).trans hw732_0), ((HB.out.cell (World.block_lt_of_cell? w _ hw733_0)).trans hw733_0), ((HB.out.cell (World.block_lt_of_cell? w _ hw734_0)).trans hw734_0), ((HB.out.cell (World.block_lt_of_cell? w _ hw734_1)).trans hw734_1)⟩ (fun hHeld => ?_); refine with_tabW spec_l1Put.tab4 spec_l1Put.bits4 (fun HT_ HW_ => ?_)
       generalize w35.drew = w36 at HO730 BK720 BK721 BK722 BK731 HB HR734_1 HR735 hx732_0 hx733_0 hx734_0 hx734_1 hHeld ⊢
       refine zp 0 (some 15) HT_ ?_
       refine zp 2 (some 17) HT_ ?_
       refine zp 3 (some 18) HT_ ?_
       refine zp 5 (some 20) HT_ ?_
       refine zp 7 (some 22) HT_ ?_
       refine zp 8 (some 23) HT_ ?_
       refine zp 12 (some 27) HT_ ?_
       refine zp 13 (some 28) HT_ ?_
       refine zt10 1 (some 16) HT_ HW_ hHeld ?_
       refine zt10 4 (some 19) HT_ HW_ hHeld ?_
       refine zt10 6 (some 21) HT_ HW_ hHeld ?_
       refine zt10 9 (some 24) HT_ HW_ hHeld ?_
       refine zp 10 (some 25) HT_ ?_
       refine zt10 11 (some 26) HT_ HW_ hHeld ?_
       refine zt10 14 (some 29) HT_ HW_ hHeld ?_
       refine one_ (i := 15) (N := some 30) #[true, true, true, true, true, true, true, true, true, true, true, true, true, true, true, true, false, false] rfl rfl (one_of HT_.out (by kernel_rfl)) (by decide) (fun K hK => ?_)
       refine goes_ Try.func51 (by kernel_rfl) rfl #[.agg #[.int .i64 ((rd_T25 l0_1 (rd l1 0)).f0), .slice A734_1 ((rd_T25 l0_1 (rd l1 0)).f1).length c734_1], .slice A37 (l1.drop 1).length (c1 - 1), .agg #[.int .i64 a2_0, .slice A2_1 l2_1.length c2_1]] (by rfl) rfl rfl (by (try simp only [List.map_toArray, List.map_cons, List.map_nil]); first | done | (rw [show (l1.drop 1).length = (l1.length - 1) from List.length_drop] <;> rfl) | rfl | (simp only [List.length_drop, List.length_take]; rfl)) ?_
       with_reducible refine (ih k (by omega) ((rd_T25 l0_1 (rd l1 0)).f0) _ _ ((rd_T25 l0_1 (rd l1 0)).f1) _ _ (l1.drop 1) a2_0 _ _ l2_1 t736 t737 _ ?side1 ?side2 ?side3 ?side4 ?side5 ?side6 A22.out).mono ?_
       (case side1 => exact y18 HR734_1.out HB.out)
       (case side2 => exact HC734_1.out)
       (case side3 => exact y18 HR735.out HB.out)
       (case side4 => exact HC735.out)
       (case side5 => exact y18 HR2_1.out HB.out)
       (case side6 => exact HC2_1.out)
       rintro e w38 ⟨v738, rfl, ho0, hb⟩
       refine ⟨_, rfl, ?_⟩
       have HO739 := Aside0.mk (Kd.N_lower (Kd.N_mono (ok' := fun k_ => (w.heap.size ≤ k_) ∧ some k_ ≠ (.slice Ao34 t728.length co34 : Value).ownBlock ∧ k_ ≠ gb720 ∧ k_ ≠ gb721 ∧ k_ ≠ gb722 ∧ k_ ≠ gb731) ho0 (fun k_ hk_ => ⟨(Nat.le_trans (below_size (y5 HB.out GE720.out GE721.out GE722.out GE731.out)) hk_), (Kd.fresh' (Kd.N_lt (y2 HO730.out)) k_ hk_), (Kd.freshB (g := gb720) (o := .cells #[.int .i64 a0_0, .slice (some ad734) l0_1.length c0_1] 25 (0, 0)) (y0 BK720.out) k_ hk_), (Kd.freshB (g := gb721) (o := .cells #[.int .i64 a2_0, .slice A2_1 l2_1.length c2_1] 25 (0, 0)) (y0 BK721.out) k_ hk_), (Kd.freshB (g := gb722) (o := .cells #[.int .i64 0, .slice none 0 0] 25 (0, 0)) (y0 BK722.out) k_ hk_), (Kd.freshB (g := gb731) (o := .cells #[.int .i64 t727, .slice Ao34 t728.length co34] 25 (0, 0)) (y0 BK731.out) k_ hk_)⟩)) (below_size (y5 HB.out GE720.out GE721.out GE722.out GE731.out)))
       replace HO730 := Aside0.mk (Kd.N_elder' (y2 HO730.out) (Kd.N_base ho0) hb)
       replace BK720 := zbb BK720 hb
       replace BK721 := zbb BK721 hb
       replace BK722 := zbb BK722 hb
       replace BK731 := zbb BK731 hb
       replace HB := Aside0.mk (below_step (y5 HB.out GE720.out GE721.out GE722.out GE731.out) hb)
       (try clear hb)
       (try clear hb2)
       (try clear hk)
       (try clear hi)
       (try clear ho0)
       have p24 : 0 ≤ ((rd l1 0) : Int) := of_decide_eq_true y23
       have q24 : ((rd l1 0) : Int) < ((t728.length : Int) : Int) := of_decide_eq_true y23
       obtain ⟨go24, co24, eo24, gb24, gl24, cl24, HG24⟩ := Kd.N_form HO730.out (by omega)
       (first | cases eo24 | (injection eo24 with ea_ en_ ec_; (first | subst ea_ | (injection ea_ with ea_; subst ea_)); subst ec_; clear en_))
       have GB24 := Aside0.mk gb24
       have GG24 := Aside0.mk HG24
       clear gb24 gl24 HG24
       obtain ⟨ce24, hcl24, hM24, hcc24, hfr24⟩ := Kd.N_elem HO730.out z25 ((rd l1 0) : Int) p24 q24
       obtain ⟨ua24_1, uc24_1, rfl, ul24_1, ge24_1⟩ := k25_openF hM24
       have hx24_0 : World.cell? _ ⟨go24, ((rd l1 0) : Int).toNat * 2, none⟩ = some (.int .i64 ((rd_T25 t728 (rd l1 0)).f0)) := hcc24 0 _ rfl
       have hx24_1 : World.cell? _ ⟨go24, ((rd l1 0) : Int).toNat * 2 + 1, none⟩ = some (.slice ua24_1 ((rd_T25 t728 (rd l1 0)).f1).length uc24_1) := hcc24 1 _ rfl
       have hf24_0 : World.frozen? _ ⟨go24, ((rd l1 0) : Int).toNat * 2, none⟩ = false := hfr24 0
       have hf24_1 : World.frozen? _ ⟨go24, ((rd l1 0) : Int).toNat * 2 + 1, none⟩ = false := hfr24 1
       clear hcl24 hcc24 hfr24 hM24
       replace p24 := eq_true p24
       replace q24 := eq_true q24
       obtain ⟨Ao39, co39, eo39⟩ := Kd.N_slice HO739.out
       (first | subst eo39 | (injection eo39 with f1_ f2_ f3_; have f4_ := f1_.symm; have f5_ := f3_.symm; clear f1_ f2_ f3_; subst f4_; subst f5_))
       have HX40 := Aside0.mk (show Kd.N k25 25 _ w.heap.size (fun k_ => (w.heap.size ≤ k_) ∧ some k_ ≠ (.slice Ao39 t737.length co39 : Value).ownBlock ∧ k_ ≠ gb720 ∧ k_ ≠ gb721 ∧ k_ ≠ gb722 ∧ k_ ≠ gb731) (.slice (some ⟨go24, 0, none⟩) t728.length co34) t728 from (Kd.N_mono (HO730.out) (fun k_ hk => ⟨hk.1.1, ⟨hk.2, ⟨hk.1.2.1, ⟨hk.1.2.2.1, ⟨hk.1.2.2.2.1, hk.1.2.2.2.2⟩⟩⟩⟩⟩)))
       replace HX40 := Aside0.mk (show Kd.N k25 25 _ w.heap.size (fun k_ => (w.heap.size ≤ k_) ∧ k_ ≠ gb720 ∧ k_ ≠ gb721 ∧ k_ ≠ gb722 ∧ k_ ≠ gb731) (.slice (some ⟨go24, 0, none⟩) t728.length co34) t728 from Kd.N_mono HX40.out (fun k_ hk => ⟨hk.1, ⟨hk.2.2.1, ⟨hk.2.2.2.1, ⟨hk.2.2.2.2.1, hk.2.2.2.2.2⟩⟩⟩⟩))
       obtain ⟨ce40, hcl40, hM40, hcc40, hfr40⟩ := Kd.N_elem HX40.out z25 ((rd l1 0) : Int) (of_decide_eq_true y23) (by have h_ : ((rd l1 0) : Int) < ((t728.length : Int) : Int) := of_decide_eq_true y23; first | exact h_ | (have e_ := (Kd.N_reads' HO730.out).1; omega) | simpa using h_)
       obtain ⟨ua40_1, uc40_1, rfl, ul40_1, ge40_1⟩ := k25_openF hM40
       have HP40 := (Kd.N_seg HX40.out ((rd l1 0) : Int) (of_decide_eq_true y23) (by have h_ : ((rd l1 0) : Int) < ((t728.length : Int) : Int) := of_decide_eq_true y23; first | exact h_ | (have e_ := (Kd.N_reads' HO730.out).1; omega) | simpa using h_) (seg := [.int .i64 t736, .slice Ao39 t737.length co39]) (j := 0) hcl40 hcc40 (show 2 ≤ 2 from by decide) (x' := (⟨t736, t737⟩ : S25)) (k25_mkF _ _ (⟨t736, t737⟩ : S25) (Kd.N_reads' (Kd.N_mono (ok' := (fun k_ => ((fun k_ => (w.heap.size ≤ k_) ∧ k_ ≠ gb720 ∧ k_ ≠ gb721 ∧ k_ ≠ gb722 ∧ k_ ≠ gb731)) k_ ∧ k_ ≠ go24)) (HO739.out) (fun k_ hk => ⟨⟨hk.1, ⟨hk.2.2.1, ⟨hk.2.2.2.1, ⟨hk.2.2.2.2.1, hk.2.2.2.2.2⟩⟩⟩⟩, fun e_ => (hk.2.1) (by rw [e_]; rfl)⟩))).2.1 (Kd.N_F (Kd.N_mono (ok' := (fun k_ => ((fun k_ => (w.heap.size ≤ k_) ∧ k_ ≠ gb720 ∧ k_ ≠ gb721 ∧ k_ ≠ gb722 ∧ k_ ≠ gb731)) k_ ∧ k_ ≠ go24)) (HO739.out) (fun k_ hk => ⟨⟨hk.1, ⟨hk.2.2.1, ⟨hk.2.2.2.1, ⟨hk.2.2.2.2.1, hk.2.2.2.2.2⟩⟩⟩⟩, fun e_ => (hk.2.1) (by rw [e_]; rfl)⟩)))) (fun _ hk => hk)).1
       rw [← Ny740.out] at HP40
       have HQ40 := Aside0.mk HP40
       clear hcl40 hcc40 hfr40 hM40 HP40
       refine hK.out _ _ ⟨(blk_cell BK731.out 0).trans rfl, (blk_cell BK731.out 1).trans rfl, (blk_cell BK720.out 0).trans rfl, (blk_cell BK720.out 1).trans rfl, (blk_cell BK721.out 0).trans rfl, (blk_cell BK721.out 1).trans rfl, ((HB.out.cell (World.block_lt_of_cell? w _ hw732_0)).trans hw732_0), ((HB.out.cell (World.block_lt_of_cell? w _ hw733_0)).trans hw733_0), ((HB.out.cell (World.block_lt_of_cell? w _ hw734_0)).trans hw734_0), ((HB.out.cell (World.block_lt_of_cell? w _ hw734_1)).trans hw734_1)⟩ (fun hHeld => ?_)
       clear hK K
       refine norm_ (a' := ?_) ?_ ?_
       rotate_left
       ·show Act.put _ (some 30) _ = _
        simp only [Act.put, List.setIfInBounds_toArray, List.set_cons_zero, List.set_cons_succ, i64_w, i32_w]
        rfl
       refine zp 16 (some 31) HT_ ?_
       refine last_ (i := 17) (N := none) #[true, true, true, true, true, true, true, true, true, true, true, true, true, true, true, true, true, true] rfl rfl (one_of HT_.out (by kernel_rfl)) (by decide) (fun K hK => ?_)
       refine skip_ (w1 := ?_) (by rfl) rfl ?_ ?_
       rotate_left
       ·go_simp
        rfl
       refine hK.out _ _ ?_
       clear hK K
       refine done_ (done_of HT_.out (by kernel_rfl)) ?_
       have n0_ : Aside0 (Kd.N k25 25 ((w38.setCell ⟨go24, ((rd l1 0) : Int).toNat * 2, none⟩ (.int .i64 t736)).setCell ⟨go24, ((rd l1 0) : Int).toNat * 2 + 1, none⟩ (.slice Ao39 t737.length co39)) w.heap.size (fun k_ => (w.heap.size ≤ k_) ∧ k_ ≠ gb720 ∧ k_ ≠ gb721 ∧ k_ ≠ gb722 ∧ k_ ≠ gb731) (.slice (some ⟨go24, 0, none⟩) t728.length co34) y740) := ⟨(y2 HQ40.out)⟩
       have n1_ : Aside0 (((w38.setCell ⟨go24, ((rd l1 0) : Int).toNat * 2, none⟩ (.int .i64 t736)).setCell ⟨go24, ((rd l1 0) : Int).toNat * 2 + 1, none⟩ (.slice Ao39 t737.length co39)).heap[gb720]? = some (.cells #[.int .i64 a0_0, .slice (some ad734) l0_1.length c0_1] 25 (0, 0))) := ⟨(y57 HQ40.out BK720.out)⟩
       have n2_ : Aside0 (((w38.setCell ⟨go24, ((rd l1 0) : Int).toNat * 2, none⟩ (.int .i64 t736)).setCell ⟨go24, ((rd l1 0) : Int).toNat * 2 + 1, none⟩ (.slice Ao39 t737.length co39)).heap[gb721]? = some (.cells #[.int .i64 a2_0, .slice A2_1 l2_1.length c2_1] 25 (0, 0))) := ⟨(y56 HQ40.out BK721.out)⟩
       have n3_ : Aside0 (((w38.setCell ⟨go24, ((rd l1 0) : Int).toNat * 2, none⟩ (.int .i64 t736)).setCell ⟨go24, ((rd l1 0) : Int).toNat * 2 + 1, none⟩ (.slice Ao39 t737.length co39)).heap[gb722]? = some (.cells #[.int .i64 0, .slice none 0 0] 25 (0, 0))) := ⟨(y55 HQ40.out BK722.out)⟩
       have n4_ : Aside0 (((w38.setCell ⟨go24, ((rd l1 0) : Int).toNat * 2, none⟩ (.int .i64 t736)).setCell ⟨go24, ((rd l1 0) : Int).toNat * 2 + 1, none⟩ (.slice Ao39 t737.length co39)).heap[gb731]? = some (.cells #[.int .i64 t727, .slice (some ⟨go24, 0, none⟩) t728.length co34] 25 (0, 0))) := ⟨(by (with_reducible repeat (first | refine blk_drewN ?_ _ | refine blk_drew ?_ | refine blk_alloc ?_ _)); refine blk_far ?_ (by have h_ := Kd.N_away HQ40.out (fun _ hk => hk.2.2.2.2); intro e_; exact h_ (by rw [e_]; rfl)) _; (with_reducible repeat (first | refine blk_drewN ?_ _ | refine blk_drew ?_ | refine blk_alloc ?_ _)); refine blk_far ?_ (by have h_ := Kd.N_away HQ40.out (fun _ hk => hk.2.2.2.2); intro e_; exact h_ (by rw [e_]; rfl)) _; (with_reducible repeat (first | refine blk_drewN ?_ _ | refine blk_drew ?_ | refine blk_alloc ?_ _)); exact BK731.out)⟩
       have n5_ : Aside0 (Below w.heap.size w ((w38.setCell ⟨go24, ((rd l1 0) : Int).toNat * 2, none⟩ (.int .i64 t736)).setCell ⟨go24, ((rd l1 0) : Int).toNat * 2 + 1, none⟩ (.slice Ao39 t737.length co39))) := ⟨(y78 HB.out GB24.out GE720.out GE721.out GE722.out GE731.out)⟩
       (try clear HO730)
       (try clear BK720)
       (try clear BK721)
       (try clear BK722)
       (try clear BK731)
       (try clear HB)
       generalize ((w38.setCell ⟨go24, ((rd l1 0) : Int).toNat * 2, none⟩ (.int .i64 t736)).setCell ⟨go24, ((rd l1 0) : Int).toNat * 2 + 1, none⟩ (.slice Ao39 t737.length co39)) = w41 at n0_ n1_ n2_ n3_ n4_ n5_ ⊢
       have HO730 := n0_
       have BK720 := n1_
       have BK721 := n2_
       have BK722 := n3_
       have BK731 := n4_
       have HB := n5_
       clear n0_ n1_ n2_ n3_ n4_ n5_
       have hcz42_0 := zh BK731
       have hcz42_1 := zh1 BK731
       have hfz42_0 := zfr BK731 0
       have hfz42_1 := zfr BK731 1
       have hnb43 := NB722_721.out
       have hnc43 := NB721_722.out
       have hcz44_0 := zh BK722
       have hcz44_1 := zh1 BK722
       have hfz44_0 := zfr BK722 0
       have hfz44_1 := zfr BK722 1
       try go_wp2
       refine bodyPost_ret (results_cell_row rfl _ _ gb722 25 #[.int .i64 t727, .slice (some ⟨go24, 0, none⟩) t728.length co34] (0, 0) _ rfl (by (with_reducible repeat (first | refine blk_drewN ?_ _ | refine blk_drew ?_ | refine blk_alloc ?_ _)); refine blk_put (cs := #[.int .i64 t727, .slice none 0 0]) ?_ 1 _ rfl; (with_reducible repeat (first | refine blk_drewN ?_ _ | refine blk_drew ?_ | refine blk_alloc ?_ _)); apply blk_put (i := 0); (case h => exact y0 BK722.out); (case e => rfl)) Try.underlying25 rfl (by kernel_rfl)) rfl ?_
       exact ⟨_, y15, (by (with_reducible repeat (first | apply Kd.N_alloc | apply Kd.N_drewN | apply Kd.N_drew)); exact Kd.N_mono (Kd.N_far (p := ⟨gb722, 1, none⟩) (Kd.N_far (p := ⟨gb722, 0, none⟩) (Kd.N_mono HO730.out (fun k_ hk => (⟨hk, hk.2.2.2.1⟩ : _ ∧ k_ ≠ gb722))) (fun _ hk => hk.2) (.int .i64 t727)) (fun _ hk => hk.2) (.slice (some ⟨go24, 0, none⟩) t728.length co34)) (fun _ hk => hk.1.1)), (y5 HB.out GE720.out GE721.out GE722.out GE731.out)⟩
      ·rw [if_neg c23] at H
       exact absurd H (by simp)
     ·rw [if_neg c21] at H
      exact absurd H (by simp)
    ·rw [if_neg c20] at H
     exact absurd H (by simp)
   ·rw [if_neg c19] at H
    exact absurd H (by simp)
  ·rw [if_neg c18] at H
   exact absurd H (by simp)
end Go.Proofs.Ythfflieeifakdaa.PA
end
section
namespace Go.Proofs.Ythfflieeifakdaa.PA
open Go.RowKit Go.Proofs.YthfflieeifakdaaW.PrintWords Go.Proofs.YthfflieeifakdaaW.PrintLast Go.Proofs.YthfflieeifakdaaW.PrintMore
attribute [local go_sem] max2_int min2_int max_two min_two max_three min_three max_four min_four
set_option linter.unusedVariables false
set_option linter.unusedSimpArgs false
def spec_ValPut.j0 : Nat → List Int → Bool → Int → List (S25) → Int → List (S25) → Int → List (S25) → Option (Int × (List (S25)) × Bool)
 | 0, _, _, _, _, _, _, _, _ => none
 | k + 1, x1, x26, x742000, x742001, x743000, x743001, x750000, x750001 => if x26 = true then (some (0, ([] : List (S25)), false)) else ((spec_l1Of.f k x750000 x750001 4).bind fun bt751 => ((spec_l1Of.f k x743000 x743001 4).bind fun bt756 => ((spec_l1Same.f k bt751.1 bt756.1).bind fun t761 => (if t761 = true then ((spec_l1Put.f k x742000 x742001 x1 x743000 x743001).bind fun bt762 => (some (bt762.1, bt762.2, true))) else (some (0, ([] : List (S25)), false))))))
def spec_ValPut.f (k : Nat) (a0_0 : Int) (l0_1 : List (S25)) (l1 : List Int) (a2_0 : Int) (l2_1 : List (S25)) : Option (Int × (List (S25)) × Bool) := (spec_ValAt.f k a0_0 l0_1 l1).bind fun bt744 => (if bt744.2.2 = true then ((spec_l1Any.f k a2_0 l2_1).bind fun t750 => (spec_ValPut.j0 k l1 (!t750) a0_0 l0_1 a2_0 l2_1 bt744.1 bt744.2.1)) else (spec_ValPut.j0 k l1 true a0_0 l0_1 a2_0 l2_1 bt744.1 bt744.2.1))
theorem spec_ValPut.mono_l : ∀ k, (∀ y0 y1 y2 y3 y4 y5 y6 y7, LeO (spec_ValPut.j0 k y0 y1 y2 y3 y4 y5 y6 y7) (spec_ValPut.j0 (k + 1) y0 y1 y2 y3 y4 y5 y6 y7))
 | 0 => fun _ _ _ _ _ _ _ _ r h => by simp [spec_ValPut.j0] at h
 | k + 1 => by
  have ih0 := spec_ValPut.mono_l k
  ·intro y0 y1 y2 y3 y4 y5 y6 y7
   unfold spec_ValPut.j0
   repeat' first
   | (with_reducible exact ih0 _ _ _ _ _ _ _ _)
   | (with_reducible exact spec_ValAt.mono _ _ _ _)
   | (with_reducible exact spec_l1Any.mono _ _ _)
   | (with_reducible exact spec_l1Of.mono _ _ _ _)
   | (with_reducible exact spec_l1Put.mono _ _ _ _ _ _)
   | (with_reducible exact spec_l1Same.mono _ _ _)
   | (with_reducible exact LeO.refl _)
   | (with_reducible exact LeO.none _)
   | (with_reducible refine LeO.ite ?_ ?_)
   | (with_reducible refine LeO.bind ?_ (fun _ => ?_))
   | exact ih0 _ _ _ _ _ _ _ _
   | exact spec_ValAt.mono _ _ _ _
   | exact spec_l1Any.mono _ _ _
   | exact spec_l1Of.mono _ _ _ _
   | exact spec_l1Put.mono _ _ _ _ _ _
   | exact spec_l1Same.mono _ _ _
   | exact LeO.none _
   | refine LeO.ite ?_ ?_
   | refine LeO.bind ?_ (fun _ => ?_)
theorem spec_ValPut.mono : ∀ a0 a1 a2 a3 a4 k, LeO (spec_ValPut.f k a0 a1 a2 a3 a4) (spec_ValPut.f (k + 1) a0 a1 a2 a3 a4) := by
 intro a0 a1 a2 a3 a4 k
 have ih0 := spec_ValPut.mono_l k
 unfold spec_ValPut.f
 repeat' first
   | (with_reducible exact ih0 _ _ _ _ _ _ _ _)
   | (with_reducible exact spec_ValAt.mono _ _ _ _)
   | (with_reducible exact spec_l1Any.mono _ _ _)
   | (with_reducible exact spec_l1Of.mono _ _ _ _)
   | (with_reducible exact spec_l1Put.mono _ _ _ _ _ _)
   | (with_reducible exact spec_l1Same.mono _ _ _)
   | (with_reducible exact LeO.refl _)
   | (with_reducible exact LeO.none _)
   | (with_reducible refine LeO.ite ?_ ?_)
   | (with_reducible refine LeO.bind ?_ (fun _ => ?_))
   | exact ih0 _ _ _ _ _ _ _ _
   | exact spec_ValAt.mono _ _ _ _
   | exact spec_l1Any.mono _ _ _
   | exact spec_l1Of.mono _ _ _ _
   | exact spec_l1Put.mono _ _ _ _ _ _
   | exact spec_l1Same.mono _ _ _
   | exact LeO.none _
   | refine LeO.ite ?_ ?_
   | refine LeO.bind ?_ (fun _ => ?_)
set_option maxHeartbeats 8000000 in
set_option maxRecDepth 100000 in
theorem spec_ValPut.calls (k : Nat) (a0_0 : Int) (A0_1 : Option Addr) (c0_1 : Nat) (l0_1 : List (S25)) (A1 : Option Addr) (c1 : Nat) (l1 : List Int) (a2_0 : Int) (A2_1 : Option Addr) (c2_1 : Nat) (l2_1 : List (S25)) (r1 : Int) (r2 : List (S25)) (r3 : Bool) (w : World) (hr0_1 : Kd.C k25 w A0_1 l0_1.length l0_1) (hc0_1 : l0_1.length ≤ c0_1) (hr1 : Kd.C (Kd.int .i64) w A1 l1.length l1) (hc1 : l1.length ≤ c1) (hr2_1 : Kd.C k25 w A2_1 l2_1.length l2_1) (hc2_1 : l2_1.length ≤ c2_1) (h : spec_ValPut.f k a0_0 l0_1 l1 a2_0 l2_1 = some (r1, r2, r3)) :
  Calls Try.prog 26 #[.agg #[.int .i64 a0_0, .slice A0_1 l0_1.length c0_1], .slice A1 l1.length c1, .agg #[.int .i64 a2_0, .slice A2_1 l2_1.length c2_1]] w fun e w' => ∃ v1_ : Value, e = .returned (.tuple #[.agg #[.int .i64 r1, v1_], .bool r3]) ∧ Kd.N k25 25 w' w.heap.size (fun k_ => (w.heap.size ≤ k_)) v1_ r2 ∧ Below w.heap.size w w' := by
 have hu25 := Try.underlying25
 have hu50 := Try.underlying50
 have HR0_1 := Aside0.mk hr0_1
 have HC0_1 := Aside0.mk hc0_1
 clear hr0_1 hc0_1
 have HR1 := Aside0.mk hr1
 have HC1 := Aside0.mk hc1
 clear hr1 hc1
 have HR2_1 := Aside0.mk hr2_1
 have HC2_1 := Aside0.mk hc2_1
 clear hr2_1 hc2_1
 have HB := Aside0.mk (Below.refl w.heap.size w)
 have H : ((spec_ValAt.f k a0_0 l0_1 l1).bind fun bt744 => (if bt744.2.2 = true then ((spec_l1Any.f k a2_0 l2_1).bind fun t750 => (spec_ValPut.j0 k l1 (!t750) a0_0 l0_1 a2_0 l2_1 bt744.1 bt744.2.1)) else (spec_ValPut.j0 k l1 true a0_0 l0_1 a2_0 l2_1 bt744.1 bt744.2.1))) = some (r1, r2, r3) := h
 clear h
 obtain ⟨⟨t744, t745, t748⟩, A40, H⟩ := ob H
 have A4 := Aside0.mk A40
 clear A40
 have HC5 := Aside0.mk H
 clear H
 go_enter Try.func26, Try.ntmps26
 go_upto_region 2 with (first | ((with_reducible refine gate_dst (N := 3) rfl ?_); refine zbx 3 #[.int .i64 a0_0, .slice A0_1 l0_1.length c0_1] 25 ?_; intro gb741 hg w6 hbox hb; have BK741 := Aside0.mk hbox; have GW741 := Aside0.mk ((y10 hg HB.out : w.heap.size ≤ gb741)); have GE741 := Aside0.mk ((y10 hg HB.out : w.heap.size ≤ gb741)); replace HB := Aside0.mk (below_step (y6 HB.out) hb); clear hb hbox hg) | ((with_reducible refine gate_dst (N := 5) rfl ?_); refine zbx 5 #[.int .i64 a2_0, .slice A2_1 l2_1.length c2_1] 25 ?_; intro gb742 hg w7 hbox hb; have BK742 := Aside0.mk hbox; have GW742 := Aside0.mk ((y12 hg HB.out GE741.out : w.heap.size ≤ gb742)); have GE742 := Aside0.mk ((y12 hg HB.out GE741.out : w.heap.size ≤ gb742)); replace HB := Aside0.mk (below_step (y7 HB.out GE741.out) hb); have NB741_742 := zltn hg BK741; have NB742_741 := zgtn hg BK741; replace BK741 := zbb BK741 hb; clear hb hbox hg) | ((with_reducible refine gate_dst (N := 6) rfl ?_); refine zbx 6 #[.int .i64 0, .slice none 0 0] 25 ?_; intro gb743 hg w8 hbox hb; have BK743 := Aside0.mk hbox; have GW743 := Aside0.mk ((y16 hg HB.out GE741.out GE742.out : w.heap.size ≤ gb743)); have GE743 := Aside0.mk ((y16 hg HB.out GE741.out GE742.out : w.heap.size ≤ gb743)); replace HB := Aside0.mk (below_step (y3 HB.out GE741.out GE742.out) hb); have NB741_743 := zltn hg BK741; have NB743_741 := zgtn hg BK741; replace BK741 := zbb BK741 hb; have NB742_743 := zltn hg BK742; have NB743_742 := zgtn hg BK742; replace BK742 := zbb BK742 hb; clear hb hbox hg; have hnb9 := NB741_742.out; have hnc9 := NB742_741.out; have hnb10 := NB741_743.out; have hnc10 := NB743_741.out; have hcz11_0 := zh BK741; have hcz11_1 := zh1 BK741; have hfz11_0 := zfr BK741 0; have hfz11_1 := zfr BK741 1) | ((with_reducible refine gate_callee (f := 13) rfl ?_); refine goesL_ (some 17) rfl rfl Try.func13 (by kernel_rfl) rfl #[.agg #[.int .i64 a0_0, .slice A0_1 l0_1.length c0_1], .slice A1 l1.length c1] rfl y9 ?_; (with_reducible refine (spec_ValAt.calls k a0_0 (fun k_ => k_ < w.heap.size) _ _ l0_1 _ _ l1 t744 t745 t748 _ ?side1 ?side2 ?side3 A4.out).mono ?_); (case side1 => exact Kd.V_mk HC0_1.out (Kd.F_below (Kd.C_F k25_heap HR0_1.out) (y4 HB.out GE741.out GE742.out GE743.out))); (case side2 => exact y18 HR1.out HB.out); (case side3 => exact HC1.out); rintro e w12 ⟨v746, rfl, ho0, hb⟩; refine ⟨_, rfl, ?_⟩; have HO747 := Aside0.mk (Kd.N_lower (Kd.N_mono (ok' := fun k_ => (w.heap.size ≤ k_) ∧ k_ ≠ gb741 ∧ k_ ≠ gb742 ∧ k_ ≠ gb743) (Kd.R_N (Kd.R_bound ho0)) (fun k_ hk_ => ⟨(Nat.le_trans (below_size (y4 HB.out GE741.out GE742.out GE743.out)) hk_.2.1), (Kd.freshB (g := gb741) (o := .cells #[.int .i64 a0_0, .slice A0_1 l0_1.length c0_1] 25 (0, 0)) (y0 BK741.out) k_ hk_.2.1), (Kd.freshB (g := gb742) (o := .cells #[.int .i64 a2_0, .slice A2_1 l2_1.length c2_1] 25 (0, 0)) (y0 BK742.out) k_ hk_.2.1), (Kd.freshB (g := gb743) (o := .cells #[.int .i64 0, .slice none 0 0] 25 (0, 0)) (y0 BK743.out) k_ hk_.2.1)⟩)) (below_size (y4 HB.out GE741.out GE742.out GE743.out))); replace BK741 := zbb BK741 hb; replace BK742 := zbb BK742 hb; replace BK743 := zbb BK743 hb; replace HB := Aside0.mk (below_step (y4 HB.out GE741.out GE742.out GE743.out) hb); (try clear hb); (try clear hb2); (try clear hk); (try clear hi); (try clear ho0)) | ((with_reducible refine gate_dst (N := 8) rfl ?_); refine zbx 8 #[.int .i64 0, .slice none 0 0] 25 ?_; intro gb749 hg w13 hbox hb; replace HO747 := Aside0.mk (Kd.N_below (Kd.N_elderB (y2 HO747.out) gb749 (Nat.le_of_eq hg.symm)) hb); have BK749 := Aside0.mk hbox; have GW749 := Aside0.mk ((y20 hg HB.out GE741.out GE742.out GE743.out : w.heap.size ≤ gb749)); have GE749 := Aside0.mk ((y20 hg HB.out GE741.out GE742.out GE743.out : w.heap.size ≤ gb749)); replace HB := Aside0.mk (below_step (y4 HB.out GE741.out GE742.out GE743.out) hb); have NB741_749 := zltn hg BK741; have NB749_741 := zgtn hg BK741; replace BK741 := zbb BK741 hb; have NB742_749 := zltn hg BK742; have NB749_742 := zgtn hg BK742; replace BK742 := zbb BK742 hb; have NB743_749 := zltn hg BK743; have NB749_743 := zgtn hg BK743; replace BK743 := zbb BK743 hb; clear hb hbox hg; have hnb14 := NB749_741.out; have hnc14 := NB741_749.out; have hnb15 := NB749_742.out; have hnc15 := NB742_749.out; have hnb16 := NB749_743.out; have hnc16 := NB743_749.out; have hcz17_0 := zh BK749; have hcz17_1 := zh1 BK749; have hfz17_0 := zfr BK749 0; have hfz17_1 := zfr BK749 1; obtain ⟨Ao18, co18, eo18⟩ := Kd.N_slice HO747.out; subst eo18))
 (try simp only [Act.put, List.setIfInBounds_toArray, List.set_cons_zero, List.set_cons_succ])
 go_cut [26] (fun v26 wc => ∃ (kq : Nat) (x26_4 : Bool), v26 = .bool x26_4 ∧ Aside0 (spec_ValPut.j0 kq l1 x26_4 a0_0 l0_1 a2_0 l2_1 t744 t745 = some (r1, r2, r3)) ∧ Aside0 (kq ≤ k) ∧ Aside0 (Kd.N k25 25 wc w.heap.size (fun k_ => (w.heap.size ≤ k_) ∧ k_ ≠ gb741 ∧ k_ ≠ gb742 ∧ k_ ≠ gb743 ∧ k_ ≠ gb749) (.slice Ao18 t745.length co18) t745) ∧ Aside0 (wc.heap[gb741]? = some (.cells #[.int .i64 a0_0, (.slice A0_1 l0_1.length c0_1)] 25 (0, 0))) ∧ Aside0 (wc.heap[gb742]? = some (.cells #[.int .i64 a2_0, (.slice A2_1 l2_1.length c2_1)] 25 (0, 0))) ∧ Aside0 (wc.heap[gb743]? = some (.cells #[.int .i64 0, (.slice none 0 0)] 25 (0, 0))) ∧ Aside0 (wc.heap[gb749]? = some (.cells #[.int .i64 t744, (.slice Ao18 t745.length co18)] 25 (0, 0))) ∧ Aside0 (Below w.heap.size w wc))
 case first =>
  have H := HC5.out
  clear HC5
  by_cases c19 : t748 = true
  ·subst c19
   rw [if_pos rfl] at H
   obtain ⟨t750, A200, H⟩ := ob H
   have A20 := Aside0.mk A200
   clear A200
   have H' := Aside0.mk H
   clear H
   have hnb21 := NB742_741.out
   have hnc21 := NB741_742.out
   have hnb22 := NB742_743.out
   have hnc22 := NB743_742.out
   have hnb23 := NB742_749.out
   have hnc23 := NB749_742.out
   have hcz24_0 := zh BK742
   have hcz24_1 := zh1 BK742
   have hfz24_0 := zfr BK742 0
   have hfz24_1 := zfr BK742 1
   go_wp2_with (first | (go_at_call 35; (with_reducible refine (spec_l1Any.calls k a2_0 _ _ l2_1 t750 _ ?side1 ?side2 A20.out).mono ?_); (case side1 => exact Kd.C_below HR2_1.out (y5 HB.out GE741.out GE742.out GE743.out GE749.out)); (case side2 => exact HC2_1.out); rintro e w25 ⟨rfl, hb⟩; replace HO747 := Aside0.mk (Kd.N_below (by (with_reducible repeat (first | apply Kd.N_alloc | apply Kd.N_drewN | apply Kd.N_drew)); exact (Kd.N_mono (Kd.N_far (p := ⟨gb749, 1, none⟩) (Kd.N_far (p := ⟨gb749, 0, none⟩) (Kd.N_mono HO747.out (fun k_ hk => (⟨hk, hk.2⟩ : _ ∧ k_ ≠ gb749))) (fun _ hk => hk.2) (.int .i64 t744)) (fun _ hk => hk.2) (.slice Ao18 t745.length co18)) (fun _ h_ => h_.1))) hb); replace BK741 := Aside0.mk (blk_below (g := gb741) (o := .cells #[.int .i64 a0_0, .slice A0_1 l0_1.length c0_1] 25 (0, 0)) (y1 NB741_749.out BK741.out) hb); replace BK742 := Aside0.mk (blk_below (g := gb742) (o := .cells #[.int .i64 a2_0, .slice A2_1 l2_1.length c2_1] 25 (0, 0)) (y1 NB742_749.out BK742.out) hb); replace BK743 := Aside0.mk (blk_below (g := gb743) (o := .cells #[.int .i64 0, .slice none 0 0] 25 (0, 0)) (y1 NB743_749.out BK743.out) hb); replace BK749 := Aside0.mk (blk_below (g := gb749) (o := .cells #[.int .i64 t744, .slice Ao18 t745.length co18] 25 (0, 0)) (by (with_reducible repeat (first | refine blk_drewN ?_ _ | refine blk_drew ?_ | refine blk_alloc ?_ _)); refine blk_put (cs := #[.int .i64 t744, .slice none 0 0]) ?_ 1 _ rfl; (with_reducible repeat (first | refine blk_drewN ?_ _ | refine blk_drew ?_ | refine blk_alloc ?_ _)); apply blk_put (i := 0); (case h => exact y0 BK749.out); (case e => rfl)) hb); replace HB := Aside0.mk (below_step (y5 HB.out GE741.out GE742.out GE743.out GE749.out) hb); (try clear hb); (try clear hb2); (try clear hk); (try clear hi)))
   go_meet
   case rel => exact ⟨_, (!t750), y29, H', ⟨y50⟩, ⟨(y61 HO747.out)⟩, ⟨(y0 BK741.out)⟩, ⟨(y0 BK742.out)⟩, ⟨(y0 BK743.out)⟩, ⟨(y0 BK749.out)⟩, ⟨(y5 HB.out GE741.out GE742.out GE743.out GE749.out)⟩⟩
  ·replace c19 := Bool.eq_false_iff.mpr c19
   subst c19
   rw [if_neg (show ¬ (false = true) by decide)] at H
   have H' := Aside0.mk H
   clear H
   go_wp2
   go_meet
   case rel => exact ⟨_, (true), y29, H', ⟨y50⟩, ⟨(by (with_reducible repeat (first | apply Kd.N_alloc | apply Kd.N_drewN | apply Kd.N_drew)); exact Kd.N_mono (Kd.N_far (p := ⟨gb749, 1, none⟩) (Kd.N_far (p := ⟨gb749, 0, none⟩) (Kd.N_mono HO747.out (fun k_ hk => (⟨hk, hk.2⟩ : _ ∧ k_ ≠ gb749))) (fun _ hk => hk.2) (.int .i64 t744)) (fun _ hk => hk.2) (.slice Ao18 t745.length co18)) (fun _ hk => ⟨hk.1.1.1, ⟨hk.1.1.2.1, ⟨hk.1.1.2.2.1, ⟨hk.1.1.2.2.2, hk.1.2⟩⟩⟩⟩))⟩, ⟨(y1 NB741_749.out BK741.out)⟩, ⟨(y1 NB742_749.out BK742.out)⟩, ⟨(y1 NB743_749.out BK743.out)⟩, ⟨(by (with_reducible repeat (first | refine blk_drewN ?_ _ | refine blk_drew ?_ | refine blk_alloc ?_ _)); refine blk_put (cs := #[.int .i64 t744, .slice none 0 0]) ?_ 1 _ rfl; (with_reducible repeat (first | refine blk_drewN ?_ _ | refine blk_drew ?_ | refine blk_alloc ?_ _)); refine blk_put (cs := #[.int .i64 0, .slice none 0 0]) ?_ 0 _ rfl; (with_reducible repeat (first | refine blk_drewN ?_ _ | refine blk_drew ?_ | refine blk_alloc ?_ _)); exact BK749.out)⟩, ⟨(y5 HB.out GE741.out GE742.out GE743.out GE749.out)⟩⟩
 case rest =>
  clear HC5
  try clear c1
  try clear c2
  try clear p2
  try clear c9
  try clear c10
  try clear c13
  try clear c14
  try clear c15
  try clear c16
  try clear c19
  try clear c21
  try clear c22
  try clear c23
  try clear hcz11_0
  try clear hcz11_1
  try clear hcz17_0
  try clear hcz17_1
  try clear hcz24_0
  try clear hcz24_1
  try clear hfz11_0
  try clear hfz11_1
  try clear hfz17_0
  try clear hfz17_1
  try clear hfz24_0
  try clear hfz24_1
  obtain ⟨kq, x26_4, rfl, HA, HJ4, HO_750001, BK741, BK742, BK743, BK749, HB⟩ := hcut
  cases kq with
  | zero => exact absurd HA.out (by simp [spec_ValPut.j0])
  | succ kj4 =>
   have H := HA.out
   clear HA
   simp only [spec_ValPut.j0] at H
   by_cases c26 : x26_4 = true
   ·subst c26
    rw [if_pos rfl] at H
    simp only [Option.some.injEq, Prod.mk.injEq] at H
    obtain ⟨rfl, rfl, rfl⟩ := H
    have hnb27 := NB743_741.out
    have hnc27 := NB741_743.out
    have hnb28 := NB743_742.out
    have hnc28 := NB742_743.out
    have hnb29 := NB743_749.out
    have hnc29 := NB749_743.out
    have hcz30_0 := zh BK743
    have hcz30_1 := zh1 BK743
    have hfz30_0 := zfr BK743 0
    have hfz30_1 := zfr BK743 1
    go_wp2
    refine bodyPost_ret (results_ct rfl _ _ gb743 25 #[.int .i64 0, .slice none 0 0] (0, 0) _ rfl (by (with_reducible repeat (first | refine blk_drewN ?_ _ | refine blk_drew ?_ | refine blk_alloc ?_ _)); refine blk_put (cs := #[.int .i64 0, .slice none 0 0]) ?_ 1 _ rfl; (with_reducible repeat (first | refine blk_drewN ?_ _ | refine blk_drew ?_ | refine blk_alloc ?_ _)); apply blk_put (i := 0); (case h => exact y0 BK743.out); (case e => rfl)) Try.underlying25 rfl (by kernel_rfl)) rfl ?_
    exact ⟨_, y15, y38, (y5 HB.out GE741.out GE742.out GE743.out GE749.out)⟩
   ·replace c26 := Bool.eq_false_iff.mpr c26
    subst c26
    rw [if_neg (show ¬ (false = true) by decide)] at H
    obtain ⟨⟨t751, t754⟩, A310, H⟩ := ob H
    have A31 := Aside0.mk A310
    clear A310
    obtain ⟨⟨t756, t759⟩, A320, H⟩ := ob H
    have A32 := Aside0.mk A320
    clear A320
    obtain ⟨t761, A330, H⟩ := ob H
    have A33 := Aside0.mk A330
    clear A330
    have HZ34 := Aside0.mk H
    clear H
    have hnb35 := NB749_741.out
    have hnc35 := NB741_749.out
    have hnb36 := NB749_742.out
    have hnc36 := NB742_749.out
    have hnb37 := NB749_743.out
    have hnc37 := NB743_749.out
    have hcz38_0 := zh BK749
    have hcz38_1 := zh1 BK749
    have hfz38_0 := zfr BK749 0
    have hfz38_1 := zfr BK749 1
    go_upto_if 41 with (first | ((with_reducible refine gate_callee (f := 49) rfl ?_); refine goesL_ (some 30) rfl rfl Try.func49 (by kernel_rfl) rfl #[.agg #[.int .i64 t744, .slice Ao18 t745.length co18], .int .i64 4] rfl y9 ?_; (with_reducible refine (spec_l1Of.calls kj4 t744 _ _ t745 4 t751 t754 _ ?side1 ?side2 A31.out).mono ?_); (case side1 => exact y36 HO_750001.out); (case side2 => exact (Kd.N_reads' HO_750001.out).2.1); rintro e w39 ⟨v752, rfl, ho0, hb⟩; refine ⟨_, rfl, ?_⟩; have HO753 := Aside0.mk (Kd.N_lower (Kd.N_mono (ok' := fun k_ => (w.heap.size ≤ k_) ∧ some k_ ≠ (.slice Ao18 t745.length co18 : Value).ownBlock ∧ k_ ≠ gb741 ∧ k_ ≠ gb742 ∧ k_ ≠ gb743 ∧ k_ ≠ gb749) (Kd.R_N (Kd.R_bound ho0)) (fun k_ hk_ => ⟨(Nat.le_trans (below_size (y5 HB.out GE741.out GE742.out GE743.out GE749.out)) hk_.2.1), (Kd.fresh' (Kd.N_lt (y2 HO_750001.out)) k_ hk_.2.1), (Kd.freshB (g := gb741) (o := .cells #[.int .i64 a0_0, .slice A0_1 l0_1.length c0_1] 25 (0, 0)) (y0 BK741.out) k_ hk_.2.1), (Kd.freshB (g := gb742) (o := .cells #[.int .i64 a2_0, .slice A2_1 l2_1.length c2_1] 25 (0, 0)) (y0 BK742.out) k_ hk_.2.1), (Kd.freshB (g := gb743) (o := .cells #[.int .i64 0, .slice none 0 0] 25 (0, 0)) (y0 BK743.out) k_ hk_.2.1), (Kd.freshB (g := gb749) (o := .cells #[.int .i64 t744, .slice Ao18 t745.length co18] 25 (0, 0)) (y0 BK749.out) k_ hk_.2.1)⟩)) (below_size (y5 HB.out GE741.out GE742.out GE743.out GE749.out))); replace HO_750001 := Aside0.mk (Kd.N_elder' (y2 HO_750001.out) (Kd.R_base ho0) hb); replace BK741 := zbb BK741 hb; replace BK742 := zbb BK742 hb; replace BK743 := zbb BK743 hb; replace BK749 := zbb BK749 hb; replace HB := Aside0.mk (below_step (y5 HB.out GE741.out GE742.out GE743.out GE749.out) hb); (try clear hb); (try clear hb2); (try clear hk); (try clear hi); (try clear ho0)) | ((with_reducible refine gate_dst (N := 10) rfl ?_); refine zbx 10 #[.slice none 0 0] 50 ?_; intro gb755 hg w40 hbox hb; replace HO_750001 := Aside0.mk (Kd.N_below (Kd.N_elderB (y2 HO_750001.out) gb755 (Nat.le_of_eq hg.symm)) hb); replace HO753 := Aside0.mk (Kd.N_below (Kd.N_elderB (y2 HO753.out) gb755 (Nat.le_of_eq hg.symm)) hb); have BK755 := Aside0.mk hbox; have GW755 := Aside0.mk ((y27 hg HB.out GE741.out GE742.out GE743.out GE749.out : w.heap.size ≤ gb755)); have GE755 := Aside0.mk ((y27 hg HB.out GE741.out GE742.out GE743.out GE749.out : w.heap.size ≤ gb755)); replace HB := Aside0.mk (below_step (y5 HB.out GE741.out GE742.out GE743.out GE749.out) hb); have NB741_755 := zltn hg BK741; have NB755_741 := zgtn hg BK741; replace BK741 := zbb BK741 hb; have NB742_755 := zltn hg BK742; have NB755_742 := zgtn hg BK742; replace BK742 := zbb BK742 hb; have NB743_755 := zltn hg BK743; have NB755_743 := zgtn hg BK743; replace BK743 := zbb BK743 hb; have NB749_755 := zltn hg BK749; have NB755_749 := zgtn hg BK749; replace BK749 := zbb BK749 hb; clear hb hbox hg; obtain ⟨Ao41, co41, eo41⟩ := Kd.N_slice HO753.out; subst eo41; have hnb42 := NB755_741.out; have hnc42 := NB741_755.out; have hnb43 := NB755_742.out; have hnc43 := NB742_755.out; have hnb44 := NB755_743.out; have hnc44 := NB743_755.out; have hnb45 := NB755_749.out; have hnc45 := NB749_755.out; have hcz46_0 := zh BK755; have hfz46_0 := zfr BK755 0; have hnb47 := NB742_741.out; have hnc47 := NB741_742.out; have hnb48 := NB742_743.out; have hnc48 := NB743_742.out; have hcz49_0 := zh BK742; have hcz49_1 := zh1 BK742; have hfz49_0 := zfr BK742 0; have hfz49_1 := zfr BK742 1) | ((with_reducible refine gate_callee (f := 49) rfl ?_); refine goesL_ (some 35) rfl rfl Try.func49 (by kernel_rfl) rfl #[.agg #[.int .i64 a2_0, .slice A2_1 l2_1.length c2_1], .int .i64 4] rfl y9 ?_; (with_reducible refine (spec_l1Of.calls kj4 a2_0 _ _ l2_1 4 t756 t759 _ ?side1 ?side2 A32.out).mono ?_); (case side1 => exact Kd.C_below HR2_1.out (y14 HB.out GE741.out GE742.out GE743.out GE749.out GE755.out)); (case side2 => exact HC2_1.out); rintro e w50 ⟨v757, rfl, ho0, hb⟩; refine ⟨_, rfl, ?_⟩; have HO758 := Aside0.mk (Kd.N_lower (Kd.N_mono (ok' := fun k_ => (w.heap.size ≤ k_) ∧ some k_ ≠ (.slice Ao18 t745.length co18 : Value).ownBlock ∧ some k_ ≠ (.slice Ao41 t751.length co41 : Value).ownBlock ∧ k_ ≠ gb741 ∧ k_ ≠ gb742 ∧ k_ ≠ gb743 ∧ k_ ≠ gb749 ∧ k_ ≠ gb755) (Kd.R_N (Kd.R_bound ho0)) (fun k_ hk_ => ⟨(Nat.le_trans (below_size (y14 HB.out GE741.out GE742.out GE743.out GE749.out GE755.out)) hk_.2.1), (Kd.fresh' (Kd.N_lt (by (with_reducible repeat (first | apply Kd.N_alloc | apply Kd.N_drewN | apply Kd.N_drew)); exact (Kd.N_mono (Kd.N_far (p := ⟨gb755, 0, none⟩) (Kd.N_mono HO_750001.out (fun k_ hk => (⟨hk, hk.2⟩ : _ ∧ k_ ≠ gb755))) (fun _ hk => hk.2) (.slice Ao41 t751.length co41)) (fun _ h_ => h_.1)))) k_ hk_.2.1), (Kd.fresh' (Kd.N_lt (by (with_reducible repeat (first | apply Kd.N_alloc | apply Kd.N_drewN | apply Kd.N_drew)); exact (Kd.N_mono (Kd.N_far (p := ⟨gb755, 0, none⟩) (Kd.N_mono HO753.out (fun k_ hk => (⟨hk, hk.2⟩ : _ ∧ k_ ≠ gb755))) (fun _ hk => hk.2) (.slice Ao41 t751.length co41)) (fun _ h_ => h_.1)))) k_ hk_.2.1), (Kd.freshB (g := gb741) (o := .cells #[.int .i64 a0_0, .slice A0_1 l0_1.length c0_1] 25 (0, 0)) (y13 NB741_755.out BK741.out) k_ hk_.2.1), (Kd.freshB (g := gb742) (o := .cells #[.int .i64 a2_0, .slice A2_1 l2_1.length c2_1] 25 (0, 0)) (y13 NB742_755.out BK742.out) k_ hk_.2.1), (Kd.freshB (g := gb743) (o := .cells #[.int .i64 0, .slice none 0 0] 25 (0, 0)) (y13 NB743_755.out BK743.out) k_ hk_.2.1), (Kd.freshB (g := gb749) (o := .cells #[.int .i64 t744, .slice Ao18 t745.length co18] 25 (0, 0)) (y13 NB749_755.out BK749.out) k_ hk_.2.1), (Kd.freshB (g := gb755) (o := .cells #[.slice Ao41 t751.length co41] 50 (0, 0)) (by (with_reducible repeat (first | refine blk_drewN ?_ _ | refine blk_drew ?_ | refine blk_alloc ?_ _)); apply blk_put (i := 0); (case h => exact y0 BK755.out); (case e => rfl)) k_ hk_.2.1)⟩)) (below_size (y14 HB.out GE741.out GE742.out GE743.out GE749.out GE755.out))); replace HO_750001 := Aside0.mk (Kd.N_elder' (by (with_reducible repeat (first | apply Kd.N_alloc | apply Kd.N_drewN | apply Kd.N_drew)); exact (Kd.N_mono (Kd.N_far (p := ⟨gb755, 0, none⟩) (Kd.N_mono HO_750001.out (fun k_ hk => (⟨hk, hk.2⟩ : _ ∧ k_ ≠ gb755))) (fun _ hk => hk.2) (.slice Ao41 t751.length co41)) (fun _ h_ => h_.1))) (Kd.R_base ho0) hb); replace HO753 := Aside0.mk (Kd.N_elder' (by (with_reducible repeat (first | apply Kd.N_alloc | apply Kd.N_drewN | apply Kd.N_drew)); exact (Kd.N_mono (Kd.N_far (p := ⟨gb755, 0, none⟩) (Kd.N_mono HO753.out (fun k_ hk => (⟨hk, hk.2⟩ : _ ∧ k_ ≠ gb755))) (fun _ hk => hk.2) (.slice Ao41 t751.length co41)) (fun _ h_ => h_.1))) (Kd.R_base ho0) hb); replace BK741 := zbf BK741 NB741_755 hb; replace BK742 := zbf BK742 NB742_755 hb; replace BK743 := zbf BK743 NB743_755 hb; replace BK749 := zbf BK749 NB749_755 hb; replace BK755 := Aside0.mk (blk_below (g := gb755) (o := .cells #[.slice Ao41 t751.length co41] 50 (0, 0)) (by (with_reducible repeat (first | refine blk_drewN ?_ _ | refine blk_drew ?_ | refine blk_alloc ?_ _)); apply blk_put (i := 0); (case h => exact y0 BK755.out); (case e => rfl)) hb); replace HB := Aside0.mk (below_step (y14 HB.out GE741.out GE742.out GE743.out GE749.out GE755.out) hb); (try clear hb); (try clear hb2); (try clear hk); (try clear hi); (try clear ho0)) | ((with_reducible refine gate_dst (N := 12) rfl ?_); refine zbx 12 #[.slice none 0 0] 50 ?_; intro gb760 hg w51 hbox hb; replace HO_750001 := Aside0.mk (Kd.N_below (Kd.N_elderB (y2 HO_750001.out) gb760 (Nat.le_of_eq hg.symm)) hb); replace HO753 := Aside0.mk (Kd.N_below (Kd.N_elderB (y2 HO753.out) gb760 (Nat.le_of_eq hg.symm)) hb); replace HO758 := Aside0.mk (Kd.N_below (Kd.N_elderB (y2 HO758.out) gb760 (Nat.le_of_eq hg.symm)) hb); have BK760 := Aside0.mk hbox; have GW760 := Aside0.mk ((y30 hg HB.out GE741.out GE742.out GE743.out GE749.out GE755.out : w.heap.size ≤ gb760)); have GE760 := Aside0.mk ((y30 hg HB.out GE741.out GE742.out GE743.out GE749.out GE755.out : w.heap.size ≤ gb760)); replace HB := Aside0.mk (below_step (y14 HB.out GE741.out GE742.out GE743.out GE749.out GE755.out) hb); have NB741_760 := zltn hg BK741; have NB760_741 := zgtn hg BK741; replace BK741 := zbb BK741 hb; have NB742_760 := zltn hg BK742; have NB760_742 := zgtn hg BK742; replace BK742 := zbb BK742 hb; have NB743_760 := zltn hg BK743; have NB760_743 := zgtn hg BK743; replace BK743 := zbb BK743 hb; have NB749_760 := zltn hg BK749; have NB760_749 := zgtn hg BK749; replace BK749 := zbb BK749 hb; have NB755_760 := zltn hg BK755; have NB760_755 := zgtn hg BK755; replace BK755 := zbb BK755 hb; clear hb hbox hg; obtain ⟨Ao52, co52, eo52⟩ := Kd.N_slice HO758.out; subst eo52; have hnb53 := NB760_741.out; have hnc53 := NB741_760.out; have hnb54 := NB760_742.out; have hnc54 := NB742_760.out; have hnb55 := NB760_743.out; have hnc55 := NB743_760.out; have hnb56 := NB760_749.out; have hnc56 := NB749_760.out; have hnb57 := NB760_755.out; have hnc57 := NB755_760.out; have hcz58_0 := zh BK760; have hfz58_0 := zfr BK760 0; have hcz59_0 := zh BK755; have hfz59_0 := zfr BK755 0) | ((with_reducible refine gate_callee (f := 50) rfl ?_); refine goesL_ (some 40) rfl rfl Try.func50 (by kernel_rfl) rfl #[.agg #[.slice Ao41 t751.length co41], .agg #[.slice Ao52 t756.length co52]] rfl y9 ?_; (with_reducible refine (spec_l1Same.calls kj4 _ _ t751 _ _ t756 t761 _ ?side1 ?side2 ?side3 ?side4 A33.out).mono ?_); (case side1 => refine (Kd.N_reads' (e := 50) (base := w.heap.size) (ok := fun k_ => (((((w.heap.size ≤ k_) ∧ (some k_ ≠ (.slice Ao18 t745.length co18 : Value).ownBlock ∧ (k_ ≠ gb741 ∧ (k_ ≠ gb742 ∧ (k_ ≠ gb743 ∧ k_ ≠ gb749))))) ∧ k_ ≠ gb755) ∧ some k_ ≠ (.slice Ao52 t756.length co52 : Value).ownBlock) ∧ k_ ≠ gb760)) (n := t751.length) (c := co41) ?_).2.2; exact (by (with_reducible repeat (first | apply Kd.N_alloc | apply Kd.N_drewN | apply Kd.N_drew)); exact (Kd.N_mono (Kd.N_far (p := ⟨gb760, 0, none⟩) (Kd.N_mono HO753.out (fun k_ hk => (⟨hk, hk.2⟩ : _ ∧ k_ ≠ gb760))) (fun _ hk => hk.2) (.slice Ao52 t756.length co52)) (fun _ h_ => h_.1)))); (case side2 => exact (Kd.N_reads' HO753.out).2.1); (case side3 => refine (Kd.N_reads' (e := 50) (base := w.heap.size) (ok := fun k_ => (((w.heap.size ≤ k_) ∧ (some k_ ≠ (.slice Ao18 t745.length co18 : Value).ownBlock ∧ (some k_ ≠ (.slice Ao41 t751.length co41 : Value).ownBlock ∧ (k_ ≠ gb741 ∧ (k_ ≠ gb742 ∧ (k_ ≠ gb743 ∧ (k_ ≠ gb749 ∧ k_ ≠ gb755))))))) ∧ k_ ≠ gb760)) (n := t756.length) (c := co52) ?_).2.2; exact (by (with_reducible repeat (first | apply Kd.N_alloc | apply Kd.N_drewN | apply Kd.N_drew)); exact (Kd.N_mono (Kd.N_far (p := ⟨gb760, 0, none⟩) (Kd.N_mono HO758.out (fun k_ hk => (⟨hk, hk.2⟩ : _ ∧ k_ ≠ gb760))) (fun _ hk => hk.2) (.slice Ao52 t756.length co52)) (fun _ h_ => h_.1)))); (case side4 => exact (Kd.N_reads' HO758.out).2.1); rintro e w60 ⟨rfl, hb⟩; refine ⟨_, rfl, ?_⟩; replace HO_750001 := Aside0.mk (Kd.N_below (by (with_reducible repeat (first | apply Kd.N_alloc | apply Kd.N_drewN | apply Kd.N_drew)); exact (Kd.N_mono (Kd.N_far (p := ⟨gb760, 0, none⟩) (Kd.N_mono HO_750001.out (fun k_ hk => (⟨hk, hk.2⟩ : _ ∧ k_ ≠ gb760))) (fun _ hk => hk.2) (.slice Ao52 t756.length co52)) (fun _ h_ => h_.1))) hb); replace HO753 := Aside0.mk (Kd.N_below (by (with_reducible repeat (first | apply Kd.N_alloc | apply Kd.N_drewN | apply Kd.N_drew)); exact (Kd.N_mono (Kd.N_far (p := ⟨gb760, 0, none⟩) (Kd.N_mono HO753.out (fun k_ hk => (⟨hk, hk.2⟩ : _ ∧ k_ ≠ gb760))) (fun _ hk => hk.2) (.slice Ao52 t756.length co52)) (fun _ h_ => h_.1))) hb); replace HO758 := Aside0.mk (Kd.N_below (by (with_reducible repeat (first | apply Kd.N_alloc | apply Kd.N_drewN | apply Kd.N_drew)); exact (Kd.N_mono (Kd.N_far (p := ⟨gb760, 0, none⟩) (Kd.N_mono HO758.out (fun k_ hk => (⟨hk, hk.2⟩ : _ ∧ k_ ≠ gb760))) (fun _ hk => hk.2) (.slice Ao52 t756.length co52)) (fun _ h_ => h_.1))) hb); replace BK741 := zbf BK741 NB741_760 hb; replace BK742 := zbf BK742 NB742_760 hb; replace BK743 := zbf BK743 NB743_760 hb; replace BK749 := zbf BK749 NB749_760 hb; replace BK755 := zbf BK755 NB755_760 hb; replace BK760 := Aside0.mk (blk_below (g := gb760) (o := .cells #[.slice Ao52 t756.length co52] 50 (0, 0)) (by (with_reducible repeat (first | refine blk_drewN ?_ _ | refine blk_drew ?_ | refine blk_alloc ?_ _)); apply blk_put (i := 0); (case h => exact y0 BK760.out); (case e => rfl)) hb); replace HB := Aside0.mk (below_step (y17 HB.out GE741.out GE742.out GE743.out GE749.out GE755.out GE760.out) hb); (try clear hb); (try clear hb2); (try clear hk); (try clear hi)))
    (try simp only [Act.put, List.setIfInBounds_toArray, List.set_cons_zero, List.set_cons_succ])
    have H := HZ34.out
    clear HZ34
    by_cases c61 : t761 = true
    ·subst c61
     rw [if_pos rfl] at H
     obtain ⟨⟨t762, t763⟩, A620, H⟩ := ob H
     have A62 := Aside0.mk A620
     clear A620
     simp only [Option.some.injEq, Prod.mk.injEq] at H
     obtain ⟨rfl, rfl, rfl⟩ := H
     have hnb63 := NB741_742.out
     have hnc63 := NB742_741.out
     have hnb64 := NB741_743.out
     have hnc64 := NB743_741.out
     have hnb65 := NB741_749.out
     have hnc65 := NB749_741.out
     have hnb66 := NB741_755.out
     have hnc66 := NB755_741.out
     have hnb67 := NB741_760.out
     have hnc67 := NB760_741.out
     have hcz68_0 := zh BK741
     have hcz68_1 := zh1 BK741
     have hfz68_0 := zfr BK741 0
     have hfz68_1 := zfr BK741 1
     have hnb69 := NB742_743.out
     have hnc69 := NB743_742.out
     have hnb70 := NB742_749.out
     have hnc70 := NB749_742.out
     have hnb71 := NB742_755.out
     have hnc71 := NB755_742.out
     have hnb72 := NB742_760.out
     have hnc72 := NB760_742.out
     have hcz73_0 := zh BK742
     have hcz73_1 := zh1 BK742
     have hfz73_0 := zfr BK742 0
     have hfz73_1 := zfr BK742 1
     go_wp2_with (first | ((with_reducible refine gate_callee (f := 51) rfl ?_); refine goesL_ (some 46) rfl rfl Try.func51 (by kernel_rfl) rfl #[.agg #[.int .i64 a0_0, .slice A0_1 l0_1.length c0_1], .slice A1 l1.length c1, .agg #[.int .i64 a2_0, .slice A2_1 l2_1.length c2_1]] rfl y9 ?_; (with_reducible refine (spec_l1Put.calls kj4 a0_0 _ _ l0_1 _ _ l1 a2_0 _ _ l2_1 t762 t763 _ ?side1 ?side2 ?side3 ?side4 ?side5 ?side6 A62.out).mono ?_); (case side1 => exact y18 HR0_1.out HB.out); (case side2 => exact HC0_1.out); (case side3 => exact y18 HR1.out HB.out); (case side4 => exact HC1.out); (case side5 => exact y18 HR2_1.out HB.out); (case side6 => exact HC2_1.out); rintro e w74 ⟨v764, rfl, ho0, hb⟩; refine ⟨_, rfl, ?_⟩; have HO765 := Aside0.mk (Kd.N_lower (Kd.N_mono (ok' := fun k_ => (w.heap.size ≤ k_) ∧ some k_ ≠ (.slice Ao18 t745.length co18 : Value).ownBlock ∧ some k_ ≠ (.slice Ao41 t751.length co41 : Value).ownBlock ∧ some k_ ≠ (.slice Ao52 t756.length co52 : Value).ownBlock ∧ k_ ≠ gb741 ∧ k_ ≠ gb742 ∧ k_ ≠ gb743 ∧ k_ ≠ gb749 ∧ k_ ≠ gb755 ∧ k_ ≠ gb760) ho0 (fun k_ hk_ => ⟨(Nat.le_trans (below_size (y17 HB.out GE741.out GE742.out GE743.out GE749.out GE755.out GE760.out)) hk_), (Kd.fresh' (Kd.N_lt (y2 HO_750001.out)) k_ hk_), (Kd.fresh' (Kd.N_lt (y2 HO753.out)) k_ hk_), (Kd.fresh' (Kd.N_lt (y2 HO758.out)) k_ hk_), (Kd.freshB (g := gb741) (o := .cells #[.int .i64 a0_0, .slice A0_1 l0_1.length c0_1] 25 (0, 0)) (y0 BK741.out) k_ hk_), (Kd.freshB (g := gb742) (o := .cells #[.int .i64 a2_0, .slice A2_1 l2_1.length c2_1] 25 (0, 0)) (y0 BK742.out) k_ hk_), (Kd.freshB (g := gb743) (o := .cells #[.int .i64 0, .slice none 0 0] 25 (0, 0)) (y0 BK743.out) k_ hk_), (Kd.freshB (g := gb749) (o := .cells #[.int .i64 t744, .slice Ao18 t745.length co18] 25 (0, 0)) (y0 BK749.out) k_ hk_), (Kd.freshB (g := gb755) (o := .cells #[.slice Ao41 t751.length co41] 50 (0, 0)) (y0 BK755.out) k_ hk_), (Kd.freshB (g := gb760) (o := .cells #[.slice Ao52 t756.length co52] 50 (0, 0)) (y0 BK760.out) k_ hk_)⟩)) (below_size (y17 HB.out GE741.out GE742.out GE743.out GE749.out GE755.out GE760.out))); replace HO_750001 := Aside0.mk (Kd.N_elder' (y2 HO_750001.out) (Kd.N_base ho0) hb); replace HO753 := Aside0.mk (Kd.N_elder' (y2 HO753.out) (Kd.N_base ho0) hb); replace HO758 := Aside0.mk (Kd.N_elder' (y2 HO758.out) (Kd.N_base ho0) hb); replace BK741 := zbb BK741 hb; replace BK742 := zbb BK742 hb; replace BK743 := zbb BK743 hb; replace BK749 := zbb BK749 hb; replace BK755 := zbb BK755 hb; replace BK760 := zbb BK760 hb; replace HB := Aside0.mk (below_step (y17 HB.out GE741.out GE742.out GE743.out GE749.out GE755.out GE760.out) hb); (try clear hb); (try clear hb2); (try clear hk); (try clear hi); (try clear ho0); have hnb75 := NB743_749.out; have hnc75 := NB749_743.out; have hnb76 := NB743_755.out; have hnc76 := NB755_743.out; have hnb77 := NB743_760.out; have hnc77 := NB760_743.out; have hcz78_0 := zh BK743; have hcz78_1 := zh1 BK743; have hfz78_0 := zfr BK743 0; have hfz78_1 := zfr BK743 1; obtain ⟨Ao79, co79, eo79⟩ := Kd.N_slice HO765.out; subst eo79))
     refine bodyPost_ret (results_ct rfl _ _ gb743 25 #[.int .i64 t762, .slice Ao79 t763.length co79] (0, 0) _ rfl (by (with_reducible repeat (first | refine blk_drewN ?_ _ | refine blk_drew ?_ | refine blk_alloc ?_ _)); refine blk_put (cs := #[.int .i64 t762, .slice none 0 0]) ?_ 1 _ rfl; (with_reducible repeat (first | refine blk_drewN ?_ _ | refine blk_drew ?_ | refine blk_alloc ?_ _)); apply blk_put (i := 0); (case h => exact y0 BK743.out); (case e => rfl)) Try.underlying25 rfl (by kernel_rfl)) rfl ?_
     exact ⟨_, y15, (by (with_reducible repeat (first | apply Kd.N_alloc | apply Kd.N_drewN | apply Kd.N_drew)); exact Kd.N_mono (Kd.N_far (p := ⟨gb743, 1, none⟩) (Kd.N_far (p := ⟨gb743, 0, none⟩) (Kd.N_mono HO765.out (fun k_ hk => (⟨hk, hk.2.2.2.2.2.2.1⟩ : _ ∧ k_ ≠ gb743))) (fun _ hk => hk.2) (.int .i64 t762)) (fun _ hk => hk.2) (.slice Ao79 t763.length co79)) (fun _ hk => hk.1.1)), (y17 HB.out GE741.out GE742.out GE743.out GE749.out GE755.out GE760.out)⟩
    ·replace c61 := Bool.eq_false_iff.mpr c61
     subst c61
     rw [if_neg (show ¬ (false = true) by decide)] at H
     simp only [Option.some.injEq, Prod.mk.injEq] at H
     obtain ⟨rfl, rfl, rfl⟩ := H
     have hnb80 := NB743_741.out
     have hnc80 := NB741_743.out
     have hnb81 := NB743_742.out
     have hnc81 := NB742_743.out
     have hnb82 := NB743_749.out
     have hnc82 := NB749_743.out
     have hnb83 := NB743_755.out
     have hnc83 := NB755_743.out
     have hnb84 := NB743_760.out
     have hnc84 := NB760_743.out
     have hcz85_0 := zh BK743
     have hcz85_1 := zh1 BK743
     have hfz85_0 := zfr BK743 0
     have hfz85_1 := zfr BK743 1
     go_wp2
     refine bodyPost_ret (results_ct rfl _ _ gb743 25 #[.int .i64 0, .slice none 0 0] (0, 0) _ rfl (by (with_reducible repeat (first | refine blk_drewN ?_ _ | refine blk_drew ?_ | refine blk_alloc ?_ _)); refine blk_put (cs := #[.int .i64 0, .slice none 0 0]) ?_ 1 _ rfl; (with_reducible repeat (first | refine blk_drewN ?_ _ | refine blk_drew ?_ | refine blk_alloc ?_ _)); apply blk_put (i := 0); (case h => exact y0 BK743.out); (case e => rfl)) Try.underlying25 rfl (by kernel_rfl)) rfl ?_
     exact ⟨_, y15, y38, (y17 HB.out GE741.out GE742.out GE743.out GE749.out GE755.out GE760.out)⟩
end Go.Proofs.Ythfflieeifakdaa.PA
end
