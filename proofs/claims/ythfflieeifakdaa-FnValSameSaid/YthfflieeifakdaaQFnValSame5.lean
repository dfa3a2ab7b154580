-- Ythfflieeifakdaa's texts for the statement FnValSame, one behind the other (merge.py).
import Derived.Test.YthfflieeifakdaaQFnValSame0
import Derived.Test.YthfflieeifakdaaQFnValSame1
import Derived.Test.YthfflieeifakdaaQFnValSame4
import Derived.Test.YthfflieeifakdaaQFnValSame2
import Derived.Test.YthfflieeifakdaaQFnValSame3
import Derived.SizedLaws
import Derived.ChangeSlices
import Derived.Test.YthfflieeifakdaaRows
import Derived.WalkKit
import Derived.ProofKit
import Derived.OpenShut
import Derived.ShutString
import Derived.ChangeOld
import Derived.Below
section
namespace Go.Proofs.Ythfflieeifakdaa.PA
open Go.RowKit Go.Proofs.YthfflieeifakdaaW.PrintWords Go.Proofs.YthfflieeifakdaaW.PrintLast Go.Proofs.YthfflieeifakdaaW.PrintMore
attribute [local go_sem] max2_int min2_int max_two min_two max_three min_three max_four min_four
set_option linter.unusedVariables false
set_option linter.unusedSimpArgs false
def spec_DrawValPut.j0 : Nat → List Int → Bool → List Int → Int → List (S50) → List (S50) → Option (Int × (List (S25)) × List Int × Int × (List (S25)))
 | 0, _, _, _, _, _, _ => none
 | k + 1, x7, x32, x599000, x599001, x606000, x615000 => if x32 = true then ((spec_l71Type.f k x599000 x599001 2).bind fun bt617 => ((spec_l71Bad.f k x599000 bt617.2 x606000).bind fun bt621 => ((spec_l71Bad.f k x599000 bt621.2.2 bt617.1).bind fun bt626 => (some (bt621.1, bt621.2.1, x7, bt626.1, bt626.2.1))))) else ((spec_l71Bad.f k x599000 x599001 x606000).bind fun bt631 => ((spec_l71Bad.f k x599000 bt631.2.2 x615000).bind fun bt636 => (some (bt631.1, bt631.2.1, x7, bt636.1, bt636.2.1))))
def spec_DrawValPut.f (k : Nat) (l0 : List Int) : Option (Int × (List (S25)) × List Int × Int × (List (S25))) := (spec_l6Open.f l0).bind fun bt596 => ((spec_l6Rd_pick.f k bt596.1 bt596.2 3).bind fun bt599 => ((spec_l71Type.f k bt596.1 bt599.2 (wrap64 (2 + bt599.1))).bind fun bt601 => ((spec_l71Any.f k bt596.1 bt601.2 bt601.1).bind fun bt606 => ((spec_TypeAt.f k bt601.1 bt606.1).bind fun bt610 => (if bt610.2 = true then ((spec_l6Rd_pick.f k bt596.1 bt606.2 8).bind fun bt615 => (spec_DrawValPut.j0 k bt606.1 (bt615.1 == 0) bt596.1 bt615.2 bt601.1 bt610.1)) else (spec_DrawValPut.j0 k bt606.1 true bt596.1 bt606.2 bt601.1 bt610.1))))))
theorem spec_DrawValPut.mono_l : ∀ k, (∀ y0 y1 y2 y3 y4 y5, LeO (spec_DrawValPut.j0 k y0 y1 y2 y3 y4 y5) (spec_DrawValPut.j0 (k + 1) y0 y1 y2 y3 y4 y5))
 | 0 => fun _ _ _ _ _ _ r h => by simp [spec_DrawValPut.j0] at h
 | k + 1 => by
  have ih0 := spec_DrawValPut.mono_l k
  ·intro y0 y1 y2 y3 y4 y5
   unfold spec_DrawValPut.j0
   repeat' first
   | (with_reducible exact ih0 _ _ _ _ _ _)
   | (with_reducible exact spec_TypeAt.mono _ _ _)
   | (with_reducible exact spec_l6Rd_pick.mono _ _ _ _)
   | (with_reducible exact spec_l71Any.mono _ _ _ _)
   | (with_reducible exact spec_l71Bad.mono _ _ _ _)
   | (with_reducible exact spec_l71Type.mono _ _ _ _)
   | (with_reducible exact LeO.refl _)
   | (with_reducible exact LeO.none _)
   | (with_reducible refine LeO.ite ?_ ?_)
   | (with_reducible refine LeO.bind ?_ (fun _ => ?_))
   | exact ih0 _ _ _ _ _ _
   | exact spec_TypeAt.mono _ _ _
   | exact spec_l6Rd_pick.mono _ _ _ _
   | exact spec_l71Any.mono _ _ _ _
   | exact spec_l71Bad.mono _ _ _ _
   | exact spec_l71Type.mono _ _ _ _
   | exact LeO.none _
   | refine LeO.ite ?_ ?_
   | refine LeO.bind ?_ (fun _ => ?_)
theorem spec_DrawValPut.mono : ∀ a0 k, LeO (spec_DrawValPut.f k a0) (spec_DrawValPut.f (k + 1) a0) := by
 intro a0 k
 have ih0 := spec_DrawValPut.mono_l k
 unfold spec_DrawValPut.f
 repeat' first
   | (with_reducible exact ih0 _ _ _ _ _ _)
   | (with_reducible exact spec_TypeAt.mono _ _ _)
   | (with_reducible exact spec_l6Rd_pick.mono _ _ _ _)
   | (with_reducible exact spec_l71Any.mono _ _ _ _)
   | (with_reducible exact spec_l71Bad.mono _ _ _ _)
   | (with_reducible exact spec_l71Type.mono _ _ _ _)
   | (with_reducible exact LeO.refl _)
   | (with_reducible exact LeO.none _)
   | (with_reducible refine LeO.ite ?_ ?_)
   | (with_reducible refine LeO.bind ?_ (fun _ => ?_))
   | exact ih0 _ _ _ _ _ _
   | exact spec_TypeAt.mono _ _ _
   | exact spec_l6Rd_pick.mono _ _ _ _
   | exact spec_l71Any.mono _ _ _ _
   | exact spec_l71Bad.mono _ _ _ _
   | exact spec_l71Type.mono _ _ _ _
   | exact LeO.none _
   | refine LeO.ite ?_ ?_
   | refine LeO.bind ?_ (fun _ => ?_)
def spec_DrawValPut.T7 : Bool × List (List Nat × List Nat) := (true, [([], []), ([], []), ([0, 1], [0, 1]), ([], []), ([], []), ([], []), ([4, 5, 2], [4, 5]), ([2, 6, 0, 1, 2], [2]), ([3, 7, 0, 1, 2, 3, 7], [3]), ([6, 8, 0, 1, 2, 3, 4, 5, 6, 7, 8], [6])])
def spec_DrawValPut.B7 : List Nat := [0, 0, 3, 0, 0, 0, 55, 119, 255, 511]
theorem spec_DrawValPut.tab7 : rtab .any (opsOf Try.f25 7) = spec_DrawValPut.T7 := by kernel_rfl
theorem spec_DrawValPut.bits7 : waitsOk spec_DrawValPut.T7.2 spec_DrawValPut.B7 = true := by kernel_rfl
set_option maxHeartbeats 8000000 in
set_option maxRecDepth 100000 in
theorem spec_DrawValPut.calls (k : Nat) (A0 : Option Addr) (c0 : Nat) (l0 : List Int) (r1 : Int) (r2 : List (S25)) (r3 : List Int) (r4 : Int) (r5 : List (S25)) (w : World) (hr0 : Kd.C (Kd.int .u8) w A0 l0.length l0) (hc0 : l0.length ≤ c0) (h : spec_DrawValPut.f k l0 = some (r1, r2, r3, r4, r5)) :
  Calls Try.prog 25 #[.slice A0 l0.length c0] w fun e w' => ∃ v1_ v2_ v4_ : Value, e = .returned (.tuple #[.agg #[.int .i64 r1, v1_], v2_, .agg #[.int .i64 r4, v4_]]) ∧ Kd.N k25 25 w' w.heap.size (fun k_ => (w.heap.size ≤ k_) ∧ some k_ ≠ (v2_ : Value).ownBlock ∧ some k_ ≠ (v4_ : Value).ownBlock) v1_ r2 ∧ Kd.R (Kd.int .i64) 3 w' w.heap.size (fun k_ => (w.heap.size ≤ k_)) v2_ r3 ∧ Kd.N k25 25 w' w.heap.size (fun k_ => (w.heap.size ≤ k_) ∧ some k_ ≠ (v1_ : Value).ownBlock ∧ some k_ ≠ (v2_ : Value).ownBlock) v4_ r5 ∧ Below w.heap.size w w' := by
 have hu25 := Try.underlying25
 have hu50 := Try.underlying50
 have HR0 := Aside0.mk hr0
 have HC0 := Aside0.mk hc0
 clear hr0 hc0
 have HB := Aside0.mk (Below.refl w.heap.size w)
 have H : ((spec_l6Open.f l0).bind fun bt596 => ((spec_l6Rd_pick.f k bt596.1 bt596.2 3).bind fun bt599 => ((spec_l71Type.f k bt596.1 bt599.2 (wrap64 (2 + bt599.1))).bind fun bt601 => ((spec_l71Any.f k bt596.1 bt601.2 bt601.1).bind fun bt606 => ((spec_TypeAt.f k bt601.1 bt606.1).bind fun bt610 => (if bt610.2 = true then ((spec_l6Rd_pick.f k bt596.1 bt606.2 8).bind fun bt615 => (spec_DrawValPut.j0 k bt606.1 (bt615.1 == 0) bt596.1 bt615.2 bt601.1 bt610.1)) else (spec_DrawValPut.j0 k bt606.1 true bt596.1 bt606.2 bt601.1 bt610.1))))))) = some (r1, r2, r3, r4, r5) := h
 clear h
 obtain ⟨⟨t596, t597⟩, A20, H⟩ := ob H
 have A2 := Aside0.mk A20
 clear A20
 obtain ⟨⟨t599, t600⟩, A30, H⟩ := ob H
 have A3 := Aside0.mk A30
 clear A30
 obtain ⟨⟨t601, t604⟩, A40, H⟩ := ob H
 have A4 := Aside0.mk A40
 clear A40
 obtain ⟨⟨t606, t609⟩, A50, H⟩ := ob H
 have A5 := Aside0.mk A50
 clear A50
 obtain ⟨⟨t610, t613⟩, A60, H⟩ := ob H
 have A6 := Aside0.mk A60
 clear A60
 have HC7 := Aside0.mk H
 clear H
 go_enter Try.func25, Try.ntmps25
 go_upto_region 5 with (first | ((with_reducible refine gate_dst (N := 2) rfl ?_); refine zbx 2 #[.int .i64 0, .slice none 0 0] 25 ?_; intro gb594 hg w8 hbox hb; have BK594 := Aside0.mk hbox; have GW594 := Aside0.mk ((y9 hg HB.out : w.heap.size ≤ gb594)); have GE594 := Aside0.mk ((y9 hg HB.out : w.heap.size ≤ gb594)); replace HB := Aside0.mk (below_step (y5 HB.out) hb); clear hb hbox hg) | ((with_reducible refine gate_dst (N := 4) rfl ?_); refine zbx 4 #[.int .i64 0, .slice none 0 0] 25 ?_; intro gb595 hg w9 hbox hb; have BK595 := Aside0.mk hbox; have GW595 := Aside0.mk ((y11 hg HB.out GE594.out : w.heap.size ≤ gb595)); have GE595 := Aside0.mk ((y11 hg HB.out GE594.out : w.heap.size ≤ gb595)); replace HB := Aside0.mk (below_step (y6 HB.out GE594.out) hb); have NB594_595 := zltn hg BK594; have NB595_594 := zgtn hg BK594; replace BK594 := zbb BK594 hb; clear hb hbox hg) | ((with_reducible refine gate_callee (f := 30) rfl ?_); refine goesL_ (some 11) rfl rfl Try.func30 (by kernel_rfl) rfl #[.slice A0 l0.length c0] rfl y8 ?_; (with_reducible refine (spec_l6Open.calls _ _ l0 t596 t597 w _ ?side1 ?side2 ?side3 A2.out).mono ?_); (case side1 => exact y2 HB.out GE594.out GE595.out); (case side2 => exact HR0.out); (case side3 => exact HC0.out); rintro e w10 ⟨g598, rfl, hi, hb, hb2⟩; refine ⟨_, rfl, ?_⟩; replace HB := Aside0.mk (hb); have HI598 := Aside0.mk (hi); have NB598_594 := Aside0.mk (IsS75.ne_blk hi (blk_below (g := gb594) (o := .cells #[.int .i64 0, .slice none 0 0] 25 (0, 0)) (y0 BK594.out) hb2) (by decide)); have NB594_598 := Aside0.mk (Ne.symm (IsS75.ne_blk hi (blk_below (g := gb594) (o := .cells #[.int .i64 0, .slice none 0 0] 25 (0, 0)) (y0 BK594.out) hb2) (by decide))); replace BK594 := Aside0.mk (blk_below (g := gb594) (o := .cells #[.int .i64 0, .slice none 0 0] 25 (0, 0)) (y0 BK594.out) hb2); have NB598_595 := Aside0.mk (IsS75.ne_blk hi (blk_below (g := gb595) (o := .cells #[.int .i64 0, .slice none 0 0] 25 (0, 0)) (y0 BK595.out) hb2) (by decide)); have NB595_598 := Aside0.mk (Ne.symm (IsS75.ne_blk hi (blk_below (g := gb595) (o := .cells #[.int .i64 0, .slice none 0 0] 25 (0, 0)) (y0 BK595.out) hb2) (by decide))); replace BK595 := Aside0.mk (blk_below (g := gb595) (o := .cells #[.int .i64 0, .slice none 0 0] 25 (0, 0)) (y0 BK595.out) hb2); (try clear hb); (try clear hb2); (try clear hk); (try clear hi)) | ((with_reducible refine gate_callee (f := 32) rfl ?_); refine goesL_ (some 14) rfl rfl Try.func32 (by kernel_rfl) rfl #[.pointer (some ⟨g598, 0, none⟩), .int .i64 3] rfl y8 ?_; (with_reducible refine (spec_l6Rd_pick.calls k g598 t596 t597 3 t599 t600 w _ ?side1 ?side2 A3.out).mono ?_); (case side1 => exact y21 HI598.out NB598_594.out NB598_595.out); (case side2 => exact y17 HB.out HI598.out GE594.out GE595.out); rintro e w11 ⟨rfl, hi, hb, hk⟩; refine ⟨_, rfl, ?_⟩; replace BK594 := Aside0.mk (KeepBut.blk hk (g' := gb594) (o := .cells #[.int .i64 0, .slice none 0 0] 25 (0, 0)) (y0 BK594.out) NB594_598.out (by simp)); replace BK595 := Aside0.mk (KeepBut.blk hk (g' := gb595) (o := .cells #[.int .i64 0, .slice none 0 0] 25 (0, 0)) (y0 BK595.out) NB595_598.out (by simp)); replace HB := Aside0.mk (hb); replace HI598 := Aside0.mk (hi); (try clear hb); (try clear hb2); (try clear hk); (try clear hi)) | ((with_reducible refine gate_callee (f := 31) rfl ?_); refine goesL_ (some 16) rfl rfl Try.func31 (by kernel_rfl) rfl #[.pointer (some ⟨g598, 0, none⟩), .int .i64 (wrap64 (2 + t599))] rfl y8 ?_; (with_reducible refine (spec_l71Type.calls k g598 t596 t600 (wrap64 (2 + t599)) t601 t604 w _ ?side1 ?side2 A4.out).mono ?_); (case side1 => exact y21 HI598.out NB598_594.out NB598_595.out); (case side2 => exact y17 HB.out HI598.out GE594.out GE595.out); rintro e w12 ⟨v602, rfl, ho0, hi, hb, hk⟩; refine ⟨_, rfl, ?_⟩; have HO603 := Aside0.mk (Kd.N_lower (Kd.N_mono (ok' := fun k_ => (w.heap.size ≤ k_) ∧ k_ ≠ gb594 ∧ k_ ≠ gb595 ∧ k_ ≠ g598) ho0 (fun k_ hk_ => ⟨(Nat.le_trans (below_size (y17 HB.out HI598.out GE594.out GE595.out)) hk_), (Kd.freshB (g := gb594) (o := .cells #[.int .i64 0, .slice none 0 0] 25 (0, 0)) (y0 BK594.out) k_ hk_), (Kd.freshB (g := gb595) (o := .cells #[.int .i64 0, .slice none 0 0] 25 (0, 0)) (y0 BK595.out) k_ hk_), (IsS75.fresh (y21 HI598.out NB598_594.out NB598_595.out) k_ hk_)⟩)) (below_size (y17 HB.out HI598.out GE594.out GE595.out))); replace BK594 := Aside0.mk (KeepBut.blk hk (g' := gb594) (o := .cells #[.int .i64 0, .slice none 0 0] 25 (0, 0)) (y0 BK594.out) NB594_598.out (by simp)); replace BK595 := Aside0.mk (KeepBut.blk hk (g' := gb595) (o := .cells #[.int .i64 0, .slice none 0 0] 25 (0, 0)) (y0 BK595.out) NB595_598.out (by simp)); replace HB := Aside0.mk (hb); replace HI598 := Aside0.mk (hi); (try clear hb); (try clear hb2); (try clear hk); (try clear hi); (try clear ho0)) | ((with_reducible refine gate_dst (N := 6) rfl ?_); refine zbx 6 #[.slice none 0 0] 50 ?_; intro gb605 hg w13 hbox hb; replace HO603 := Aside0.mk (Kd.N_below (Kd.N_elderB (y3 HO603.out) gb605 (Nat.le_of_eq hg.symm)) hb); have BK605 := Aside0.mk hbox; have GW605 := Aside0.mk ((y45 hg HB.out HI598.out GE594.out GE595.out : w.heap.size ≤ gb605)); have GE605 := Aside0.mk ((y45 hg HB.out HI598.out GE594.out GE595.out : w.heap.size ≤ gb605)); replace HB := Aside0.mk (below_step (y17 HB.out HI598.out GE594.out GE595.out) hb); have NB594_605 := zltn hg BK594; have NB605_594 := zgtn hg BK594; replace BK594 := zbb BK594 hb; have NB595_605 := zltn hg BK595; have NB605_595 := zgtn hg BK595; replace BK595 := zbb BK595 hb; have NB598_605 := Aside0.mk ((by rw [hg]; exact Nat.ne_of_lt (IsS75.lt (show IsS75 w _ g598 t596 t604 from by repeat (first | (with_reducible first | exact HI598.out | apply IsS75.alloc | apply IsS75.drewN | apply IsS75.drew | apply IsS75.set_1 | refine IsS75.far ?_ NB598_594.out _ | refine IsS75.far ?_ NB598_595.out _) | exact HI598.out))) : g598 ≠ gb605)); have NB605_598 := Aside0.mk ((by rw [hg]; exact Nat.ne_of_gt (IsS75.lt (show IsS75 w _ g598 t596 t604 from by repeat (first | (with_reducible first | exact HI598.out | apply IsS75.alloc | apply IsS75.drewN | apply IsS75.drew | apply IsS75.set_1 | refine IsS75.far ?_ NB598_594.out _ | refine IsS75.far ?_ NB598_595.out _) | exact HI598.out))) : gb605 ≠ g598)); replace HI598 := Aside0.mk (IsS75.below (y21 HI598.out NB598_594.out NB598_595.out) hb); clear hb hbox hg; obtain ⟨Ao14, co14, eo14⟩ := Kd.N_slice HO603.out; subst eo14; have hnb15 := NB605_594.out; have hnc15 := NB594_605.out; have hnb16 := NB605_595.out; have hnc16 := NB595_605.out; have hnb17 := NB605_598.out; have hnc17 := NB598_605.out; have hcz18_0 := zh BK605; have hfz18_0 := zfr BK605 0) | ((with_reducible refine gate_store (t := 50) (p := 6) rfl ?_); refine store_event (t := 50) (p := 6) (v := ?vo_w19) (w1 := (w13.setCell ⟨gb605, 0, none⟩ (.slice Ao14 t601.length co14))) ?hg ?ho ?hn ?hr ?_; (case ho => rfl); (case hg => rfl); (case hn => rfl); (case hr => first | (go_simp; done) | (go_simp; rfl)); intro w19 hw; have n0_ : Aside0 (Kd.N k50 50 w19 w.heap.size (fun k_ => (w.heap.size ≤ k_) ∧ k_ ≠ gb594 ∧ k_ ≠ gb595 ∧ k_ ≠ g598 ∧ k_ ≠ gb605) (.slice Ao14 t601.length co14) t601) := ⟨(by rw [hw]; exact (by (with_reducible repeat (first | apply Kd.N_alloc | apply Kd.N_drewN | apply Kd.N_drew)); exact Kd.N_mono (Kd.N_far (p := ⟨gb605, 0, none⟩) (Kd.N_mono HO603.out (fun k_ hk => (⟨hk, hk.2⟩ : _ ∧ k_ ≠ gb605))) (fun _ hk => hk.2) (.slice Ao14 t601.length co14)) (fun _ hk => ⟨hk.1.1.1, ⟨hk.1.1.2.1, ⟨hk.1.1.2.2.1, ⟨hk.1.1.2.2.2, hk.1.2⟩⟩⟩⟩)))⟩; have n1_ : Aside0 (w19.heap[gb594]? = some (.cells #[.int .i64 0, .slice none 0 0] 25 (0, 0))) := ⟨(by rw [hw]; exact (y13 NB594_605.out BK594.out))⟩; have n2_ : Aside0 (w19.heap[gb595]? = some (.cells #[.int .i64 0, .slice none 0 0] 25 (0, 0))) := ⟨(by rw [hw]; exact (y13 NB595_605.out BK595.out))⟩; have n3_ : Aside0 (w19.heap[gb605]? = some (.cells #[.slice Ao14 t601.length co14] 50 (0, 0))) := ⟨(by rw [hw]; exact (by (with_reducible repeat (first | refine blk_drewN ?_ _ | refine blk_drew ?_ | refine blk_alloc ?_ _)); apply blk_put (i := 0); (case h => exact y0 BK605.out); (case e => rfl)))⟩; have n4_ : Aside0 (IsS75 w w19 g598 t596 t604) := ⟨(by rw [hw]; exact (y26 HI598.out NB598_594.out NB598_595.out NB598_605.out))⟩; have n5_ : Aside0 (Below w.heap.size w w19) := ⟨(by rw [hw]; exact (y24 HB.out HI598.out GE594.out GE595.out GE605.out))⟩; clear hw; clear HO603; clear BK594; clear BK595; clear BK605; clear HI598; clear HB; have HO603 := n0_; have BK594 := n1_; have BK595 := n2_; have BK605 := n3_; have HI598 := n4_; have HB := n5_; clear n0_ n1_ n2_ n3_ n4_ n5_; have hcz20_0 := zh BK605; have hfz20_0 := zfr BK605 0) | ((with_reducible refine gate_callee (f := 34) rfl ?_); refine goesL_ (some 19) rfl rfl Try.func34 (by kernel_rfl) rfl #[.pointer (some ⟨g598, 0, none⟩), .agg #[.slice Ao14 t601.length co14]] rfl y8 ?_; (with_reducible refine (spec_l71Any.calls k g598 t596 t604 (fun k_ => ((w.heap.size ≤ k_) ∧ (k_ ≠ gb594 ∧ (k_ ≠ gb595 ∧ (k_ ≠ g598 ∧ k_ ≠ gb605))))) _ _ t601 t606 t609 w _ ?side1 ?side2 ?side3 A5.out).mono ?_); (case side1 => exact y26 HI598.out NB598_594.out NB598_595.out NB598_605.out); (case side2 => exact y24 HB.out HI598.out GE594.out GE595.out GE605.out); (case side3 => exact Kd.V_mono (Kd.N_V (HO603.out)) (fun k_ hk_ => ⟨hk_, hk_.2.2.2.1⟩)); rintro e w21 ⟨v607, rfl, ho0, hi, hb, hk⟩; refine ⟨_, rfl, ?_⟩; replace BK594 := Aside0.mk (KeepBut.blk hk (g' := gb594) (o := .cells #[.int .i64 0, .slice none 0 0] 25 (0, 0)) (y0 BK594.out) NB594_598.out (by simp)); replace BK595 := Aside0.mk (KeepBut.blk hk (g' := gb595) (o := .cells #[.int .i64 0, .slice none 0 0] 25 (0, 0)) (y0 BK595.out) NB595_598.out (by simp)); replace HO603 := Aside0.mk (Kd.N_mono (Kd.N_told (Kd.N_oldK (Kd.N_mono (ok := fun k_ => (((w.heap.size ≤ k_)) ∧ (k_ ≠ gb594 ∧ (k_ ≠ gb595 ∧ (k_ ≠ g598 ∧ k_ ≠ gb605))))) (y3 HO603.out) (fun k_ hk_ => (⟨hk_, hk_.2.2.2.1⟩ : _ ∧ k_ ≠ g598))) hk) (Kd.R_base ho0)) (fun _ h_ => h_.1)); replace BK605 := Aside0.mk (KeepBut.blk hk (g' := gb605) (o := .cells #[.slice Ao14 t601.length co14] 50 (0, 0)) (y0 BK605.out) NB605_598.out (by simp)); have HO608 := Aside0.mk (Kd.R_lower (Kd.R_newM (M := fun k_ => (w.heap.size ≤ k_)) (Kd.R_mono (ok' := fun k_ => True) ho0 (fun _ _ => trivial)) (below_size (y24 HB.out HI598.out GE594.out GE595.out GE605.out)) (fun k_ h_ => h_)) (below_size (y24 HB.out HI598.out GE594.out GE595.out GE605.out))); replace HB := Aside0.mk (hb); replace HI598 := Aside0.mk (hi); (try clear hb); (try clear hb2); (try clear hk); (try clear hi); (try clear ho0); have hcz22_0 := zh BK605; have hfz22_0 := zfr BK605 0; obtain ⟨Ao23, co23, eo23⟩ := Kd.R_slice HO608.out; subst eo23) | ((with_reducible refine gate_callee (f := 48) rfl ?_); refine goesL_ (some 23) rfl rfl Try.func48 (by kernel_rfl) rfl #[.agg #[.slice Ao14 t601.length co14], .slice Ao23 t606.length co23] rfl y8 ?_; (with_reducible refine (spec_TypeAt.calls k (fun k_ => (((w.heap.size ≤ k_) ∧ (k_ ≠ gb594 ∧ (k_ ≠ gb595 ∧ (k_ ≠ g598 ∧ k_ ≠ gb605)))) ∧ some k_ ≠ (.slice Ao23 t606.length co23 : Value).ownBlock)) _ _ t601 _ _ t606 t610 t613 _ ?side1 ?side2 ?side3 A6.out).mono ?_); (case side1 => exact Kd.N_V (HO603.out)); (case side2 => exact y39 HO608.out); (case side3 => exact (Kd.R_reads' HO608.out).2.1); rintro e w24 ⟨v611, rfl, ho0, hb⟩; refine ⟨_, rfl, ?_⟩; replace HO603 := Aside0.mk (Kd.N_elder' (y3 HO603.out) (Kd.R_base ho0) hb); have HO612 := Aside0.mk (Kd.N_lower (Kd.N_mono (ok' := fun k_ => (w.heap.size ≤ k_) ∧ some k_ ≠ (.slice Ao23 t606.length co23 : Value).ownBlock ∧ k_ ≠ gb594 ∧ k_ ≠ gb595 ∧ k_ ≠ gb605 ∧ k_ ≠ g598) (Kd.R_N (Kd.R_bound ho0)) (fun k_ hk_ => ⟨(Nat.le_trans (below_size (y24 HB.out HI598.out GE594.out GE595.out GE605.out)) hk_.2.1), (Kd.fresh' (Kd.R_lt (y12 HO608.out)) k_ hk_.2.1), (Kd.freshB (g := gb594) (o := .cells #[.int .i64 0, .slice none 0 0] 25 (0, 0)) (y0 BK594.out) k_ hk_.2.1), (Kd.freshB (g := gb595) (o := .cells #[.int .i64 0, .slice none 0 0] 25 (0, 0)) (y0 BK595.out) k_ hk_.2.1), (Kd.freshB (g := gb605) (o := .cells #[.slice Ao14 t601.length co14] 50 (0, 0)) (y0 BK605.out) k_ hk_.2.1), (IsS75.fresh (y26 HI598.out NB598_594.out NB598_595.out NB598_605.out) k_ hk_.2.1)⟩)) (below_size (y24 HB.out HI598.out GE594.out GE595.out GE605.out))); replace HO608 := Aside0.mk (Kd.R_below (y12 HO608.out) hb); replace BK594 := zbb BK594 hb; replace BK595 := zbb BK595 hb; replace BK605 := zbb BK605 hb; replace HB := Aside0.mk (below_step (y24 HB.out HI598.out GE594.out GE595.out GE605.out) hb); replace HI598 := Aside0.mk (IsS75.below (y26 HI598.out NB598_594.out NB598_595.out NB598_605.out) hb); (try clear hb); (try clear hb2); (try clear hk); (try clear hi); (try clear ho0)) | ((with_reducible refine gate_dst (N := 8) rfl ?_); refine zbx 8 #[.slice none 0 0] 50 ?_; intro gb614 hg w25 hbox hb; replace HO603 := Aside0.mk (Kd.N_below (Kd.N_elderB (y3 HO603.out) gb614 (Nat.le_of_eq hg.symm)) hb); replace HO608 := Aside0.mk (Kd.R_below (y12 HO608.out) hb); replace HO612 := Aside0.mk (Kd.N_below (Kd.N_elderB (y3 HO612.out) gb614 (Nat.le_of_eq hg.symm)) hb); have BK614 := Aside0.mk hbox; have GW614 := Aside0.mk ((y67 hg HB.out HI598.out GE594.out GE595.out GE605.out : w.heap.size ≤ gb614)); have GE614 := Aside0.mk ((y67 hg HB.out HI598.out GE594.out GE595.out GE605.out : w.heap.size ≤ gb614)); replace HB := Aside0.mk (below_step (y24 HB.out HI598.out GE594.out GE595.out GE605.out) hb); have NB594_614 := zltn hg BK594; have NB614_594 := zgtn hg BK594; replace BK594 := zbb BK594 hb; have NB595_614 := zltn hg BK595; have NB614_595 := zgtn hg BK595; replace BK595 := zbb BK595 hb; have NB605_614 := zltn hg BK605; have NB614_605 := zgtn hg BK605; replace BK605 := zbb BK605 hb; have NB598_614 := Aside0.mk ((by rw [hg]; exact Nat.ne_of_lt (IsS75.lt (show IsS75 w _ g598 t596 t609 from by repeat (first | (with_reducible first | exact HI598.out | apply IsS75.alloc | apply IsS75.drewN | apply IsS75.drew | apply IsS75.set_1 | refine IsS75.far ?_ NB598_594.out _ | refine IsS75.far ?_ NB598_595.out _ | refine IsS75.far ?_ NB598_605.out _) | exact HI598.out))) : g598 ≠ gb614)); have NB614_598 := Aside0.mk ((by rw [hg]; exact Nat.ne_of_gt (IsS75.lt (show IsS75 w _ g598 t596 t609 from by repeat (first | (with_reducible first | exact HI598.out | apply IsS75.alloc | apply IsS75.drewN | apply IsS75.drew | apply IsS75.set_1 | refine IsS75.far ?_ NB598_594.out _ | refine IsS75.far ?_ NB598_595.out _ | refine IsS75.far ?_ NB598_605.out _) | exact HI598.out))) : gb614 ≠ g598)); replace HI598 := Aside0.mk (IsS75.below (y26 HI598.out NB598_594.out NB598_595.out NB598_605.out) hb); clear hb hbox hg; obtain ⟨Ao26, co26, eo26⟩ := Kd.N_slice HO612.out; subst eo26; have hnb27 := NB614_594.out; have hnc27 := NB594_614.out; have hnb28 := NB614_595.out; have hnc28 := NB595_614.out; have hnb29 := NB614_605.out; have hnc29 := NB605_614.out; have hnb30 := NB614_598.out; have hnc30 := NB598_614.out; have hcz31_0 := zh BK614; have hfz31_0 := zfr BK614 0))
 (try simp only [Act.put, List.setIfInBounds_toArray, List.set_cons_zero, List.set_cons_succ])
 go_cut [32] (fun v32 wc => ∃ (kq : Nat) (x32_6 : Bool) (x599001_6 : Int), v32 = .bool x32_6 ∧ Aside0 (spec_DrawValPut.j0 kq t606 x32_6 t596 x599001_6 t601 t610 = some (r1, r2, r3, r4, r5)) ∧ Aside0 (kq ≤ k) ∧ Aside0 (Kd.R (Kd.int .i64) 3 wc w.heap.size (fun k_ => (w.heap.size ≤ k_)) (.slice Ao23 t606.length co23) t606) ∧ Aside0 (Kd.N k50 50 wc w.heap.size (fun k_ => (w.heap.size ≤ k_) ∧ some k_ ≠ ((.slice Ao23 t606.length co23) : Value).ownBlock ∧ some k_ ≠ ((.slice Ao26 t610.length co26) : Value).ownBlock ∧ k_ ≠ gb594 ∧ k_ ≠ gb595 ∧ k_ ≠ gb605 ∧ k_ ≠ gb614 ∧ k_ ≠ g598) (.slice Ao14 t601.length co14) t601) ∧ Aside0 (Kd.N k50 50 wc w.heap.size (fun k_ => (w.heap.size ≤ k_) ∧ some k_ ≠ ((.slice Ao23 t606.length co23) : Value).ownBlock ∧ k_ ≠ gb594 ∧ k_ ≠ gb595 ∧ k_ ≠ gb605 ∧ k_ ≠ gb614 ∧ k_ ≠ g598) (.slice Ao26 t610.length co26) t610) ∧ Aside0 (wc.heap[gb594]? = some (.cells #[.int .i64 0, (.slice none 0 0)] 25 (0, 0))) ∧ Aside0 (wc.heap[gb595]? = some (.cells #[.int .i64 0, (.slice none 0 0)] 25 (0, 0))) ∧ Aside0 (wc.heap[gb605]? = some (.cells #[(.slice Ao14 t601.length co14)] 50 (0, 0))) ∧ Aside0 (wc.heap[gb614]? = some (.cells #[(.slice Ao26 t610.length co26)] 50 (0, 0))) ∧ Aside0 (IsS75 w wc g598 t596 x599001_6) ∧ Aside0 (Below w.heap.size w wc))
 case first =>
  have H := HC7.out
  clear HC7
  by_cases c32 : t613 = true
  ·subst c32
   rw [if_pos rfl] at H
   obtain ⟨⟨t615, t616⟩, A330, H⟩ := ob H
   have A33 := Aside0.mk A330
   clear A330
   have H' := Aside0.mk H
   clear H
   go_wp2_with (first | (go_at_call 32; (with_reducible refine (spec_l6Rd_pick.calls k g598 t596 t609 8 t615 t616 w _ ?side1 ?side2 A33.out).mono ?_); (case side1 => exact y36 HI598.out NB598_594.out NB598_595.out NB598_605.out NB598_614.out); (case side2 => exact y28 HB.out HI598.out GE594.out GE595.out GE605.out GE614.out); rintro e w34 ⟨rfl, hi, hb, hk⟩; replace BK594 := Aside0.mk (KeepBut.blk hk (g' := gb594) (o := .cells #[.int .i64 0, .slice none 0 0] 25 (0, 0)) (y13 NB594_614.out BK594.out) NB594_598.out (by simp)); replace BK595 := Aside0.mk (KeepBut.blk hk (g' := gb595) (o := .cells #[.int .i64 0, .slice none 0 0] 25 (0, 0)) (y13 NB595_614.out BK595.out) NB595_598.out (by simp)); replace HO603 := Aside0.mk (Kd.N_mono (Kd.N_keep (Kd.N_mono (ok := fun k_ => ((((((w.heap.size ≤ k_)) ∧ (k_ ≠ gb594 ∧ (k_ ≠ gb595 ∧ (k_ ≠ g598 ∧ k_ ≠ gb605)))) ∧ some k_ ≠ (.slice Ao23 t606.length co23 : Value).ownBlock) ∧ some k_ ≠ (.slice Ao26 t610.length co26 : Value).ownBlock) ∧ k_ ≠ gb614)) (by (with_reducible repeat (first | apply Kd.N_alloc | apply Kd.N_drewN | apply Kd.N_drew)); exact (Kd.N_mono (Kd.N_far (p := ⟨gb614, 0, none⟩) (Kd.N_mono HO603.out (fun k_ hk => (⟨hk, hk.2⟩ : _ ∧ k_ ≠ gb614))) (fun _ hk => hk.2) (.slice Ao26 t610.length co26)) (fun _ h_ => h_.1))) (fun k_ hk_ => (⟨hk_, hk_.1.1.1.2.2.2.1⟩ : _ ∧ k_ ≠ g598))) hk (fun _ h => h.2)) (fun _ h => h.1)); replace BK605 := Aside0.mk (KeepBut.blk hk (g' := gb605) (o := .cells #[.slice Ao14 t601.length co14] 50 (0, 0)) (y13 NB605_614.out BK605.out) NB605_598.out (by simp)); replace HO608 := Aside0.mk (Kd.R_mono (Kd.R_keep (IsS75.apart (show IsS75 w _ g598 t596 t609 from by repeat (first | (with_reducible first | exact HI598.out | apply IsS75.alloc | apply IsS75.drewN | apply IsS75.drew | apply IsS75.set_1 | refine IsS75.far ?_ NB598_594.out _ | refine IsS75.far ?_ NB598_595.out _ | refine IsS75.far ?_ NB598_605.out _ | refine IsS75.far ?_ NB598_614.out _) | exact HI598.out)) (by (with_reducible repeat (first | apply Kd.R_alloc | apply Kd.R_drewN | apply Kd.R_drew)); exact (Kd.R_mono (Kd.R_far (p := ⟨gb614, 0, none⟩) (Kd.R_types HO608.out BK614.out (by decide)) (fun _ hk => hk.2) (.slice Ao26 t610.length co26)) (fun _ h_ => h_.1))) (by decide)) hk (fun _ h => h.2)) (fun _ h => h.1)); replace HO612 := Aside0.mk (Kd.N_mono (Kd.N_keep (Kd.N_mono (ok := fun k_ => ((((w.heap.size ≤ k_)) ∧ (some k_ ≠ (.slice Ao23 t606.length co23 : Value).ownBlock ∧ (k_ ≠ gb594 ∧ (k_ ≠ gb595 ∧ (k_ ≠ gb605 ∧ k_ ≠ g598))))) ∧ k_ ≠ gb614)) (by (with_reducible repeat (first | apply Kd.N_alloc | apply Kd.N_drewN | apply Kd.N_drew)); exact (Kd.N_mono (Kd.N_far (p := ⟨gb614, 0, none⟩) (Kd.N_mono HO612.out (fun k_ hk => (⟨hk, hk.2⟩ : _ ∧ k_ ≠ gb614))) (fun _ hk => hk.2) (.slice Ao26 t610.length co26)) (fun _ h_ => h_.1))) (fun k_ hk_ => (⟨hk_, hk_.1.2.2.2.2.2⟩ : _ ∧ k_ ≠ g598))) hk (fun _ h => h.2)) (fun _ h => h.1)); replace BK614 := Aside0.mk (KeepBut.blk hk (g' := gb614) (o := .cells #[.slice Ao26 t610.length co26] 50 (0, 0)) (by (with_reducible repeat (first | refine blk_drewN ?_ _ | refine blk_drew ?_ | refine blk_alloc ?_ _)); apply blk_put (i := 0); (case h => exact y0 BK614.out); (case e => rfl)) NB614_598.out (by simp)); replace HB := Aside0.mk (hb); replace HI598 := Aside0.mk (hi); (try clear hb); (try clear hb2); (try clear hk); (try clear hi)))
   go_meet
   case rel => exact ⟨_, ((t615 == 0)), (t616), y34, H', ⟨y46⟩, ⟨(y71 HO608.out)⟩, ⟨(by (with_reducible repeat (first | apply Kd.N_alloc | apply Kd.N_drewN | apply Kd.N_drew)); exact Kd.N_mono HO603.out (fun _ hk => ⟨hk.1.1.1.1, ⟨hk.1.1.2, ⟨hk.1.2, ⟨hk.1.1.1.2.1, ⟨hk.1.1.1.2.2.1, ⟨hk.1.1.1.2.2.2.2, ⟨hk.2, hk.1.1.1.2.2.2.1⟩⟩⟩⟩⟩⟩⟩))⟩, ⟨(by (with_reducible repeat (first | apply Kd.N_alloc | apply Kd.N_drewN | apply Kd.N_drew)); exact Kd.N_mono HO612.out (fun _ hk => ⟨hk.1.1, ⟨hk.1.2.1, ⟨hk.1.2.2.1, ⟨hk.1.2.2.2.1, ⟨hk.1.2.2.2.2.1, ⟨hk.2, hk.1.2.2.2.2.2⟩⟩⟩⟩⟩⟩))⟩, ⟨(y0 BK594.out)⟩, ⟨(y0 BK595.out)⟩, ⟨(y0 BK605.out)⟩, ⟨(y0 BK614.out)⟩, ⟨(y36 HI598.out NB598_594.out NB598_595.out NB598_605.out NB598_614.out)⟩, ⟨(y28 HB.out HI598.out GE594.out GE595.out GE605.out GE614.out)⟩⟩
  ·replace c32 := Bool.eq_false_iff.mpr c32
   subst c32
   rw [if_neg (show ¬ (false = true) by decide)] at H
   have H' := Aside0.mk H
   clear H
   go_wp2
   go_meet
   case rel => exact ⟨_, (true), (t609), y34, H', ⟨y46⟩, ⟨(by (with_reducible repeat (first | apply Kd.R_alloc | apply Kd.R_drewN | apply Kd.R_drew)); exact Kd.R_mono (Kd.R_far (p := ⟨gb614, 0, none⟩) (Kd.R_types HO608.out BK614.out (by decide)) (fun _ hk => hk.2) (.slice Ao26 t610.length co26)) (fun _ hk => hk.1.1))⟩, ⟨(by (with_reducible repeat (first | apply Kd.N_alloc | apply Kd.N_drewN | apply Kd.N_drew)); exact Kd.N_mono (Kd.N_far (p := ⟨gb614, 0, none⟩) (Kd.N_mono HO603.out (fun k_ hk => (⟨hk, hk.2⟩ : _ ∧ k_ ≠ gb614))) (fun _ hk => hk.2) (.slice Ao26 t610.length co26)) (fun _ hk => ⟨hk.1.1.1.1.1, ⟨hk.1.1.1.2, ⟨hk.1.1.2, ⟨hk.1.1.1.1.2.1, ⟨hk.1.1.1.1.2.2.1, ⟨hk.1.1.1.1.2.2.2.2, ⟨hk.1.2, hk.1.1.1.1.2.2.2.1⟩⟩⟩⟩⟩⟩⟩))⟩, ⟨(by (with_reducible repeat (first | apply Kd.N_alloc | apply Kd.N_drewN | apply Kd.N_drew)); exact Kd.N_mono (Kd.N_far (p := ⟨gb614, 0, none⟩) (Kd.N_mono HO612.out (fun k_ hk => (⟨hk, hk.2⟩ : _ ∧ k_ ≠ gb614))) (fun _ hk => hk.2) (.slice Ao26 t610.length co26)) (fun _ hk => ⟨hk.1.1.1, ⟨hk.1.1.2.1, ⟨hk.1.1.2.2.1, ⟨hk.1.1.2.2.2.1, ⟨hk.1.1.2.2.2.2.1, ⟨hk.1.2, hk.1.1.2.2.2.2.2⟩⟩⟩⟩⟩⟩))⟩, ⟨(y13 NB594_614.out BK594.out)⟩, ⟨(y13 NB595_614.out BK595.out)⟩, ⟨(y13 NB605_614.out BK605.out)⟩, ⟨(by (with_reducible repeat (first | refine blk_drewN ?_ _ | refine blk_drew ?_ | refine blk_alloc ?_ _)); refine blk_put (cs := #[.slice none 0 0]) ?_ 0 _ rfl; (with_reducible repeat (first | refine blk_drewN ?_ _ | refine blk_drew ?_ | refine blk_alloc ?_ _)); exact BK614.out)⟩, ⟨(y36 HI598.out NB598_594.out NB598_595.out NB598_605.out NB598_614.out)⟩, ⟨(y28 HB.out HI598.out GE594.out GE595.out GE605.out GE614.out)⟩⟩
 case rest =>
  clear HC7
  try clear c1
  try clear c2
  try clear p2
  try clear c3
  try clear c4
  try clear p6
  try clear c15
  try clear c16
  try clear c17
  try clear c25
  try clear c27
  try clear c28
  try clear c29
  try clear c30
  try clear c31
  try clear c32
  try clear c34
  try clear hcz18_0
  try clear hcz20_0
  try clear hcz22_0
  try clear hcz31_0
  try clear hfz18_0
  try clear hfz20_0
  try clear hfz22_0
  try clear hfz31_0
  obtain ⟨kq, x32_6, x599001_6, rfl, HA, HJ6, HO_7, HO_606000, HO_615000, BK594, BK595, BK605, BK614, HI598, HB⟩ := hcut
  cases kq with
  | zero => exact absurd HA.out (by simp [spec_DrawValPut.j0])
  | succ kj6 =>
   have H := HA.out
   clear HA
   simp only [spec_DrawValPut.j0] at H
   by_cases c35 : x32_6 = true
   ·subst c35
    rw [if_pos rfl] at H
    obtain ⟨⟨t617, t620⟩, A360, H⟩ := ob H
    have A36 := Aside0.mk A360
    clear A360
    obtain ⟨⟨t621, t622, t625⟩, A370, H⟩ := ob H
    have A37 := Aside0.mk A370
    clear A370
    obtain ⟨⟨t626, t627, t630⟩, A380, H⟩ := ob H
    have A38 := Aside0.mk A380
    clear A380
    simp only [Option.some.injEq, Prod.mk.injEq] at H
    obtain ⟨rfl, rfl, rfl, rfl, rfl⟩ := H
    try go_wp2_with (first | ((with_reducible refine gate_callee (f := 31) rfl ?_); refine goesL_ (some 34) rfl rfl Try.func31 (by kernel_rfl) rfl #[.pointer (some ⟨g598, 0, none⟩), .int .i64 2] rfl y8 ?_; (with_reducible refine (spec_l71Type.calls kj6 g598 t596 x599001_6 2 t617 t620 w _ ?side1 ?side2 A36.out).mono ?_); (case side1 => exact y36 HI598.out NB598_594.out NB598_595.out NB598_605.out NB598_614.out); (case side2 => exact y28 HB.out HI598.out GE594.out GE595.out GE605.out GE614.out); rintro e w39 ⟨v618, rfl, ho0, hi, hb, hk⟩; refine ⟨_, rfl, ?_⟩; have HO619 := Aside0.mk (Kd.N_lower (Kd.N_mono (ok' := fun k_ => (w.heap.size ≤ k_) ∧ some k_ ≠ (.slice Ao23 t606.length co23 : Value).ownBlock ∧ some k_ ≠ (.slice Ao14 t601.length co14 : Value).ownBlock ∧ some k_ ≠ (.slice Ao26 t610.length co26 : Value).ownBlock ∧ k_ ≠ gb594 ∧ k_ ≠ gb595 ∧ k_ ≠ gb605 ∧ k_ ≠ gb614 ∧ k_ ≠ g598) ho0 (fun k_ hk_ => ⟨(Nat.le_trans (below_size (y28 HB.out HI598.out GE594.out GE595.out GE605.out GE614.out)) hk_), (Kd.fresh' (Kd.R_lt (y12 HO_7.out)) k_ hk_), (Kd.fresh' (Kd.N_lt (y3 HO_606000.out)) k_ hk_), (Kd.fresh' (Kd.N_lt (y3 HO_615000.out)) k_ hk_), (Kd.freshB (g := gb594) (o := .cells #[.int .i64 0, .slice none 0 0] 25 (0, 0)) (y0 BK594.out) k_ hk_), (Kd.freshB (g := gb595) (o := .cells #[.int .i64 0, .slice none 0 0] 25 (0, 0)) (y0 BK595.out) k_ hk_), (Kd.freshB (g := gb605) (o := .cells #[.slice Ao14 t601.length co14] 50 (0, 0)) (y0 BK605.out) k_ hk_), (Kd.freshB (g := gb614) (o := .cells #[.slice Ao26 t610.length co26] 50 (0, 0)) (y0 BK614.out) k_ hk_), (IsS75.fresh (y36 HI598.out NB598_594.out NB598_595.out NB598_605.out NB598_614.out) k_ hk_)⟩)) (below_size (y28 HB.out HI598.out GE594.out GE595.out GE605.out GE614.out))); replace HO_7 := Aside0.mk (Kd.R_mono (Kd.R_keep (IsS75.apart (show IsS75 w _ g598 t596 x599001_6 from by repeat (first | (with_reducible first | exact HI598.out | apply IsS75.alloc | apply IsS75.drewN | apply IsS75.drew | apply IsS75.set_1 | refine IsS75.far ?_ NB598_594.out _ | refine IsS75.far ?_ NB598_595.out _ | refine IsS75.far ?_ NB598_605.out _ | refine IsS75.far ?_ NB598_614.out _) | exact HI598.out)) (y12 HO_7.out) (by decide)) hk (fun _ h => h.2)) (fun _ h => h.1)); replace HO_606000 := Aside0.mk (Kd.N_mono (Kd.N_told (Kd.N_oldK (Kd.N_mono (ok := fun k_ => (((w.heap.size ≤ k_)) ∧ (some k_ ≠ (.slice Ao23 t606.length co23 : Value).ownBlock ∧ (some k_ ≠ (.slice Ao26 t610.length co26 : Value).ownBlock ∧ (k_ ≠ gb594 ∧ (k_ ≠ gb595 ∧ (k_ ≠ gb605 ∧ (k_ ≠ gb614 ∧ k_ ≠ g598)))))))) (y3 HO_606000.out) (fun k_ hk_ => (⟨hk_, hk_.2.2.2.2.2.2.2⟩ : _ ∧ k_ ≠ g598))) hk) (Kd.N_base ho0)) (fun _ h_ => h_.1)); replace HO_615000 := Aside0.mk (Kd.N_mono (Kd.N_told (Kd.N_oldK (Kd.N_mono (ok := fun k_ => (((w.heap.size ≤ k_)) ∧ (some k_ ≠ (.slice Ao23 t606.length co23 : Value).ownBlock ∧ (k_ ≠ gb594 ∧ (k_ ≠ gb595 ∧ (k_ ≠ gb605 ∧ (k_ ≠ gb614 ∧ k_ ≠ g598))))))) (y3 HO_615000.out) (fun k_ hk_ => (⟨hk_, hk_.2.2.2.2.2.2⟩ : _ ∧ k_ ≠ g598))) hk) (Kd.N_base ho0)) (fun _ h_ => h_.1)); replace BK594 := Aside0.mk (KeepBut.blk hk (g' := gb594) (o := .cells #[.int .i64 0, .slice none 0 0] 25 (0, 0)) (y0 BK594.out) NB594_598.out (by simp)); replace BK595 := Aside0.mk (KeepBut.blk hk (g' := gb595) (o := .cells #[.int .i64 0, .slice none 0 0] 25 (0, 0)) (y0 BK595.out) NB595_598.out (by simp)); replace BK605 := Aside0.mk (KeepBut.blk hk (g' := gb605) (o := .cells #[.slice Ao14 t601.length co14] 50 (0, 0)) (y0 BK605.out) NB605_598.out (by simp)); replace BK614 := Aside0.mk (KeepBut.blk hk (g' := gb614) (o := .cells #[.slice Ao26 t610.length co26] 50 (0, 0)) (y0 BK614.out) NB614_598.out (by simp)); replace HB := Aside0.mk (hb); replace HI598 := Aside0.mk (hi); (try clear hb); (try clear hb2); (try clear hk); (try clear hi); (try clear ho0); obtain ⟨Ao40, co40, eo40⟩ := Kd.N_slice HO619.out; subst eo40; have hnb41 := NB614_594.out; have hnc41 := NB594_614.out; have hnb42 := NB614_595.out; have hnc42 := NB595_614.out; have hnb43 := NB614_605.out; have hnc43 := NB605_614.out; have hnb44 := NB614_598.out; have hnc44 := NB598_614.out; have hcz45_0 := zh BK614; have hfz45_0 := zfr BK614 0))
    have n0_ : Aside0 (Kd.R (Kd.int .i64) 3 (w39.setCell ⟨gb614, 0, none⟩ (.slice Ao40 t617.length co40)) w.heap.size (fun k_ => (w.heap.size ≤ k_)) (.slice Ao23 t606.length co23) t606) := ⟨(by (with_reducible repeat (first | apply Kd.R_alloc | apply Kd.R_drewN | apply Kd.R_drew)); exact Kd.R_mono (Kd.R_far (p := ⟨gb614, 0, none⟩) (Kd.R_types HO_7.out BK614.out (by decide)) (fun _ hk => hk.2) (.slice Ao40 t617.length co40)) (fun _ hk => hk.1))⟩
    have n1_ : Aside0 (Kd.N k50 50 (w39.setCell ⟨gb614, 0, none⟩ (.slice Ao40 t617.length co40)) w.heap.size (fun k_ => (w.heap.size ≤ k_) ∧ some k_ ≠ (.slice Ao23 t606.length co23 : Value).ownBlock ∧ some k_ ≠ (.slice Ao26 t610.length co26 : Value).ownBlock ∧ some k_ ≠ (.slice Ao40 t617.length co40 : Value).ownBlock ∧ k_ ≠ gb594 ∧ k_ ≠ gb595 ∧ k_ ≠ gb605 ∧ k_ ≠ gb614 ∧ k_ ≠ g598) (.slice Ao14 t601.length co14) t601) := ⟨(by (with_reducible repeat (first | apply Kd.N_alloc | apply Kd.N_drewN | apply Kd.N_drew)); exact Kd.N_mono (Kd.N_far (p := ⟨gb614, 0, none⟩) (Kd.N_mono HO_606000.out (fun k_ hk => (⟨hk, hk.1.2.2.2.2.2.2.1⟩ : _ ∧ k_ ≠ gb614))) (fun _ hk => hk.2) (.slice Ao40 t617.length co40)) (fun _ hk => ⟨hk.1.1.1, ⟨hk.1.1.2.1, ⟨hk.1.1.2.2.1, ⟨hk.1.2, ⟨hk.1.1.2.2.2.1, ⟨hk.1.1.2.2.2.2.1, ⟨hk.1.1.2.2.2.2.2.1, ⟨hk.1.1.2.2.2.2.2.2.1, hk.1.1.2.2.2.2.2.2.2⟩⟩⟩⟩⟩⟩⟩⟩))⟩
    have n2_ : Aside0 (Kd.N k50 50 (w39.setCell ⟨gb614, 0, none⟩ (.slice Ao40 t617.length co40)) w.heap.size (fun k_ => (w.heap.size ≤ k_) ∧ some k_ ≠ (.slice Ao23 t606.length co23 : Value).ownBlock ∧ some k_ ≠ (.slice Ao40 t617.length co40 : Value).ownBlock ∧ k_ ≠ gb594 ∧ k_ ≠ gb595 ∧ k_ ≠ gb605 ∧ k_ ≠ gb614 ∧ k_ ≠ g598) (.slice Ao26 t610.length co26) t610) := ⟨(by (with_reducible repeat (first | apply Kd.N_alloc | apply Kd.N_drewN | apply Kd.N_drew)); exact Kd.N_mono (Kd.N_far (p := ⟨gb614, 0, none⟩) (Kd.N_mono HO_615000.out (fun k_ hk => (⟨hk, hk.1.2.2.2.2.2.1⟩ : _ ∧ k_ ≠ gb614))) (fun _ hk => hk.2) (.slice Ao40 t617.length co40)) (fun _ hk => ⟨hk.1.1.1, ⟨hk.1.1.2.1, ⟨hk.1.2, ⟨hk.1.1.2.2.1, ⟨hk.1.1.2.2.2.1, ⟨hk.1.1.2.2.2.2.1, ⟨hk.1.1.2.2.2.2.2.1, hk.1.1.2.2.2.2.2.2⟩⟩⟩⟩⟩⟩⟩))⟩
    have n3_ : Aside0 (Kd.N k50 50 (w39.setCell ⟨gb614, 0, none⟩ (.slice Ao40 t617.length co40)) w.heap.size (fun k_ => (w.heap.size ≤ k_) ∧ some k_ ≠ (.slice Ao23 t606.length co23 : Value).ownBlock ∧ some k_ ≠ (.slice Ao14 t601.length co14 : Value).ownBlock ∧ some k_ ≠ (.slice Ao26 t610.length co26 : Value).ownBlock ∧ k_ ≠ gb594 ∧ k_ ≠ gb595 ∧ k_ ≠ gb605 ∧ k_ ≠ gb614 ∧ k_ ≠ g598) (.slice Ao40 t617.length co40) t617) := ⟨(by (with_reducible repeat (first | apply Kd.N_alloc | apply Kd.N_drewN | apply Kd.N_drew)); exact Kd.N_mono (Kd.N_far (p := ⟨gb614, 0, none⟩) (Kd.N_mono HO619.out (fun k_ hk => (⟨hk, hk.2.2.2.2.2.2.2.1⟩ : _ ∧ k_ ≠ gb614))) (fun _ hk => hk.2) (.slice Ao40 t617.length co40)) (fun _ hk => ⟨hk.1.1, ⟨hk.1.2.1, ⟨hk.1.2.2.1, ⟨hk.1.2.2.2.1, ⟨hk.1.2.2.2.2.1, ⟨hk.1.2.2.2.2.2.1, ⟨hk.1.2.2.2.2.2.2.1, ⟨hk.1.2.2.2.2.2.2.2.1, hk.1.2.2.2.2.2.2.2.2⟩⟩⟩⟩⟩⟩⟩⟩))⟩
    have n4_ : Aside0 ((w39.setCell ⟨gb614, 0, none⟩ (.slice Ao40 t617.length co40)).heap[gb594]? = some (.cells #[.int .i64 0, .slice none 0 0] 25 (0, 0))) := ⟨(y13 NB594_614.out BK594.out)⟩
    have n5_ : Aside0 ((w39.setCell ⟨gb614, 0, none⟩ (.slice Ao40 t617.length co40)).heap[gb595]? = some (.cells #[.int .i64 0, .slice none 0 0] 25 (0, 0))) := ⟨(y13 NB595_614.out BK595.out)⟩
    have n6_ : Aside0 ((w39.setCell ⟨gb614, 0, none⟩ (.slice Ao40 t617.length co40)).heap[gb605]? = some (.cells #[.slice Ao14 t601.length co14] 50 (0, 0))) := ⟨(y13 NB605_614.out BK605.out)⟩
    have n7_ : Aside0 ((w39.setCell ⟨gb614, 0, none⟩ (.slice Ao40 t617.length co40)).heap[gb614]? = some (.cells #[.slice Ao40 t617.length co40] 50 (0, 0))) := ⟨(by (with_reducible repeat (first | refine blk_drewN ?_ _ | refine blk_drew ?_ | refine blk_alloc ?_ _)); refine blk_put (cs := #[.slice Ao26 t610.length co26]) ?_ 0 _ rfl; (with_reducible repeat (first | refine blk_drewN ?_ _ | refine blk_drew ?_ | refine blk_alloc ?_ _)); exact BK614.out)⟩
    have n8_ : Aside0 (IsS75 w (w39.setCell ⟨gb614, 0, none⟩ (.slice Ao40 t617.length co40)) g598 t596 t620) := ⟨(y36 HI598.out NB598_594.out NB598_595.out NB598_605.out NB598_614.out)⟩
    have n9_ : Aside0 (Below w.heap.size w (w39.setCell ⟨gb614, 0, none⟩ (.slice Ao40 t617.length co40))) := ⟨(y28 HB.out HI598.out GE594.out GE595.out GE605.out GE614.out)⟩
    (try clear HO_7)
    (try clear HO_606000)
    (try clear HO_615000)
    (try clear HO619)
    (try clear BK594)
    (try clear BK595)
    (try clear BK605)
    (try clear BK614)
    (try clear HI598)
    (try clear HB)
    generalize (w39.setCell ⟨gb614, 0, none⟩ (.slice Ao40 t617.length co40)) = w46 at n0_ n1_ n2_ n3_ n4_ n5_ n6_ n7_ n8_ n9_ ⊢
    have HO_7 := n0_
    have HO_606000 := n1_
    have HO_615000 := n2_
    have HO619 := n3_
    have BK594 := n4_
    have BK595 := n5_
    have BK605 := n6_
    have BK614 := n7_
    have HI598 := n8_
    have HB := n9_
    clear n0_ n1_ n2_ n3_ n4_ n5_ n6_ n7_ n8_ n9_
    replace HO_7 := Aside0.mk (Kd.R_drew HO_7.out)
    replace HO_606000 := Aside0.mk (Kd.N_drew HO_606000.out)
    replace HO_615000 := Aside0.mk (Kd.N_drew HO_615000.out)
    replace HO619 := Aside0.mk (Kd.N_drew HO619.out)
    replace BK594 := Aside0.mk (blk_drew BK594.out)
    replace BK595 := Aside0.mk (blk_drew BK595.out)
    replace BK605 := Aside0.mk (blk_drew BK605.out)
    replace BK614 := Aside0.mk (blk_drew BK614.out)
    replace HI598 := Aside0.mk (IsS75.drew HI598.out)
    replace HB := Aside0.mk (below_drew1 HB.out)
    refine start_ (n := 10) (S := fun w' => w'.cell? ⟨gb605, 0, none⟩ = some (.slice Ao14 t601.length co14) ∧ w'.cell? ⟨gb614, 0, none⟩ = some (.slice Ao40 t617.length co40)) (ds := []) #[false, false, false, false, false, false, false, false, false, false] (by kernel_rfl) rfl rfl ⟨(blk_cell BK605.out 0).trans rfl, (blk_cell BK614.out 0).trans rfl⟩ (fun hHeld => ?_); refine with_tabW spec_DrawValPut.tab7 spec_DrawValPut.bits7 (fun HT_ HW_ => ?_)
    generalize w46.drew = w47 at HO_7 HO_606000 HO_615000 HO619 BK594 BK595 BK605 BK614 HI598 HB hHeld ⊢
    refine zp 0 (some 35) HT_ ?_
    refine zp 3 (some 38) HT_ ?_
    refine zp 4 (some 39) HT_ ?_
    refine zt2 1 (some 36) HT_ HW_ hHeld ?_
    refine zt2 5 (some 40) HT_ HW_ hHeld ?_
    refine one_ (i := 2) (N := some 37) #[true, true, true, true, true, true, false, false, false, false] rfl rfl (one_of HT_.out (by kernel_rfl)) (by decide) (fun K hK => ?_)
    refine goes_ Try.func33 (by kernel_rfl) rfl #[.pointer (some ⟨g598, 0, none⟩), .agg #[.slice Ao14 t601.length co14]] (by rfl) rfl rfl y8 ?_
    with_reducible refine (spec_l71Bad.calls kj6 g598 t596 t620 (fun k_ => ((w.heap.size ≤ k_) ∧ (some k_ ≠ (.slice Ao23 t606.length co23 : Value).ownBlock ∧ (some k_ ≠ (.slice Ao26 t610.length co26 : Value).ownBlock ∧ (some k_ ≠ (.slice Ao40 t617.length co40 : Value).ownBlock ∧ (k_ ≠ gb594 ∧ (k_ ≠ gb595 ∧ (k_ ≠ gb605 ∧ (k_ ≠ gb614 ∧ k_ ≠ g598))))))))) _ _ t601 t621 t622 t625 w _ ?side1 ?side2 ?side3 A37.out).mono ?_
    (case side1 => exact y36 HI598.out NB598_594.out NB598_595.out NB598_605.out NB598_614.out)
    (case side2 => exact y28 HB.out HI598.out GE594.out GE595.out GE605.out GE614.out)
    (case side3 => exact Kd.V_mono (Kd.N_V (HO_606000.out)) (fun k_ hk_ => ⟨hk_, hk_.2.2.2.2.2.2.2.2⟩))
    rintro e w48 ⟨v623, rfl, ho0, hi, hb, hk⟩
    refine ⟨_, rfl, ?_⟩
    replace HO_606000 := Aside0.mk (Kd.N_mono (Kd.N_told (Kd.N_oldK (Kd.N_mono (ok := fun k_ => (((w.heap.size ≤ k_)) ∧ (some k_ ≠ (.slice Ao23 t606.length co23 : Value).ownBlock ∧ (some k_ ≠ (.slice Ao26 t610.length co26 : Value).ownBlock ∧ (some k_ ≠ (.slice Ao40 t617.length co40 : Value).ownBlock ∧ (k_ ≠ gb594 ∧ (k_ ≠ gb595 ∧ (k_ ≠ gb605 ∧ (k_ ≠ gb614 ∧ k_ ≠ g598))))))))) (y3 HO_606000.out) (fun k_ hk_ => (⟨hk_, hk_.2.2.2.2.2.2.2.2⟩ : _ ∧ k_ ≠ g598))) hk) (Kd.N_base ho0)) (fun _ h_ => h_.1))
    have HO624 := Aside0.mk (Kd.N_lower (Kd.N_mono (ok' := fun k_ => (w.heap.size ≤ k_) ∧ some k_ ≠ (.slice Ao23 t606.length co23 : Value).ownBlock ∧ some k_ ≠ (.slice Ao26 t610.length co26 : Value).ownBlock ∧ some k_ ≠ (.slice Ao40 t617.length co40 : Value).ownBlock ∧ k_ ≠ gb594 ∧ k_ ≠ gb595 ∧ k_ ≠ gb605 ∧ k_ ≠ gb614 ∧ k_ ≠ g598) ho0 (fun k_ hk_ => ⟨Or.elim hk_ (fun hs_ => hs_.1) (fun hn_ => (Nat.le_trans (below_size (y28 HB.out HI598.out GE594.out GE595.out GE605.out GE614.out)) hn_)), Or.elim hk_ (fun hs_ => hs_.2.1) (fun hn_ => (Kd.fresh' (Kd.R_lt (y12 HO_7.out)) k_ hn_)), Or.elim hk_ (fun hs_ => hs_.2.2.1) (fun hn_ => (Kd.fresh' (Kd.N_lt (y3 HO_615000.out)) k_ hn_)), Or.elim hk_ (fun hs_ => hs_.2.2.2.1) (fun hn_ => (Kd.fresh' (Kd.N_lt (y3 HO619.out)) k_ hn_)), Or.elim hk_ (fun hs_ => hs_.2.2.2.2.1) (fun hn_ => (Kd.freshB (g := gb594) (o := .cells #[.int .i64 0, .slice none 0 0] 25 (0, 0)) (y0 BK594.out) k_ hn_)), Or.elim hk_ (fun hs_ => hs_.2.2.2.2.2.1) (fun hn_ => (Kd.freshB (g := gb595) (o := .cells #[.int .i64 0, .slice none 0 0] 25 (0, 0)) (y0 BK595.out) k_ hn_)), Or.elim hk_ (fun hs_ => hs_.2.2.2.2.2.2.1) (fun hn_ => (Kd.freshB (g := gb605) (o := .cells #[.slice Ao14 t601.length co14] 50 (0, 0)) (y0 BK605.out) k_ hn_)), Or.elim hk_ (fun hs_ => hs_.2.2.2.2.2.2.2.1) (fun hn_ => (Kd.freshB (g := gb614) (o := .cells #[.slice Ao40 t617.length co40] 50 (0, 0)) (y0 BK614.out) k_ hn_)), Or.elim hk_ (fun hs_ => hs_.2.2.2.2.2.2.2.2) (fun hn_ => (IsS75.fresh (y36 HI598.out NB598_594.out NB598_595.out NB598_605.out NB598_614.out) k_ hn_))⟩)) (below_size (y28 HB.out HI598.out GE594.out GE595.out GE605.out GE614.out)))
    replace HO_7 := Aside0.mk (Kd.R_mono (Kd.R_keep (IsS75.apart (show IsS75 w _ g598 t596 t620 from by repeat (first | (with_reducible first | exact HI598.out | apply IsS75.alloc | apply IsS75.drewN | apply IsS75.drew | apply IsS75.set_1 | refine IsS75.far ?_ NB598_594.out _ | refine IsS75.far ?_ NB598_595.out _ | refine IsS75.far ?_ NB598_605.out _ | refine IsS75.far ?_ NB598_614.out _) | exact HI598.out)) (y12 HO_7.out) (by decide)) hk (fun _ h => h.2)) (fun _ h => h.1))
    replace HO_615000 := Aside0.mk (Kd.N_mono (Kd.N_told (Kd.N_oldK (Kd.N_mono (ok := fun k_ => (((w.heap.size ≤ k_)) ∧ (some k_ ≠ (.slice Ao23 t606.length co23 : Value).ownBlock ∧ (some k_ ≠ (.slice Ao40 t617.length co40 : Value).ownBlock ∧ (k_ ≠ gb594 ∧ (k_ ≠ gb595 ∧ (k_ ≠ gb605 ∧ (k_ ≠ gb614 ∧ k_ ≠ g598)))))))) (y3 HO_615000.out) (fun k_ hk_ => (⟨hk_, hk_.2.2.2.2.2.2.2⟩ : _ ∧ k_ ≠ g598))) hk) (Kd.N_base ho0)) (fun _ h_ => h_.1))
    replace BK594 := Aside0.mk (KeepBut.blk hk (g' := gb594) (o := .cells #[.int .i64 0, .slice none 0 0] 25 (0, 0)) (y0 BK594.out) NB594_598.out (by simp))
    replace BK595 := Aside0.mk (KeepBut.blk hk (g' := gb595) (o := .cells #[.int .i64 0, .slice none 0 0] 25 (0, 0)) (y0 BK595.out) NB595_598.out (by simp))
    replace BK605 := Aside0.mk (KeepBut.blk hk (g' := gb605) (o := .cells #[.slice Ao14 t601.length co14] 50 (0, 0)) (y0 BK605.out) NB605_598.out (by simp))
    replace BK614 := Aside0.mk (KeepBut.blk hk (g' := gb614) (o := .cells #[.slice Ao40 t617.length co40] 50 (0, 0)) (y0 BK614.out) NB614_598.out (by simp))
    replace HO619 := Aside0.mk (Kd.N_mono (Kd.N_told (Kd.N_oldK (Kd.N_mono (ok := fun k_ => (((w.heap.size ≤ k_)) ∧ (some k_ ≠ (.slice Ao23 t606.length co23 : Value).ownBlock ∧ (some k_ ≠ (.slice Ao14 t601.length co14 : Value).ownBlock ∧ (some k_ ≠ (.slice Ao26 t610.length co26 : Value).ownBlock ∧ (k_ ≠ gb594 ∧ (k_ ≠ gb595 ∧ (k_ ≠ gb605 ∧ (k_ ≠ gb614 ∧ k_ ≠ g598))))))))) (y3 HO619.out) (fun k_ hk_ => (⟨hk_, hk_.2.2.2.2.2.2.2.2⟩ : _ ∧ k_ ≠ g598))) hk) (Kd.N_base ho0)) (fun _ h_ => h_.1))
    replace HB := Aside0.mk (hb)
    replace HI598 := Aside0.mk (hi)
    (try clear hb)
    (try clear hb2)
    (try clear hk)
    (try clear hi)
    (try clear ho0)
    refine hK.out _ _ ⟨(blk_cell BK605.out 0).trans rfl, (blk_cell BK614.out 0).trans rfl⟩ (fun hHeld => ?_)
    clear hK K
    refine norm_ (a' := ?_) ?_ ?_
    rotate_left
    ·show Act.put _ (some 37) _ = _
     simp only [Act.put, List.setIfInBounds_toArray, List.set_cons_zero, List.set_cons_succ, i64_w, i32_w]
     rfl
    refine one_ (i := 6) (N := some 41) #[true, true, true, true, true, true, true, false, false, false] rfl rfl (one_of HT_.out (by kernel_rfl)) (by decide) (fun K hK => ?_)
    refine goes_ Try.func33 (by kernel_rfl) rfl #[.pointer (some ⟨g598, 0, none⟩), .agg #[.slice Ao40 t617.length co40]] (by rfl) rfl rfl y8 ?_
    with_reducible refine (spec_l71Bad.calls kj6 g598 t596 t625 (fun k_ => (((w.heap.size ≤ k_) ∧ (some k_ ≠ (.slice Ao23 t606.length co23 : Value).ownBlock ∧ (some k_ ≠ (.slice Ao14 t601.length co14 : Value).ownBlock ∧ (some k_ ≠ (.slice Ao26 t610.length co26 : Value).ownBlock ∧ (k_ ≠ gb594 ∧ (k_ ≠ gb595 ∧ (k_ ≠ gb605 ∧ (k_ ≠ gb614 ∧ k_ ≠ g598)))))))) ∧ some k_ ≠ (v623 : Value).ownBlock)) _ _ t617 t626 t627 t630 w _ ?side1 ?side2 ?side3 A38.out).mono ?_
    (case side1 => exact y36 HI598.out NB598_594.out NB598_595.out NB598_605.out NB598_614.out)
    (case side2 => exact y28 HB.out HI598.out GE594.out GE595.out GE605.out GE614.out)
    (case side3 => exact Kd.V_mono (Kd.N_V (HO619.out)) (fun k_ hk_ => ⟨hk_, hk_.1.2.2.2.2.2.2.2.2⟩))
    rintro e w49 ⟨v628, rfl, ho0, hi, hb, hk⟩
    refine ⟨_, rfl, ?_⟩
    replace HO619 := Aside0.mk (Kd.N_mono (Kd.N_told (Kd.N_oldK (Kd.N_mono (ok := fun k_ => ((((w.heap.size ≤ k_)) ∧ (some k_ ≠ (.slice Ao23 t606.length co23 : Value).ownBlock ∧ (some k_ ≠ (.slice Ao14 t601.length co14 : Value).ownBlock ∧ (some k_ ≠ (.slice Ao26 t610.length co26 : Value).ownBlock ∧ (k_ ≠ gb594 ∧ (k_ ≠ gb595 ∧ (k_ ≠ gb605 ∧ (k_ ≠ gb614 ∧ k_ ≠ g598)))))))) ∧ some k_ ≠ (v623 : Value).ownBlock)) (y3 HO619.out) (fun k_ hk_ => (⟨hk_, hk_.1.2.2.2.2.2.2.2.2⟩ : _ ∧ k_ ≠ g598))) hk) (Kd.N_base ho0)) (fun _ h_ => h_.1))
    have HO629 := Aside0.mk (Kd.N_lower (Kd.N_mono (ok' := fun k_ => (w.heap.size ≤ k_) ∧ some k_ ≠ (.slice Ao23 t606.length co23 : Value).ownBlock ∧ some k_ ≠ (.slice Ao14 t601.length co14 : Value).ownBlock ∧ some k_ ≠ (.slice Ao26 t610.length co26 : Value).ownBlock ∧ some k_ ≠ (v623 : Value).ownBlock ∧ k_ ≠ gb594 ∧ k_ ≠ gb595 ∧ k_ ≠ gb605 ∧ k_ ≠ gb614 ∧ k_ ≠ g598) ho0 (fun k_ hk_ => ⟨Or.elim hk_ (fun hs_ => hs_.1.1) (fun hn_ => (Nat.le_trans (below_size (y28 HB.out HI598.out GE594.out GE595.out GE605.out GE614.out)) hn_)), Or.elim hk_ (fun hs_ => hs_.1.2.1) (fun hn_ => (Kd.fresh' (Kd.R_lt (y12 HO_7.out)) k_ hn_)), Or.elim hk_ (fun hs_ => hs_.1.2.2.1) (fun hn_ => (Kd.fresh' (Kd.N_lt (y3 HO_606000.out)) k_ hn_)), Or.elim hk_ (fun hs_ => hs_.1.2.2.2.1) (fun hn_ => (Kd.fresh' (Kd.N_lt (y3 HO_615000.out)) k_ hn_)), Or.elim hk_ (fun hs_ => hs_.2) (fun hn_ => (Kd.fresh' (Kd.N_lt (y3 HO624.out)) k_ hn_)), Or.elim hk_ (fun hs_ => hs_.1.2.2.2.2.1) (fun hn_ => (Kd.freshB (g := gb594) (o := .cells #[.int .i64 0, .slice none 0 0] 25 (0, 0)) (y0 BK594.out) k_ hn_)), Or.elim hk_ (fun hs_ => hs_.1.2.2.2.2.2.1) (fun hn_ => (Kd.freshB (g := gb595) (o := .cells #[.int .i64 0, .slice none 0 0] 25 (0, 0)) (y0 BK595.out) k_ hn_)), Or.elim hk_ (fun hs_ => hs_.1.2.2.2.2.2.2.1) (fun hn_ => (Kd.freshB (g := gb605) (o := .cells #[.slice Ao14 t601.length co14] 50 (0, 0)) (y0 BK605.out) k_ hn_)), Or.elim hk_ (fun hs_ => hs_.1.2.2.2.2.2.2.2.1) (fun hn_ => (Kd.freshB (g := gb614) (o := .cells #[.slice Ao40 t617.length co40] 50 (0, 0)) (y0 BK614.out) k_ hn_)), Or.elim hk_ (fun hs_ => hs_.1.2.2.2.2.2.2.2.2) (fun hn_ => (IsS75.fresh (y36 HI598.out NB598_594.out NB598_595.out NB598_605.out NB598_614.out) k_ hn_))⟩)) (below_size (y28 HB.out HI598.out GE594.out GE595.out GE605.out GE614.out)))
    replace HO_7 := Aside0.mk (Kd.R_mono (Kd.R_keep (IsS75.apart (show IsS75 w _ g598 t596 t625 from by repeat (first | (with_reducible first | exact HI598.out | apply IsS75.alloc | apply IsS75.drewN | apply IsS75.drew | apply IsS75.set_1 | refine IsS75.far ?_ NB598_594.out _ | refine IsS75.far ?_ NB598_595.out _ | refine IsS75.far ?_ NB598_605.out _ | refine IsS75.far ?_ NB598_614.out _) | exact HI598.out)) (y12 HO_7.out) (by decide)) hk (fun _ h => h.2)) (fun _ h => h.1))
    replace HO_606000 := Aside0.mk (Kd.N_mono (Kd.N_told (Kd.N_oldK (Kd.N_mono (ok := fun k_ => ((((w.heap.size ≤ k_)) ∧ (some k_ ≠ (.slice Ao23 t606.length co23 : Value).ownBlock ∧ (some k_ ≠ (.slice Ao26 t610.length co26 : Value).ownBlock ∧ (some k_ ≠ (.slice Ao40 t617.length co40 : Value).ownBlock ∧ (k_ ≠ gb594 ∧ (k_ ≠ gb595 ∧ (k_ ≠ gb605 ∧ (k_ ≠ gb614 ∧ k_ ≠ g598)))))))) ∧ some k_ ≠ (v623 : Value).ownBlock)) (y3 HO_606000.out) (fun k_ hk_ => (⟨hk_, hk_.1.2.2.2.2.2.2.2.2⟩ : _ ∧ k_ ≠ g598))) hk) (Kd.N_base ho0)) (fun _ h_ => h_.1))
    replace HO_615000 := Aside0.mk (Kd.N_mono (Kd.N_told (Kd.N_oldK (Kd.N_mono (ok := fun k_ => ((((w.heap.size ≤ k_)) ∧ (some k_ ≠ (.slice Ao23 t606.length co23 : Value).ownBlock ∧ (some k_ ≠ (.slice Ao40 t617.length co40 : Value).ownBlock ∧ (k_ ≠ gb594 ∧ (k_ ≠ gb595 ∧ (k_ ≠ gb605 ∧ (k_ ≠ gb614 ∧ k_ ≠ g598))))))) ∧ some k_ ≠ (v623 : Value).ownBlock)) (y3 HO_615000.out) (fun k_ hk_ => (⟨hk_, hk_.1.2.2.2.2.2.2.2⟩ : _ ∧ k_ ≠ g598))) hk) (Kd.N_base ho0)) (fun _ h_ => h_.1))
    replace BK594 := Aside0.mk (KeepBut.blk hk (g' := gb594) (o := .cells #[.int .i64 0, .slice none 0 0] 25 (0, 0)) (y0 BK594.out) NB594_598.out (by simp))
    replace BK595 := Aside0.mk (KeepBut.blk hk (g' := gb595) (o := .cells #[.int .i64 0, .slice none 0 0] 25 (0, 0)) (y0 BK595.out) NB595_598.out (by simp))
    replace BK605 := Aside0.mk (KeepBut.blk hk (g' := gb605) (o := .cells #[.slice Ao14 t601.length co14] 50 (0, 0)) (y0 BK605.out) NB605_598.out (by simp))
    replace BK614 := Aside0.mk (KeepBut.blk hk (g' := gb614) (o := .cells #[.slice Ao40 t617.length co40] 50 (0, 0)) (y0 BK614.out) NB614_598.out (by simp))
    replace HO624 := Aside0.mk (Kd.N_mono (Kd.N_told (Kd.N_oldK (Kd.N_mono (ok := fun k_ => (((w.heap.size ≤ k_)) ∧ (some k_ ≠ (.slice Ao23 t606.length co23 : Value).ownBlock ∧ (some k_ ≠ (.slice Ao26 t610.length co26 : Value).ownBlock ∧ (some k_ ≠ (.slice Ao40 t617.length co40 : Value).ownBlock ∧ (k_ ≠ gb594 ∧ (k_ ≠ gb595 ∧ (k_ ≠ gb605 ∧ (k_ ≠ gb614 ∧ k_ ≠ g598))))))))) (y3 HO624.out) (fun k_ hk_ => (⟨hk_, hk_.2.2.2.2.2.2.2.2⟩ : _ ∧ k_ ≠ g598))) hk) (Kd.N_base ho0)) (fun _ h_ => h_.1))
    replace HB := Aside0.mk (hb)
    replace HI598 := Aside0.mk (hi)
    (try clear hb)
    (try clear hb2)
    (try clear hk)
    (try clear hi)
    (try clear ho0)
    obtain ⟨Ao51, co51, eo51⟩ := Kd.N_slice HO624.out
    (first | subst eo51 | (injection eo51 with f1_ f2_ f3_; have f4_ := f1_.symm; have f5_ := f3_.symm; clear f1_ f2_ f3_; subst f4_; subst f5_))
    obtain ⟨Ao54, co54, eo54⟩ := Kd.N_slice HO629.out
    (first | subst eo54 | (injection eo54 with f1_ f2_ f3_; have f4_ := f1_.symm; have f5_ := f3_.symm; clear f1_ f2_ f3_; subst f4_; subst f5_))
    refine hK.out _ _ ⟨(blk_cell BK605.out 0).trans rfl, (blk_cell BK614.out 0).trans rfl⟩ (fun hHeld => ?_)
    clear hK K
    refine norm_ (a' := ?_) ?_ ?_
    rotate_left
    ·show Act.put _ (some 41) _ = _
     simp only [Act.put, List.setIfInBounds_toArray, List.set_cons_zero, List.set_cons_succ, i64_w, i32_w]
     rfl
    refine one_ (i := 7) (N := none) #[true, true, true, true, true, true, true, true, false, false] rfl rfl (one_of HT_.out (by kernel_rfl)) (by decide) (fun K hK => ?_)
    have hs50 : w49.cell? ⟨gb594, 0, none⟩ = some (.int .i64 0) := (blk_cell BK594.out 0).trans rfl
    have hfs50 := zfr BK594 0
    have hns50_1 := NB595_594.out
    have hns50_2 := NB605_594.out
    have hns50_3 := NB614_594.out
    have hms50_1 := NB594_595.out
    have hms50_2 := NB594_605.out
    have hms50_3 := NB594_614.out
    have hs52 : w49.cell? ⟨gb594, 1, none⟩ = some (.slice none 0 0) := (blk_cell BK594.out 1).trans rfl
    have hfs52 := zfr BK594 1
    have hns52_1 := NB595_594.out
    have hns52_2 := NB605_594.out
    have hns52_3 := NB614_594.out
    have hms52_1 := NB594_595.out
    have hms52_2 := NB594_605.out
    have hms52_3 := NB594_614.out
    refine skip_ (w1 := ?_) (by rfl) rfl ?_ ?_
    rotate_left
    ·go_simp
     rfl
    refine hK.out _ _ ⟨((cell_far (p := ⟨gb594, _, none⟩) NB605_594.out _).trans (((cell_far (p := ⟨gb594, _, none⟩) NB605_594.out _).trans (hHeld.1)))), ((cell_far (p := ⟨gb594, _, none⟩) NB614_594.out _).trans (((cell_far (p := ⟨gb594, _, none⟩) NB614_594.out _).trans (hHeld.2))))⟩ (fun hHeld => ?_)
    clear hK K
    refine zp 8 (some 3) HT_ ?_
    refine one_ (i := 9) (N := none) #[true, true, true, true, true, true, true, true, true, true] rfl rfl (one_of HT_.out (by kernel_rfl)) (by decide) (fun K hK => ?_)
    have hs53 : w49.cell? ⟨gb595, 0, none⟩ = some (.int .i64 0) := (blk_cell BK595.out 0).trans rfl
    have hfs53 := zfr BK595 0
    have hns53_0 := NB594_595.out
    have hns53_2 := NB605_595.out
    have hns53_3 := NB614_595.out
    have hms53_0 := NB595_594.out
    have hms53_2 := NB595_605.out
    have hms53_3 := NB595_614.out
    have hs55 : w49.cell? ⟨gb595, 1, none⟩ = some (.slice none 0 0) := (blk_cell BK595.out 1).trans rfl
    have hfs55 := zfr BK595 1
    have hns55_0 := NB594_595.out
    have hns55_2 := NB605_595.out
    have hns55_3 := NB614_595.out
    have hms55_0 := NB595_594.out
    have hms55_2 := NB595_605.out
    have hms55_3 := NB595_614.out
    refine skip_ (w1 := ?_) (by rfl) rfl ?_ ?_
    rotate_left
    ·go_simp
     rfl
    refine hK.out _ _ ⟨((cell_far (p := ⟨gb595, _, none⟩) NB605_595.out _).trans (((cell_far (p := ⟨gb595, _, none⟩) NB605_595.out _).trans (hHeld.1)))), ((cell_far (p := ⟨gb595, _, none⟩) NB614_595.out _).trans (((cell_far (p := ⟨gb595, _, none⟩) NB614_595.out _).trans (hHeld.2))))⟩ (fun hHeld => ?_)
    clear hK K
    refine done_ (done_of HT_.out (by kernel_rfl)) ?_
    try go_wp2
    refine bodyPost_ret (results_list (rs := [.cell 2 25, .tmp 3, .cell 4 25]) rfl (by simp) (.cell gb594 25 #[.int .i64 t621, .slice Ao51 t622.length co51] (0, 0) _ rfl (by (with_reducible repeat (first | refine blk_drewN ?_ _ | refine blk_drew ?_ | refine blk_alloc ?_ _)); refine blk_far ?_ NB594_595.out _; (with_reducible repeat (first | refine blk_drewN ?_ _ | refine blk_drew ?_ | refine blk_alloc ?_ _)); refine blk_far ?_ NB594_595.out _; (with_reducible repeat (first | refine blk_drewN ?_ _ | refine blk_drew ?_ | refine blk_alloc ?_ _)); refine blk_put (cs := #[.int .i64 t621, .slice none 0 0]) ?_ 1 _ rfl; (with_reducible repeat (first | refine blk_drewN ?_ _ | refine blk_drew ?_ | refine blk_alloc ?_ _)); apply blk_put (i := 0); (case h => exact y0 BK594.out); (case e => rfl)) Try.underlying25 rfl (by kernel_rfl) (.tmp (.cell gb595 25 #[.int .i64 t626, .slice Ao54 t627.length co54] (0, 0) _ rfl (by (with_reducible repeat (first | refine blk_drewN ?_ _ | refine blk_drew ?_ | refine blk_alloc ?_ _)); refine blk_put (cs := #[.int .i64 t626, .slice none 0 0]) ?_ 1 _ rfl; (with_reducible repeat (first | refine blk_drewN ?_ _ | refine blk_drew ?_ | refine blk_alloc ?_ _)); refine blk_put (cs := #[.int .i64 0, .slice none 0 0]) ?_ 0 _ rfl; (with_reducible repeat (first | refine blk_drewN ?_ _ | refine blk_drew ?_ | refine blk_alloc ?_ _)); refine blk_far ?_ NB595_594.out _; (with_reducible repeat (first | refine blk_drewN ?_ _ | refine blk_drew ?_ | refine blk_alloc ?_ _)); refine blk_far ?_ NB595_594.out _; (with_reducible repeat (first | refine blk_drewN ?_ _ | refine blk_drew ?_ | refine blk_alloc ?_ _)); exact BK595.out) Try.underlying25 rfl (by kernel_rfl) .nil)))) rfl ?_
    exact ⟨_, _, _, y19, (by (with_reducible repeat (first | apply Kd.N_alloc | apply Kd.N_drewN | apply Kd.N_drew)); exact Kd.N_mono (Kd.N_far (p := ⟨gb595, 1, none⟩) (Kd.N_far (p := ⟨gb595, 0, none⟩) (Kd.N_far (p := ⟨gb594, 1, none⟩) (Kd.N_far (p := ⟨gb594, 0, none⟩) (Kd.N_mono (Kd.N_mono HO624.out (fun k_ hk => (⟨hk, hk.1.2.2.2.2.1⟩ : _ ∧ k_ ≠ gb594))) (fun k_ hk => (⟨hk, hk.1.1.2.2.2.2.2.1⟩ : _ ∧ k_ ≠ gb595))) (fun _ hk => hk.1.2) (.int .i64 t621)) (fun _ hk => hk.1.2) (.slice Ao51 t622.length co51)) (fun _ hk => hk.2) (.int .i64 t626)) (fun _ hk => hk.2) (.slice Ao54 t627.length co54)) (fun _ hk => ⟨hk.1.1.1.1, ⟨hk.1.1.1.2.1, hk.1.1.2⟩⟩)), (by (with_reducible repeat (first | apply Kd.R_alloc | apply Kd.R_drewN | apply Kd.R_drew)); exact Kd.R_mono (Kd.R_far (p := ⟨gb595, 1, none⟩) (Kd.R_far (p := ⟨gb595, 0, none⟩) (Kd.R_far (p := ⟨gb594, 1, none⟩) (Kd.R_far (p := ⟨gb594, 0, none⟩) (Kd.R_types (Kd.R_types HO_7.out BK594.out (by decide)) BK595.out (by decide)) (fun _ hk => hk.1.2) (.int .i64 t621)) (fun _ hk => hk.1.2) (.slice Ao51 t622.length co51)) (fun _ hk => hk.2) (.int .i64 t626)) (fun _ hk => hk.2) (.slice Ao54 t627.length co54)) (fun _ hk => hk.1.1)), (by (with_reducible repeat (first | apply Kd.N_alloc | apply Kd.N_drewN | apply Kd.N_drew)); exact Kd.N_mono (Kd.N_far (p := ⟨gb595, 1, none⟩) (Kd.N_far (p := ⟨gb595, 0, none⟩) (Kd.N_far (p := ⟨gb594, 1, none⟩) (Kd.N_far (p := ⟨gb594, 0, none⟩) (Kd.N_mono (Kd.N_mono HO629.out (fun k_ hk => (⟨hk, hk.2.2.2.2.2.1⟩ : _ ∧ k_ ≠ gb594))) (fun k_ hk => (⟨hk, hk.1.2.2.2.2.2.2.1⟩ : _ ∧ k_ ≠ gb595))) (fun _ hk => hk.1.2) (.int .i64 t621)) (fun _ hk => hk.1.2) (.slice Ao51 t622.length co51)) (fun _ hk => hk.2) (.int .i64 t626)) (fun _ hk => hk.2) (.slice Ao54 t627.length co54)) (fun _ hk => ⟨hk.1.1.1, ⟨hk.1.1.2.2.2.2.1, hk.1.1.2.1⟩⟩)), (y28 HB.out HI598.out GE594.out GE595.out GE605.out GE614.out)⟩
   ·replace c35 := Bool.eq_false_iff.mpr c35
    subst c35
    rw [if_neg (show ¬ (false = true) by decide)] at H
    obtain ⟨⟨t631, t632, t635⟩, A560, H⟩ := ob H
    have A56 := Aside0.mk A560
    clear A560
    obtain ⟨⟨t636, t637, t640⟩, A570, H⟩ := ob H
    have A57 := Aside0.mk A570
    clear A570
    simp only [Option.some.injEq, Prod.mk.injEq] at H
    obtain ⟨rfl, rfl, rfl, rfl, rfl⟩ := H
    try go_wp2
    replace HO_7 := Aside0.mk (Kd.R_drew HO_7.out)
    replace HO_606000 := Aside0.mk (Kd.N_drew HO_606000.out)
    replace HO_615000 := Aside0.mk (Kd.N_drew HO_615000.out)
    replace BK594 := Aside0.mk (blk_drew BK594.out)
    replace BK595 := Aside0.mk (blk_drew BK595.out)
    replace BK605 := Aside0.mk (blk_drew BK605.out)
    replace BK614 := Aside0.mk (blk_drew BK614.out)
    replace HI598 := Aside0.mk (IsS75.drew HI598.out)
    replace HB := Aside0.mk (below_drew1 HB.out)
    refine start_ (n := 10) (S := fun w' => w'.cell? ⟨gb605, 0, none⟩ = some (.slice Ao14 t601.length co14) ∧ w'.cell? ⟨gb614, 0, none⟩ = some (.slice Ao26 t610.length co26)) (ds := []) #[false, false, false, false, false, false, false, false, false, false] (by kernel_rfl) rfl rfl ⟨(blk_cell BK605.out 0).trans rfl, (blk_cell BK614.out 0).trans rfl⟩ (fun hHeld => ?_); refine with_tabW spec_DrawValPut.tab7 spec_DrawValPut.bits7 (fun HT_ HW_ => ?_)
    generalize wc.drew = w58 at HO_7 HO_606000 HO_615000 BK594 BK595 BK605 BK614 HI598 HB hHeld ⊢
    refine zp 0 (some 35) HT_ ?_
    refine zp 3 (some 38) HT_ ?_
    refine zp 4 (some 39) HT_ ?_
    refine zt2 1 (some 36) HT_ HW_ hHeld ?_
    refine zt2 5 (some 40) HT_ HW_ hHeld ?_
    refine one_ (i := 2) (N := some 37) #[true, true, true, true, true, true, false, false, false, false] rfl rfl (one_of HT_.out (by kernel_rfl)) (by decide) (fun K hK => ?_)
    refine goes_ Try.func33 (by kernel_rfl) rfl #[.pointer (some ⟨g598, 0, none⟩), .agg #[.slice Ao14 t601.length co14]] (by rfl) rfl rfl y8 ?_
    with_reducible refine (spec_l71Bad.calls kj6 g598 t596 x599001_6 (fun k_ => ((w.heap.size ≤ k_) ∧ (some k_ ≠ (.slice Ao23 t606.length co23 : Value).ownBlock ∧ (some k_ ≠ (.slice Ao26 t610.length co26 : Value).ownBlock ∧ (k_ ≠ gb594 ∧ (k_ ≠ gb595 ∧ (k_ ≠ gb605 ∧ (k_ ≠ gb614 ∧ k_ ≠ g598)))))))) _ _ t601 t631 t632 t635 w _ ?side1 ?side2 ?side3 A56.out).mono ?_
    (case side1 => exact y36 HI598.out NB598_594.out NB598_595.out NB598_605.out NB598_614.out)
    (case side2 => exact y28 HB.out HI598.out GE594.out GE595.out GE605.out GE614.out)
    (case side3 => exact Kd.V_mono (Kd.N_V (HO_606000.out)) (fun k_ hk_ => ⟨hk_, hk_.2.2.2.2.2.2.2⟩))
    rintro e w59 ⟨v633, rfl, ho0, hi, hb, hk⟩
    refine ⟨_, rfl, ?_⟩
    replace HO_606000 := Aside0.mk (Kd.N_mono (Kd.N_told (Kd.N_oldK (Kd.N_mono (ok := fun k_ => (((w.heap.size ≤ k_)) ∧ (some k_ ≠ (.slice Ao23 t606.length co23 : Value).ownBlock ∧ (some k_ ≠ (.slice Ao26 t610.length co26 : Value).ownBlock ∧ (k_ ≠ gb594 ∧ (k_ ≠ gb595 ∧ (k_ ≠ gb605 ∧ (k_ ≠ gb614 ∧ k_ ≠ g598)))))))) (y3 HO_606000.out) (fun k_ hk_ => (⟨hk_, hk_.2.2.2.2.2.2.2⟩ : _ ∧ k_ ≠ g598))) hk) (Kd.N_base ho0)) (fun _ h_ => h_.1))
    have HO634 := Aside0.mk (Kd.N_lower (Kd.N_mono (ok' := fun k_ => (w.heap.size ≤ k_) ∧ some k_ ≠ (.slice Ao23 t606.length co23 : Value).ownBlock ∧ some k_ ≠ (.slice Ao26 t610.length co26 : Value).ownBlock ∧ k_ ≠ gb594 ∧ k_ ≠ gb595 ∧ k_ ≠ gb605 ∧ k_ ≠ gb614 ∧ k_ ≠ g598) ho0 (fun k_ hk_ => ⟨Or.elim hk_ (fun hs_ => hs_.1) (fun hn_ => (Nat.le_trans (below_size (y28 HB.out HI598.out GE594.out GE595.out GE605.out GE614.out)) hn_)), Or.elim hk_ (fun hs_ => hs_.2.1) (fun hn_ => (Kd.fresh' (Kd.R_lt (y12 HO_7.out)) k_ hn_)), Or.elim hk_ (fun hs_ => hs_.2.2.1) (fun hn_ => (Kd.fresh' (Kd.N_lt (y3 HO_615000.out)) k_ hn_)), Or.elim hk_ (fun hs_ => hs_.2.2.2.1) (fun hn_ => (Kd.freshB (g := gb594) (o := .cells #[.int .i64 0, .slice none 0 0] 25 (0, 0)) (y0 BK594.out) k_ hn_)), Or.elim hk_ (fun hs_ => hs_.2.2.2.2.1) (fun hn_ => (Kd.freshB (g := gb595) (o := .cells #[.int .i64 0, .slice none 0 0] 25 (0, 0)) (y0 BK595.out) k_ hn_)), Or.elim hk_ (fun hs_ => hs_.2.2.2.2.2.1) (fun hn_ => (Kd.freshB (g := gb605) (o := .cells #[.slice Ao14 t601.length co14] 50 (0, 0)) (y0 BK605.out) k_ hn_)), Or.elim hk_ (fun hs_ => hs_.2.2.2.2.2.2.1) (fun hn_ => (Kd.freshB (g := gb614) (o := .cells #[.slice Ao26 t610.length co26] 50 (0, 0)) (y0 BK614.out) k_ hn_)), Or.elim hk_ (fun hs_ => hs_.2.2.2.2.2.2.2) (fun hn_ => (IsS75.fresh (y36 HI598.out NB598_594.out NB598_595.out NB598_605.out NB598_614.out) k_ hn_))⟩)) (below_size (y28 HB.out HI598.out GE594.out GE595.out GE605.out GE614.out)))
    replace HO_7 := Aside0.mk (Kd.R_mono (Kd.R_keep (IsS75.apart (show IsS75 w _ g598 t596 x599001_6 from by repeat (first | (with_reducible first | exact HI598.out | apply IsS75.alloc | apply IsS75.drewN | apply IsS75.drew | apply IsS75.set_1 | refine IsS75.far ?_ NB598_594.out _ | refine IsS75.far ?_ NB598_595.out _ | refine IsS75.far ?_ NB598_605.out _ | refine IsS75.far ?_ NB598_614.out _) | exact HI598.out)) (y12 HO_7.out) (by decide)) hk (fun _ h => h.2)) (fun _ h => h.1))
    replace HO_615000 := Aside0.mk (Kd.N_mono (Kd.N_told (Kd.N_oldK (Kd.N_mono (ok := fun k_ => (((w.heap.size ≤ k_)) ∧ (some k_ ≠ (.slice Ao23 t606.length co23 : Value).ownBlock ∧ (k_ ≠ gb594 ∧ (k_ ≠ gb595 ∧ (k_ ≠ gb605 ∧ (k_ ≠ gb614 ∧ k_ ≠ g598))))))) (y3 HO_615000.out) (fun k_ hk_ => (⟨hk_, hk_.2.2.2.2.2.2⟩ : _ ∧ k_ ≠ g598))) hk) (Kd.N_base ho0)) (fun _ h_ => h_.1))
    replace BK594 := Aside0.mk (KeepBut.blk hk (g' := gb594) (o := .cells #[.int .i64 0, .slice none 0 0] 25 (0, 0)) (y0 BK594.out) NB594_598.out (by simp))
    replace BK595 := Aside0.mk (KeepBut.blk hk (g' := gb595) (o := .cells #[.int .i64 0, .slice none 0 0] 25 (0, 0)) (y0 BK595.out) NB595_598.out (by simp))
    replace BK605 := Aside0.mk (KeepBut.blk hk (g' := gb605) (o := .cells #[.slice Ao14 t601.length co14] 50 (0, 0)) (y0 BK605.out) NB605_598.out (by simp))
    replace BK614 := Aside0.mk (KeepBut.blk hk (g' := gb614) (o := .cells #[.slice Ao26 t610.length co26] 50 (0, 0)) (y0 BK614.out) NB614_598.out (by simp))
    replace HB := Aside0.mk (hb)
    replace HI598 := Aside0.mk (hi)
    (try clear hb)
    (try clear hb2)
    (try clear hk)
    (try clear hi)
    (try clear ho0)
    refine hK.out _ _ ⟨(blk_cell BK605.out 0).trans rfl, (blk_cell BK614.out 0).trans rfl⟩ (fun hHeld => ?_)
    clear hK K
    refine norm_ (a' := ?_) ?_ ?_
    rotate_left
    ·show Act.put _ (some 37) _ = _
     simp only [Act.put, List.setIfInBounds_toArray, List.set_cons_zero, List.set_cons_succ, i64_w, i32_w]
     rfl
    refine one_ (i := 6) (N := some 41) #[true, true, true, true, true, true, true, false, false, false] rfl rfl (one_of HT_.out (by kernel_rfl)) (by decide) (fun K hK => ?_)
    refine goes_ Try.func33 (by kernel_rfl) rfl #[.pointer (some ⟨g598, 0, none⟩), .agg #[.slice Ao26 t610.length co26]] (by rfl) rfl rfl y8 ?_
    with_reducible refine (spec_l71Bad.calls kj6 g598 t596 t635 (fun k_ => (((w.heap.size ≤ k_) ∧ (some k_ ≠ (.slice Ao23 t606.length co23 : Value).ownBlock ∧ (k_ ≠ gb594 ∧ (k_ ≠ gb595 ∧ (k_ ≠ gb605 ∧ (k_ ≠ gb614 ∧ k_ ≠ g598)))))) ∧ some k_ ≠ (v633 : Value).ownBlock)) _ _ t610 t636 t637 t640 w _ ?side1 ?side2 ?side3 A57.out).mono ?_
    (case side1 => exact y36 HI598.out NB598_594.out NB598_595.out NB598_605.out NB598_614.out)
    (case side2 => exact y28 HB.out HI598.out GE594.out GE595.out GE605.out GE614.out)
    (case side3 => exact Kd.V_mono (Kd.N_V (HO_615000.out)) (fun k_ hk_ => ⟨hk_, hk_.1.2.2.2.2.2.2⟩))
    rintro e w60 ⟨v638, rfl, ho0, hi, hb, hk⟩
    refine ⟨_, rfl, ?_⟩
    replace HO_606000 := Aside0.mk (Kd.N_mono (Kd.N_told (Kd.N_oldK (Kd.N_mono (ok := fun k_ => ((((w.heap.size ≤ k_)) ∧ (some k_ ≠ (.slice Ao23 t606.length co23 : Value).ownBlock ∧ (some k_ ≠ (.slice Ao26 t610.length co26 : Value).ownBlock ∧ (k_ ≠ gb594 ∧ (k_ ≠ gb595 ∧ (k_ ≠ gb605 ∧ (k_ ≠ gb614 ∧ k_ ≠ g598))))))) ∧ some k_ ≠ (v633 : Value).ownBlock)) (y3 HO_606000.out) (fun k_ hk_ => (⟨hk_, hk_.1.2.2.2.2.2.2.2⟩ : _ ∧ k_ ≠ g598))) hk) (Kd.N_base ho0)) (fun _ h_ => h_.1))
    replace HO_615000 := Aside0.mk (Kd.N_mono (Kd.N_told (Kd.N_oldK (Kd.N_mono (ok := fun k_ => ((((w.heap.size ≤ k_)) ∧ (some k_ ≠ (.slice Ao23 t606.length co23 : Value).ownBlock ∧ (k_ ≠ gb594 ∧ (k_ ≠ gb595 ∧ (k_ ≠ gb605 ∧ (k_ ≠ gb614 ∧ k_ ≠ g598)))))) ∧ some k_ ≠ (v633 : Value).ownBlock)) (y3 HO_615000.out) (fun k_ hk_ => (⟨hk_, hk_.1.2.2.2.2.2.2⟩ : _ ∧ k_ ≠ g598))) hk) (Kd.N_base ho0)) (fun _ h_ => h_.1))
    have HO639 := Aside0.mk (Kd.N_lower (Kd.N_mono (ok' := fun k_ => (w.heap.size ≤ k_) ∧ some k_ ≠ (.slice Ao23 t606.length co23 : Value).ownBlock ∧ some k_ ≠ (v633 : Value).ownBlock ∧ k_ ≠ gb594 ∧ k_ ≠ gb595 ∧ k_ ≠ gb605 ∧ k_ ≠ gb614 ∧ k_ ≠ g598) ho0 (fun k_ hk_ => ⟨Or.elim hk_ (fun hs_ => hs_.1.1) (fun hn_ => (Nat.le_trans (below_size (y28 HB.out HI598.out GE594.out GE595.out GE605.out GE614.out)) hn_)), Or.elim hk_ (fun hs_ => hs_.1.2.1) (fun hn_ => (Kd.fresh' (Kd.R_lt (y12 HO_7.out)) k_ hn_)), Or.elim hk_ (fun hs_ => hs_.2) (fun hn_ => (Kd.fresh' (Kd.N_lt (y3 HO634.out)) k_ hn_)), Or.elim hk_ (fun hs_ => hs_.1.2.2.1) (fun hn_ => (Kd.freshB (g := gb594) (o := .cells #[.int .i64 0, .slice none 0 0] 25 (0, 0)) (y0 BK594.out) k_ hn_)), Or.elim hk_ (fun hs_ => hs_.1.2.2.2.1) (fun hn_ => (Kd.freshB (g := gb595) (o := .cells #[.int .i64 0, .slice none 0 0] 25 (0, 0)) (y0 BK595.out) k_ hn_)), Or.elim hk_ (fun hs_ => hs_.1.2.2.2.2.1) (fun hn_ => (Kd.freshB (g := gb605) (o := .cells #[.slice Ao14 t601.length co14] 50 (0, 0)) (y0 BK605.out) k_ hn_)), Or.elim hk_ (fun hs_ => hs_.1.2.2.2.2.2.1) (fun hn_ => (Kd.freshB (g := gb614) (o := .cells #[.slice Ao26 t610.length co26] 50 (0, 0)) (y0 BK614.out) k_ hn_)), Or.elim hk_ (fun hs_ => hs_.1.2.2.2.2.2.2) (fun hn_ => (IsS75.fresh (y36 HI598.out NB598_594.out NB598_595.out NB598_605.out NB598_614.out) k_ hn_))⟩)) (below_size (y28 HB.out HI598.out GE594.out GE595.out GE605.out GE614.out)))
    replace HO_7 := Aside0.mk (Kd.R_mono (Kd.R_keep (IsS75.apart (show IsS75 w _ g598 t596 t635 from by repeat (first | (with_reducible first | exact HI598.out | apply IsS75.alloc | apply IsS75.drewN | apply IsS75.drew | apply IsS75.set_1 | refine IsS75.far ?_ NB598_594.out _ | refine IsS75.far ?_ NB598_595.out _ | refine IsS75.far ?_ NB598_605.out _ | refine IsS75.far ?_ NB598_614.out _) | exact HI598.out)) (y12 HO_7.out) (by decide)) hk (fun _ h => h.2)) (fun _ h => h.1))
    replace BK594 := Aside0.mk (KeepBut.blk hk (g' := gb594) (o := .cells #[.int .i64 0, .slice none 0 0] 25 (0, 0)) (y0 BK594.out) NB594_598.out (by simp))
    replace BK595 := Aside0.mk (KeepBut.blk hk (g' := gb595) (o := .cells #[.int .i64 0, .slice none 0 0] 25 (0, 0)) (y0 BK595.out) NB595_598.out (by simp))
    replace BK605 := Aside0.mk (KeepBut.blk hk (g' := gb605) (o := .cells #[.slice Ao14 t601.length co14] 50 (0, 0)) (y0 BK605.out) NB605_598.out (by simp))
    replace BK614 := Aside0.mk (KeepBut.blk hk (g' := gb614) (o := .cells #[.slice Ao26 t610.length co26] 50 (0, 0)) (y0 BK614.out) NB614_598.out (by simp))
    replace HO634 := Aside0.mk (Kd.N_mono (Kd.N_told (Kd.N_oldK (Kd.N_mono (ok := fun k_ => (((w.heap.size ≤ k_)) ∧ (some k_ ≠ (.slice Ao23 t606.length co23 : Value).ownBlock ∧ (some k_ ≠ (.slice Ao26 t610.length co26 : Value).ownBlock ∧ (k_ ≠ gb594 ∧ (k_ ≠ gb595 ∧ (k_ ≠ gb605 ∧ (k_ ≠ gb614 ∧ k_ ≠ g598)))))))) (y3 HO634.out) (fun k_ hk_ => (⟨hk_, hk_.2.2.2.2.2.2.2⟩ : _ ∧ k_ ≠ g598))) hk) (Kd.N_base ho0)) (fun _ h_ => h_.1))
    replace HB := Aside0.mk (hb)
    replace HI598 := Aside0.mk (hi)
    (try clear hb)
    (try clear hb2)
    (try clear hk)
    (try clear hi)
    (try clear ho0)
    obtain ⟨Ao62, co62, eo62⟩ := Kd.N_slice HO634.out
    (first | subst eo62 | (injection eo62 with f1_ f2_ f3_; have f4_ := f1_.symm; have f5_ := f3_.symm; clear f1_ f2_ f3_; subst f4_; subst f5_))
    obtain ⟨Ao65, co65, eo65⟩ := Kd.N_slice HO639.out
    (first | subst eo65 | (injection eo65 with f1_ f2_ f3_; have f4_ := f1_.symm; have f5_ := f3_.symm; clear f1_ f2_ f3_; subst f4_; subst f5_))
    refine hK.out _ _ ⟨(blk_cell BK605.out 0).trans rfl, (blk_cell BK614.out 0).trans rfl⟩ (fun hHeld => ?_)
    clear hK K
    refine norm_ (a' := ?_) ?_ ?_
    rotate_left
    ·show Act.put _ (some 41) _ = _
     simp only [Act.put, List.setIfInBounds_toArray, List.set_cons_zero, List.set_cons_succ, i64_w, i32_w]
     rfl
    refine one_ (i := 7) (N := none) #[true, true, true, true, true, true, true, true, false, false] rfl rfl (one_of HT_.out (by kernel_rfl)) (by decide) (fun K hK => ?_)
    have hs61 : w60.cell? ⟨gb594, 0, none⟩ = some (.int .i64 0) := (blk_cell BK594.out 0).trans rfl
    have hfs61 := zfr BK594 0
    have hns61_1 := NB595_594.out
    have hns61_2 := NB605_594.out
    have hns61_3 := NB614_594.out
    have hms61_1 := NB594_595.out
    have hms61_2 := NB594_605.out
    have hms61_3 := NB594_614.out
    have hs63 : w60.cell? ⟨gb594, 1, none⟩ = some (.slice none 0 0) := (blk_cell BK594.out 1).trans rfl
    have hfs63 := zfr BK594 1
    have hns63_1 := NB595_594.out
    have hns63_2 := NB605_594.out
    have hns63_3 := NB614_594.out
    have hms63_1 := NB594_595.out
    have hms63_2 := NB594_605.out
    have hms63_3 := NB594_614.out
    refine skip_ (w1 := ?_) (by rfl) rfl ?_ ?_
    rotate_left
    ·go_simp
     rfl
    refine hK.out _ _ ⟨((cell_far (p := ⟨gb594, _, none⟩) NB605_594.out _).trans (((cell_far (p := ⟨gb594, _, none⟩) NB605_594.out _).trans (hHeld.1)))), ((cell_far (p := ⟨gb594, _, none⟩) NB614_594.out _).trans (((cell_far (p := ⟨gb594, _, none⟩) NB614_594.out _).trans (hHeld.2))))⟩ (fun hHeld => ?_)
    clear hK K
    refine zp 8 (some 3) HT_ ?_
    refine one_ (i := 9) (N := none) #[true, true, true, true, true, true, true, true, true, true] rfl rfl (one_of HT_.out (by kernel_rfl)) (by decide) (fun K hK => ?_)
    have hs64 : w60.cell? ⟨gb595, 0, none⟩ = some (.int .i64 0) := (blk_cell BK595.out 0).trans rfl
    have hfs64 := zfr BK595 0
    have hns64_0 := NB594_595.out
    have hns64_2 := NB605_595.out
    have hns64_3 := NB614_595.out
    have hms64_0 := NB595_594.out
    have hms64_2 := NB595_605.out
    have hms64_3 := NB595_614.out
    have hs66 : w60.cell? ⟨gb595, 1, none⟩ = some (.slice none 0 0) := (blk_cell BK595.out 1).trans rfl
    have hfs66 := zfr BK595 1
    have hns66_0 := NB594_595.out
    have hns66_2 := NB605_595.out
    have hns66_3 := NB614_595.out
    have hms66_0 := NB595_594.out
    have hms66_2 := NB595_605.out
    have hms66_3 := NB595_614.out
    refine skip_ (w1 := ?_) (by rfl) rfl ?_ ?_
    rotate_left
    ·go_simp
     rfl
    refine hK.out _ _ ⟨((cell_far (p := ⟨gb595, _, none⟩) NB605_595.out _).trans (((cell_far (p := ⟨gb595, _, none⟩) NB605_595.out _).trans (hHeld.1)))), ((cell_far (p := ⟨gb595, _, none⟩) NB614_595.out _).trans (((cell_far (p := ⟨gb595, _, none⟩) NB614_595.out _).trans (hHeld.2))))⟩ (fun hHeld => ?_)
    clear hK K
    refine done_ (done_of HT_.out (by kernel_rfl)) ?_
    try go_wp2
    refine bodyPost_ret (results_list (rs := [.cell 2 25, .tmp 3, .cell 4 25]) rfl (by simp) (.cell gb594 25 #[.int .i64 t631, .slice Ao62 t632.length co62] (0, 0) _ rfl (by (with_reducible repeat (first | refine blk_drewN ?_ _ | refine blk_drew ?_ | refine blk_alloc ?_ _)); refine blk_far ?_ NB594_595.out _; (with_reducible repeat (first | refine blk_drewN ?_ _ | refine blk_drew ?_ | refine blk_alloc ?_ _)); refine blk_far ?_ NB594_595.out _; (with_reducible repeat (first | refine blk_drewN ?_ _ | refine blk_drew ?_ | refine blk_alloc ?_ _)); refine blk_put (cs := #[.int .i64 t631, .slice none 0 0]) ?_ 1 _ rfl; (with_reducible repeat (first | refine blk_drewN ?_ _ | refine blk_drew ?_ | refine blk_alloc ?_ _)); apply blk_put (i := 0); (case h => exact y0 BK594.out); (case e => rfl)) Try.underlying25 rfl (by kernel_rfl) (.tmp (.cell gb595 25 #[.int .i64 t636, .slice Ao65 t637.length co65] (0, 0) _ rfl (by (with_reducible repeat (first | refine blk_drewN ?_ _ | refine blk_drew ?_ | refine blk_alloc ?_ _)); refine blk_put (cs := #[.int .i64 t636, .slice none 0 0]) ?_ 1 _ rfl; (with_reducible repeat (first | refine blk_drewN ?_ _ | refine blk_drew ?_ | refine blk_alloc ?_ _)); refine blk_put (cs := #[.int .i64 0, .slice none 0 0]) ?_ 0 _ rfl; (with_reducible repeat (first | refine blk_drewN ?_ _ | refine blk_drew ?_ | refine blk_alloc ?_ _)); refine blk_far ?_ NB595_594.out _; (with_reducible repeat (first | refine blk_drewN ?_ _ | refine blk_drew ?_ | refine blk_alloc ?_ _)); refine blk_far ?_ NB595_594.out _; (with_reducible repeat (first | refine blk_drewN ?_ _ | refine blk_drew ?_ | refine blk_alloc ?_ _)); exact BK595.out) Try.underlying25 rfl (by kernel_rfl) .nil)))) rfl ?_
    exact ⟨_, _, _, y19, (by (with_reducible repeat (first | apply Kd.N_alloc | apply Kd.N_drewN | apply Kd.N_drew)); exact Kd.N_mono (Kd.N_far (p := ⟨gb595, 1, none⟩) (Kd.N_far (p := ⟨gb595, 0, none⟩) (Kd.N_far (p := ⟨gb594, 1, none⟩) (Kd.N_far (p := ⟨gb594, 0, none⟩) (Kd.N_mono (Kd.N_mono HO634.out (fun k_ hk => (⟨hk, hk.1.2.2.2.1⟩ : _ ∧ k_ ≠ gb594))) (fun k_ hk => (⟨hk, hk.1.1.2.2.2.2.1⟩ : _ ∧ k_ ≠ gb595))) (fun _ hk => hk.1.2) (.int .i64 t631)) (fun _ hk => hk.1.2) (.slice Ao62 t632.length co62)) (fun _ hk => hk.2) (.int .i64 t636)) (fun _ hk => hk.2) (.slice Ao65 t637.length co65)) (fun _ hk => ⟨hk.1.1.1.1, ⟨hk.1.1.1.2.1, hk.1.1.2⟩⟩)), (by (with_reducible repeat (first | apply Kd.R_alloc | apply Kd.R_drewN | apply Kd.R_drew)); exact Kd.R_mono (Kd.R_far (p := ⟨gb595, 1, none⟩) (Kd.R_far (p := ⟨gb595, 0, none⟩) (Kd.R_far (p := ⟨gb594, 1, none⟩) (Kd.R_far (p := ⟨gb594, 0, none⟩) (Kd.R_types (Kd.R_types HO_7.out BK594.out (by decide)) BK595.out (by decide)) (fun _ hk => hk.1.2) (.int .i64 t631)) (fun _ hk => hk.1.2) (.slice Ao62 t632.length co62)) (fun _ hk => hk.2) (.int .i64 t636)) (fun _ hk => hk.2) (.slice Ao65 t637.length co65)) (fun _ hk => hk.1.1)), (by (with_reducible repeat (first | apply Kd.N_alloc | apply Kd.N_drewN | apply Kd.N_drew)); exact Kd.N_mono (Kd.N_far (p := ⟨gb595, 1, none⟩) (Kd.N_far (p := ⟨gb595, 0, none⟩) (Kd.N_far (p := ⟨gb594, 1, none⟩) (Kd.N_far (p := ⟨gb594, 0, none⟩) (Kd.N_mono (Kd.N_mono HO639.out (fun k_ hk => (⟨hk, hk.2.2.2.1⟩ : _ ∧ k_ ≠ gb594))) (fun k_ hk => (⟨hk, hk.1.2.2.2.2.1⟩ : _ ∧ k_ ≠ gb595))) (fun _ hk => hk.1.2) (.int .i64 t631)) (fun _ hk => hk.1.2) (.slice Ao62 t632.length co62)) (fun _ hk => hk.2) (.int .i64 t636)) (fun _ hk => hk.2) (.slice Ao65 t637.length co65)) (fun _ hk => ⟨hk.1.1.1, ⟨hk.1.1.2.2.1, hk.1.1.2.1⟩⟩)), (y28 HB.out HI598.out GE594.out GE595.out GE605.out GE614.out)⟩
end Go.Proofs.Ythfflieeifakdaa.PA
end
section
set_option linter.unusedVariables false
namespace Go.Proofs.Ythfflieeifakdaa.DrawP
open Go.RowKit Go.Proofs.Ythfflieeifakdaa.PA Go.Proofs.YthfflieeifakdaaW.PrintWords Go.Proofs.YthfflieeifakdaaW.PrintLast Go.Proofs.Ythfflieeifakdaa.Draw Go.Proofs.Ythfflieeifakdaa.Types Go.Proofs.Ythfflieeifakdaa.Paths Go.Proofs.Ythfflieeifakdaa.Vals Go.Proofs.Ythfflieeifakdaa.DrawV
theorem drawPut1_ev (s : List Int) (hs : Bytes s) (c : Nat) (hc : c ≤ 10) (t part : Ty) (p : List Int) (d : dp c t = true) (dq : dp 4 part = true) (b : Bool) (q : Int) (hq : 0 ≤ q) (hq1 : q ≤ 1099400000000) :
    ∃ x v y m, ∀ k, 50 ≤ k → spec_DrawValPut.j0 k p b s q t part = some (x, v, p, y, m) := by
  cases b with
  | true =>
    obtain ⟨u, q1, hu, g1, g2, d1⟩ := typeN_ev s hs 2 (by omega) q (by omega) (by omega)
    obtain ⟨x, v, q2, hx, g3, g4⟩ := bad_ev s hs c (by omega) t d q1 (by omega) (by omega)
    obtain ⟨y, m, q3, hy, _, _⟩ := bad_ev s hs 3 (by omega) u d1 q2 (by omega) (by omega)
    refine ⟨x, v, y, m, fun k hk => ?_⟩
    obtain ⟨k, rfl⟩ : ∃ m, k = m + 1 := ⟨k - 1, by omega⟩
    simp only [spec_DrawValPut.j0, if_true]
    have hu' := hu k (by omega)
    rw [show (((2 : Nat) : Int)) = (2 : Int) from rfl] at hu'
    rw [hu']; simp only [Option.bind_some]
    rw [hx k (by omega)]; simp only [Option.bind_some]
    rw [hy k (by omega)]; rfl
  | false =>
    obtain ⟨x, v, q2, hx, g3, g4⟩ := bad_ev s hs c (by omega) t d q (by omega) (by omega)
    obtain ⟨y, m, q3, hy, _, _⟩ := bad_ev s hs 4 (by omega) part dq q2 (by omega) (by omega)
    refine ⟨x, v, y, m, fun k hk => ?_⟩
    obtain ⟨k, rfl⟩ : ∃ m, k = m + 1 := ⟨k - 1, by omega⟩
    simp only [spec_DrawValPut.j0]
    rw [if_neg (by simp), hx k (by omega)]; simp only [Option.bind_some]
    rw [hy k (by omega)]; rfl
theorem drawValPut_ev (l : List Int) (h : ∀ x ∈ l, (Lit.int .u8 x).wf = true) : ∃ x v p y m, (∀ k, 60 ≤ k → spec_DrawValPut.f k l = some (x, v, p, y, m)) ∧ p.length ≤ 11 := by
  obtain ⟨s, ho, hs⟩ := open_ev l h
  obtain ⟨c, hc, c0, c1⟩ := pick_ev s hs 0 3 (by omega) (by omega) (by omega)
  obtain ⟨cn, rfl⟩ := Int.eq_ofNat_of_zero_le c0
  have ew : wrap64 (2 + (cn : Int)) = ((2 + cn : Nat) : Int) := by rw [w64 (by omega) (by omega)]; omega
  obtain ⟨t, q1, ht, g1, g2, d1⟩ := typeN_ev s hs (2 + cn) (by omega) (0 + 1) (by omega) (by omega)
  obtain ⟨p, q3, hp, g5, g6, hl⟩ := any_ev s hs (2 + cn) t (by omega) (dph_dp _ _ d1) q1 (by omega) (by omega)
  obtain ⟨e, he, e0, e1⟩ := pick_ev s hs q3 8 (by omega) (by omega) (by omega)
  have hd := tat_ok t p
  cases g : (tat t p).2 with
  | true =>
    obtain ⟨x, v, y, m, hj⟩ := drawPut1_ev s hs (2 + cn + 1) (by omega) t (tat t p).1 p d1 hd (e == 0) (q3 + 1) (by omega) (by omega)
    refine ⟨x, v, p, y, m, fun k hk => ?_, by omega⟩
    unfold spec_DrawValPut.f
    rw [ho]; simp only [Option.bind_some]
    rw [hc k (by omega)]; simp only [Option.bind_some]
    rw [ew, ht k (by omega)]; simp only [Option.bind_some]
    rw [hp k (by omega)]; simp only [Option.bind_some]
    rw [specTypeAt_ev t p k (by omega) (by omega)]; simp only [Option.bind_some]
    rw [if_pos g, he k (by omega)]; simp only [Option.bind_some]
    exact hj k (by omega)
  | false =>
    obtain ⟨x, v, y, m, hj⟩ := drawPut1_ev s hs (2 + cn + 1) (by omega) t (tat t p).1 p d1 hd true q3 (by omega) (by omega)
    refine ⟨x, v, p, y, m, fun k hk => ?_, by omega⟩
    unfold spec_DrawValPut.f
    rw [ho]; simp only [Option.bind_some]
    rw [hc k (by omega)]; simp only [Option.bind_some]
    rw [ew, ht k (by omega)]; simp only [Option.bind_some]
    rw [hp k (by omega)]; simp only [Option.bind_some]
    rw [specTypeAt_ev t p k (by omega) (by omega)]; simp only [Option.bind_some]
    rw [if_neg (by rw [g]; simp)]
    exact hj k (by omega)
end Go.Proofs.Ythfflieeifakdaa.DrawP
end
section
set_option linter.unusedVariables false
set_option linter.unusedSimpArgs false
namespace Go.Proofs.Ythfflieeifakdaa.PutLaws
open Go.RowKit Go.Proofs.Ythfflieeifakdaa.PA Go.Proofs.YthfflieeifakdaaW.PrintWords Go.Proofs.YthfflieeifakdaaW.PrintLast Go.Proofs.Ythfflieeifakdaa.Draw Go.Proofs.Ythfflieeifakdaa.Types Go.Proofs.Ythfflieeifakdaa.Paths Go.Proofs.Ythfflieeifakdaa.Vals Go.Proofs.Ythfflieeifakdaa.Ats Go.Proofs.Ythfflieeifakdaa.Puts
theorem vput_of {x : Int} {l : Vl} {p : List Int} {y : Int} {m : Vl} {t s : Ty} {q : Int × Vl} (h1 : vt 4 x l = some t) (h2 : pv p x l = some q) (h3 : vt 4 q.1 q.2 = some s) (h4 : vt 4 y m = some s) :
    vput x l p y m = ((wp p x l y m).1, (wp p x l y m).2, true) := by
  unfold vput
  rw [h1, h2, h4]
  simp only [h3]
  rw [if_pos (teq_refl 4 s (vt_dp _ _ _ _ h4))]
theorem vput_ok {x : Int} {l : Vl} {p : List Int} {y : Int} {m : Vl} (h : (vput x l p y m).2.2 = true) :
    ∃ t s q, vt 4 x l = some t ∧ pv p x l = some q ∧ vt 4 q.1 q.2 = some s ∧ vt 4 y m = some s := by
  unfold vput at h
  cases h1 : vt 4 x l with
  | none => rw [h1] at h; cases h
  | some t =>
    cases h2 : pv p x l with
    | none => rw [h1, h2] at h; cases h
    | some q =>
      cases h4 : vt 4 y m with
      | none => rw [h1, h2, h4] at h; cases h
      | some u =>
        rw [h1, h2, h4] at h
        obtain ⟨s, _, h3⟩ := (vt_pv 4 p x l t h1).1 q.1 q.2 h2
        simp only [h3] at h
        by_cases g : teq 4 s u = true
        · exact ⟨t, s, q, rfl, rfl, h3, by rw [teq_eq 4 s u g]⟩
        · rw [if_neg g] at h; cases h
theorem vput_no {x : Int} {l : Vl} {p : List Int} {y : Int} {m : Vl} (h : (vput x l p y m).2.2 = false) : vput x l p y m = (0, [], false) := by
  unfold vput at h ⊢
  split
  · split
    · split
      · rename_i e1 e2 e3 _ _ e4 g
        simp only [e1, e2, e3, e4] at h
        rw [if_pos g] at h; cases h
      · rfl
    · rfl
  · rfl
theorem vput_long {x : Int} {l : Vl} {p : List Int} {y : Int} {m : Vl} (h : 4 ≤ p.length) : vput x l p y m = (0, [], false) ∧ vat x l p = (0, [], false) := by
  have key : ∀ t, vt 4 x l = some t → pv p x l = none := by
    intro t ht
    cases e : pv p x l with
    | none => rfl
    | some q => have := pv_len p 4 x l t q ht e; omega
  constructor
  · cases e : (vput x l p y m).2.2 with
    | false => exact vput_no e
    | true =>
      obtain ⟨t, s, q, h1, h2, _, _⟩ := vput_ok e
      rw [key t h1] at h2; cases h2
  · unfold vat
    cases e : vt 4 x l with
    | none => rfl
    | some t => rw [key t e]; rfl
theorem nil_vt : vt 4 0 [] = some [] := rfl
theorem vput_vt (x : Int) (l : Vl) (p : List Int) (y : Int) (m : Vl) : ∃ t, vt 4 (vput x l p y m).1 (vput x l p y m).2.1 = some t := by
  cases e : (vput x l p y m).2.2 with
  | false => rw [vput_no e]; exact ⟨[], rfl⟩
  | true =>
    obtain ⟨t, s, q, h1, h2, h3, h4⟩ := vput_ok e
    rw [vput_of h1 h2 h3 h4]
    exact ⟨t, (wp_all p 4 x l t q y m s 4 h1 h2 h3 h4).1⟩
theorem vput_self (x : Int) (l : Vl) (p : List Int) (y : Int) (m : Vl) (k : Nat) (hk : 20 ≤ k) : laws_lhVal.f k (vput x l p y m).1 (vput x l p y m).2.1 (vput x l p y m).1 (vput x l p y m).2.1 = some true := by
  obtain ⟨t, ht⟩ := vput_vt x l p y m
  exact lhv_self 4 _ _ t k ht (by omega)
theorem vat_refl (x : Int) (l : Vl) (p : List Int) (k : Nat) (hk : 20 ≤ k) : laws_lhVal.f k (vat x l p).1 (vat x l p).2.1 (vat x l p).1 (vat x l p).2.1 = some true := by
  obtain ⟨t, ht⟩ := vat_vt x l p
  exact lhv_self 4 _ _ t k ht (by omega)
theorem vat_of {x : Int} {l : Vl} {p : List Int} {t : Ty} {q : Int × Vl} (h1 : vt 4 x l = some t) (h2 : pv p x l = some q) : vat x l p = (q.1, q.2, true) := by
  unfold vat; rw [h1, h2]; rfl
theorem vat_ok {x : Int} {l : Vl} {p : List Int} (h : (vat x l p).2.2 = true) : ∃ t q, vt 4 x l = some t ∧ pv p x l = some q := by
  unfold vat at h
  cases h1 : vt 4 x l with
  | none => rw [h1] at h; cases h
  | some t =>
    cases h2 : pv p x l with
    | none => rw [h1, h2] at h; cases h
    | some q => exact ⟨t, q, rfl, rfl⟩
end Go.Proofs.Ythfflieeifakdaa.PutLaws
end
section
set_option linter.unusedSimpArgs false
set_option linter.unusedVariables false
namespace Go.Proofs.Ythfflieeifakdaa.Pure
open Go.RowKit Go.Proofs.Ythfflieeifakdaa.PA Go.Proofs.YthfflieeifakdaaW.PrintWords Go.Proofs.YthfflieeifakdaaW.PrintLast Go.Proofs.Ythfflieeifakdaa.Draw Go.Proofs.Ythfflieeifakdaa.Types Go.Proofs.Ythfflieeifakdaa.Paths Go.Proofs.Ythfflieeifakdaa.Vals Go.Proofs.Ythfflieeifakdaa.Ats Go.Proofs.Ythfflieeifakdaa.DrawV Go.Proofs.Ythfflieeifakdaa.DrawP Go.Proofs.Ythfflieeifakdaa.Puts Go.Proofs.Ythfflieeifakdaa.PutLaws
theorem FnValSame : laws_FnValSame.Pure := by
  intro l0 _ _ h0
  obtain ⟨x, v, p, ht, hl⟩ := drawValAt_ev l0 h0
  refine ⟨7000, ?_⟩
  unfold laws_FnValSame.f
  split
  · rfl
  · rw [ht 7000 (by omega)]; simp only [Option.bind_some]
    rw [specValAt_ev x v p 7000 (by omega) (by omega)]; simp only [Option.bind_some]
    rw [implValAt_ev x v p 7000 (by omega) (by omega)]; simp only [Option.bind_some]
    rw [if_neg (by simp), vat_refl x v p 7000 (by omega)]; simp only [Option.bind_some, if_true]
    cases e : (vat x v p).2.2 with
    | false =>
      simp only [laws_FnValSame.j0, Bool.not_false, if_true]
      rw [if_pos (by simp), vat_refl x v p 6999 (by omega)]; rfl
    | true =>
      simp only [laws_FnValSame.j0, Bool.not_true]
      obtain ⟨t, q, h1, h2⟩ := vat_ok e
      obtain ⟨s, _, h3⟩ := (vt_pv 4 p x v t h1).1 q.1 q.2 h2
      rw [if_neg (by simp), vat_of h1 h2]; simp only
      rw [implPut_ev x v p q.1 q.2 6999 (by omega) (by omega)]; simp only [Option.bind_some]
      rw [vput_of h1 h2 h3 h3, (wp_all p 4 x v t q q.1 q.2 s 4 h1 h2 h3 h3).2.2.2]; simp only [if_true]
      rw [lhv_self 4 x v t 6999 h1 (by omega)]; rfl
end Go.Proofs.Ythfflieeifakdaa.Pure
end
section
namespace Go.Proofs.YthfflieeifakdaaW.PrintWords
open Go.ChangeShapes Go.WideShapes
theorem sized_ints {H : Type} {enc : TypeId × Value → H} {P : Program} {W : World} {base : Nat} {spare : Nat → Bool} {held : Bool} {t e : TypeId} {k : IntKind} {a : Option Addr} {len cap : Nat} {d : DataW H} {ps : List MemPlace} {ts : List TypeId} {ds : List (DataW H)} {j : Nat}
    (hsz : (DataW.weightsEach P ts ds).all (· ≤ reachBytes) = true) (ht : ts[j]? = some t) (hd : ds[j]? = some d) (hu : P.underlying t = some (.slice e)) (he : P.underlying e = some (.int k)) (hc : P.cellsOf e = 1) {B : Nat} (hB : P.bytesOf e = B)
    (h : DataW.Trod enc P W base spare held t (.slice a len cap) d ps) : len * B ≤ 140737488351232 := by
  obtain ⟨fuel, hf⟩ := h
  rcases open_ints hu he hc hf with ⟨hcs, _⟩ | ⟨x, l, c, zs, hcs, _, hl, _, hz, hx, _, _⟩
  · simp [Value.cells] at hcs
    obtain ⟨rfl, rfl, rfl⟩ := hcs
    simp
  · simp [Value.cells] at hcs
    obtain ⟨rfl, rfl, rfl⟩ := hcs
    obtain ⟨hx, _⟩ := Prod.mk.inj hx
    subst hx
    have z := sized_slice hsz ht hd hu
    rw [hB] at z
    have hl2 : len ≤ zs.length := by
      rw [hz]
      split
      · exact hl
      · exact Nat.le_refl _
    have h1 : (lits (H := H) k (zs.take len)).length + (lits (H := H) k (zs.drop len)).length = zs.length := by
      simp [lits]
      omega
    rw [h1] at z
    exact Nat.le_trans (Nat.mul_le_mul_right _ hl2) z
end Go.Proofs.YthfflieeifakdaaW.PrintWords
end
section
namespace Go.Proofs.Ythfflieeifakdaa.fnValSame
open Go.ChangeShapes Go.WideShapes Go.ChangeAt Go.RowKit
open Go.ChangeMaps (open_string shut_string)
set_option linter.unusedVariables false
theorem own : ownKnob Try.prog.godebug = none := by kernel_rfl
theorem laidOut : laidOutB Try.prog = true := by kernel_rfl
def IsRow (k : IntKind) (w : World) (a : Option Addr) (len cap : Nat) (zs : List Int) : Prop :=
  (a = none ∧ len = 0 ∧ cap = 0 ∧ zs = []) ∨
  ∃ x, a = some x ∧ len ≤ cap ∧ cap ≤ maxLen ∧ zs.length = cap ∧ (∀ i, i < zs.length → w.cell? (x.add i) = some (.int k (zs.getD i 0))) ∧ ∀ n ∈ zs, (Lit.int k n).wf = true
set_option maxRecDepth 100000 in
theorem lifted (os : Os) (started : os.Started) (H : Type) (enc : TypeId × Value → H) :
    ReturnsInHanded {} Try.checked os 5 .any (Rows.fnValSameSpec.pre6 enc Try.prog Try.f5 Rows.fnValSameRow.domain false) (Rows.fnValSameSpec.post enc Try.prog Try.f5 false true false false) := by
  refine returnsInHanded_of_change_sized (C := Try.checked) own started (by kernel_rfl) Try.func5
    (ChangeSpec.witness6 (enc := enc) (C := Try.checked) false ⟨#[], #[.slice none 0 0], []⟩ 8 (by kernel_rfl) (by kernel_rfl) (by kernel_rfl) (by kernel_rfl)) ?_
  intro W base args ds gs before hval0 hW hcnd hsz0 _
  have hsz : (DataW.weightsEach Try.prog (Try.f5.params.toList ++ Rows.fnValSameSpec.plain.varTypes Try.prog) (ds ++ gs)).all (· ≤ reachBytes) = true := hsz0
  have hval : ∀ (j : Nat) t v, Try.f5.params[j]? = some t → args[j]? = some v → Value.okWide Try.prog W .any base t v := hval0
  have hW' := hW
  obtain ⟨p, q, hA0, hV, rfl, hfz, hnd⟩ := hW
  have hA : DataW.TrodAll enc Try.prog W 0 (fun _ => true) true Try.f5.params.toList args.toList ds p := hA0
  rw [Try.params5] at hA hval hsz
  obtain ⟨v0, vs0, d0, ds0, p0, q0, hargs, rfl, rfl, h0, r0⟩ := trodAll_cons hA
  obtain ⟨rfl, rfl, rfl⟩ := trodAll_nil r0
  obtain rfl : args = #[v0] := by cases args; simp_all
  obtain ⟨rfl, rfl⟩ := trodVars_none hV
  obtain ⟨a0, len0, cap0, rfl⟩ := okWide_slice Try.underlying22 (hval 0 22 v0 rfl rfl)
  have k0 := h0
  have lt0 : ∀ x ∈ p0, x.block < W.heap.size := by obtain ⟨m, hm⟩ := k0; exact DataW.trod_lt m _ _ _ hm
  obtain ⟨z0, w0⟩ : ∃ zs, IsRow .u8 W a0 len0 cap0 zs := by
    obtain ⟨fuel, hf⟩ := h0
    rcases open_ints Try.underlying22 Try.underlying5 (by kernel_rfl) hf with ⟨hcs, _⟩ | ⟨x, l, c, zs, hcs, _, hl, hm, hz, _, hcell, hwz⟩
    · simp [Value.cells] at hcs
      obtain ⟨rfl, rfl, rfl⟩ := hcs
      exact ⟨[], .inl ⟨rfl, rfl, rfl, rfl⟩⟩
    · simp [Value.cells] at hcs
      obtain ⟨rfl, rfl, rfl⟩ := hcs
      exact ⟨zs, .inr ⟨_, rfl, hl, hm, by simpa using hz, hcell, hwz⟩⟩
  have y0 : len0 * 1 ≤ 140737488351232 := Go.Proofs.YthfflieeifakdaaW.PrintWords.sized_ints hsz (j := 0) (t := 22) rfl rfl Try.underlying22 Try.underlying5 (by kernel_rfl) (by kernel_rfl) h0
  clear hA0 hval0 hsz0 hsz
  refine (PA.laws_FnValSame.walk Pure.FnValSame a0 len0 cap0 z0 W w0 y0).mono fun e W' ⟨he, bel⟩ => ?_
  subst he
  exact ⟨_, rfl, _, _, _, [], _, [], hW', trodAll_mk1 (shut_bool Try.underlying4 _), (trodAll_cons_mk (Below.trod laidOut (by kernel_rfl) (of_decide_eq_true (by kernel_rfl)) k0 bel lt0) trodAll_mk0), rfl, bel.frame _, fun h => by cases h⟩
theorem over : Rows.fnValSameRow.holds Try.pinned (OpenSpec.ofChange Rows.fnValSameSpec) :=
  OpenClaim.holds_of_wide 5 Try.f5 rfl rfl rfl rfl rfl rfl rfl ⟨rfl, rfl, rfl, rfl, rfl⟩ rfl rfl rfl rfl rfl (by kernel_rfl) Try.func5 (by kernel_rfl)
    (of_decide_eq_true (by kernel_rfl)) (by unfold Func.isWrapper; first | (rw [if_pos (by decide +kernel)]; kernel_rfl) | (rw [if_neg (by decide +kernel)]; exact ⟨rfl, rfl⟩))
    (fun os started H enc _ => lifted os started H enc)
theorem proved : Rows.FnValSameSaid := over
#print axioms proved
end Go.Proofs.Ythfflieeifakdaa.fnValSame
namespace Go.Proofs.Ythfflieeifakdaa
theorem fnValSame_holds : Rows.FnValSameSaid := fnValSame.proved
end Go.Proofs.Ythfflieeifakdaa
end
