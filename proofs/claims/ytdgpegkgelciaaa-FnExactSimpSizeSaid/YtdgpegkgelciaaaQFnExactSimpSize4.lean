-- Ytdgpegkgelciaaa's texts for the statement FnExactSimpSize, one behind the other (merge.py).
import Derived.Test.YtdgpegkgelciaaaQFnExactSimpSize0
import Derived.Test.YtdgpegkgelciaaaQFnExactSimpSize3
import Derived.Laws.Externs
import Derived.WalkKit
import Derived.IntWalk
import Derived.Maps.AppendAt
import Derived.Shelf.SlMaps.Clone
import Derived.BigGuardPart
import Derived.Deep.CutBlock
import Derived.Deep.Cut
import Derived.Deep.CutRange
import Derived.WideMake
import Derived.Test.YtdgpegkgelciaaaQFnExactSimpSize1
import Derived.Test.YtdgpegkgelciaaaQFnExactSimpSize2
import Derived.OpenShut
import Derived.Deep.Slices
import Derived.ProofKit
import Derived.ShutString
import Derived.ChangeOld
import Derived.Below
import Derived.SizedLaws
section
namespace Go.Proofs.Ytdgpegkgelciaaa.PA
open Go.RowKit Go.Proofs.YtdgpegkgelciaaaW.PrintWords Go.Proofs.YtdgpegkgelciaaaW.PrintLast Go.Proofs.YtdgpegkgelciaaaW.PrintMore
attribute [local go_sem] max2_int min2_int max_two min_two max_three min_three max_four min_four
set_option linter.unusedVariables false
set_option linter.unusedSimpArgs false
mutual
def spec_l23Size.l0 : Nat → Int → Int → List (S64) → List (S78) → Option (Int)
 | 0, _, _, _, _ => none
 | k + 1, x3, x4, x547000, x547001 => if x4 < (x547001.length : Int) then (if 0 ≤ x4 then ((spec_l23Count.f k ((rd_T78 x547001 x4).f0) ((rd_T78 x547001 x4).f1) ((rd_T78 x547001 x4).f2) ((rd_T78 x547001 x4).f3) ((rd_T78 x547001 x4).f4)).bind fun t548 => (spec_l23Size.l0 k (wrap64 (x3 + t548)) (wrap64 (x4 + 1)) x547000 x547001)) else (none)) else (spec_l23Size.l1 k x3 0 x547000 x547001)
def spec_l23Size.l1 : Nat → Int → Int → List (S64) → List (S78) → Option (Int)
 | 0, _, _, _, _ => none
 | k + 1, x3, x5, x547000, x547001 => if x5 < (x547000.length : Int) then (spec_l23Size.l2 k x3 x5 0 x547000 x547001) else (some x3)
def spec_l23Size.l2 : Nat → Int → Int → Int → List (S64) → List (S78) → Option (Int)
 | 0, _, _, _, _, _ => none
 | k + 1, x3, x5, x6, x547000, x547001 => if 0 ≤ x5 then (if x5 < (x547000.length : Int) then (if x6 < (((rd_T64 x547000 x5).f3).length : Int) then (if 0 ≤ x6 then ((spec_l23Count.f k ((rd_T78 ((rd_T64 x547000 x5).f3) x6).f0) ((rd_T78 ((rd_T64 x547000 x5).f3) x6).f1) ((rd_T78 ((rd_T64 x547000 x5).f3) x6).f2) ((rd_T78 ((rd_T64 x547000 x5).f3) x6).f3) ((rd_T78 ((rd_T64 x547000 x5).f3) x6).f4)).bind fun t552 => (spec_l23Size.l2 k (wrap64 (x3 + t552)) x5 (wrap64 (x6 + 1)) x547000 x547001)) else (none)) else ((spec_l23Size.f k ((rd_T64 x547000 x5).f4.f0) ((rd_T64 x547000 x5).f4.f1)).bind fun t554 => ((spec_l23Size.f k ((rd_T64 x547000 x5).f5.f0) ((rd_T64 x547000 x5).f5.f1)).bind fun t556 => (spec_l23Size.l1 k (wrap64 ((wrap64 (x3 + t554)) + t556)) (wrap64 (x5 + 1)) x547000 x547001)))) else (none)) else (none)
def spec_l23Size.f : Nat → List (S64) → List (S78) → Option (Int)
 | 0, _, _ => none
 | k + 1, l0_0, l0_1 => spec_l23Size.l0 k 0 0 l0_0 l0_1
end
theorem spec_l23Size.mono_l : ∀ k, (∀ y0 y1, LeO (spec_l23Size.f k y0 y1) (spec_l23Size.f (k + 1) y0 y1)) ∧ (∀ y0 y1 y2 y3, LeO (spec_l23Size.l0 k y0 y1 y2 y3) (spec_l23Size.l0 (k + 1) y0 y1 y2 y3)) ∧ (∀ y0 y1 y2 y3, LeO (spec_l23Size.l1 k y0 y1 y2 y3) (spec_l23Size.l1 (k + 1) y0 y1 y2 y3)) ∧ (∀ y0 y1 y2 y3 y4, LeO (spec_l23Size.l2 k y0 y1 y2 y3 y4) (spec_l23Size.l2 (k + 1) y0 y1 y2 y3 y4))
 | 0 => ⟨fun _ _ r h => by simp [spec_l23Size.f] at h, fun _ _ _ _ r h => by simp [spec_l23Size.l0] at h, fun _ _ _ _ r h => by simp [spec_l23Size.l1] at h, fun _ _ _ _ _ r h => by simp [spec_l23Size.l2] at h⟩
 | k + 1 => by
  obtain ⟨ih0, ih1, ih2, ih3⟩ := spec_l23Size.mono_l k
  refine ⟨?_, ?_, ?_, ?_⟩
  ·intro y0 y1
   unfold spec_l23Size.f
   repeat' first
   | (with_reducible exact ih0 _ _)
   | (with_reducible exact ih1 _ _ _ _)
   | (with_reducible exact ih2 _ _ _ _)
   | (with_reducible exact ih3 _ _ _ _ _)
   | (with_reducible exact spec_l23Count.mono _ _ _ _ _ _)
   | (with_reducible exact LeO.refl _)
   | (with_reducible exact LeO.none _)
   | (with_reducible refine LeO.ite ?_ ?_)
   | (with_reducible refine LeO.bind ?_ (fun _ => ?_))
   | exact ih0 _ _
   | exact ih1 _ _ _ _
   | exact ih2 _ _ _ _
   | exact ih3 _ _ _ _ _
   | exact spec_l23Count.mono _ _ _ _ _ _
   | exact LeO.none _
   | refine LeO.ite ?_ ?_
   | refine LeO.bind ?_ (fun _ => ?_)
  ·intro y0 y1 y2 y3
   unfold spec_l23Size.l0
   repeat' first
   | (with_reducible exact ih0 _ _)
   | (with_reducible exact ih1 _ _ _ _)
   | (with_reducible exact ih2 _ _ _ _)
   | (with_reducible exact ih3 _ _ _ _ _)
   | (with_reducible exact spec_l23Count.mono _ _ _ _ _ _)
   | (with_reducible exact LeO.refl _)
   | (with_reducible exact LeO.none _)
   | (with_reducible refine LeO.ite ?_ ?_)
   | (with_reducible refine LeO.bind ?_ (fun _ => ?_))
   | exact ih0 _ _
   | exact ih1 _ _ _ _
   | exact ih2 _ _ _ _
   | exact ih3 _ _ _ _ _
   | exact spec_l23Count.mono _ _ _ _ _ _
   | exact LeO.none _
   | refine LeO.ite ?_ ?_
   | refine LeO.bind ?_ (fun _ => ?_)
  ·intro y0 y1 y2 y3
   unfold spec_l23Size.l1
   repeat' first
   | (with_reducible exact ih0 _ _)
   | (with_reducible exact ih1 _ _ _ _)
   | (with_reducible exact ih2 _ _ _ _)
   | (with_reducible exact ih3 _ _ _ _ _)
   | (with_reducible exact spec_l23Count.mono _ _ _ _ _ _)
   | (with_reducible exact LeO.refl _)
   | (with_reducible exact LeO.none _)
   | (with_reducible refine LeO.ite ?_ ?_)
   | (with_reducible refine LeO.bind ?_ (fun _ => ?_))
   | exact ih0 _ _
   | exact ih1 _ _ _ _
   | exact ih2 _ _ _ _
   | exact ih3 _ _ _ _ _
   | exact spec_l23Count.mono _ _ _ _ _ _
   | exact LeO.none _
   | refine LeO.ite ?_ ?_
   | refine LeO.bind ?_ (fun _ => ?_)
  ·intro y0 y1 y2 y3 y4
   unfold spec_l23Size.l2
   repeat' first
   | (with_reducible exact ih0 _ _)
   | (with_reducible exact ih1 _ _ _ _)
   | (with_reducible exact ih2 _ _ _ _)
   | (with_reducible exact ih3 _ _ _ _ _)
   | (with_reducible exact spec_l23Count.mono _ _ _ _ _ _)
   | (with_reducible exact LeO.refl _)
   | (with_reducible exact LeO.none _)
   | (with_reducible refine LeO.ite ?_ ?_)
   | (with_reducible refine LeO.bind ?_ (fun _ => ?_))
   | exact ih0 _ _
   | exact ih1 _ _ _ _
   | exact ih2 _ _ _ _
   | exact ih3 _ _ _ _ _
   | exact spec_l23Count.mono _ _ _ _ _ _
   | exact LeO.none _
   | refine LeO.ite ?_ ?_
   | refine LeO.bind ?_ (fun _ => ?_)
theorem spec_l23Size.mono : ∀ a0 a1 k, LeO (spec_l23Size.f k a0 a1) (spec_l23Size.f (k + 1) a0 a1) := by
 intro a0 a1 k
 obtain ⟨ih0, ih1, ih2, ih3⟩ := spec_l23Size.mono_l k
 exact ih0 a0 a1
def spec_l23Size.T13 : Bool × List (List Nat × List Nat) := (true, [([], []), ([], []), ([1], [1]), ([], []), ([2, 3], [2, 3]), ([4], [4]), ([5], [5]), ([6], [6]), ([0, 7], [0, 7]), ([], []), ([9], [9]), ([], []), ([10, 11], [10, 11]), ([12], [12]), ([13], [13]), ([14, 7], [14]), ([8, 15], [8, 15]), ([16, 15, 0, 1, 2, 3, 4, 5, 6, 7, 8, 9, 10, 11, 12, 13, 14, 15, 16], [0, 16])])
def spec_l23Size.B13 : List Nat := [0, 0, 2, 0, 14, 30, 62, 126, 255, 0, 512, 0, 3584, 7680, 15872, 32510, 65535, 131071]
theorem spec_l23Size.tab13 : rtab .any (opsOf Try.f29 13) = spec_l23Size.T13 := by kernel_rfl
theorem spec_l23Size.bits13 : waitsOk spec_l23Size.T13.2 spec_l23Size.B13 = true := by kernel_rfl
set_option maxHeartbeats 8000000 in
set_option maxRecDepth 100000 in
theorem spec_l23Size.calls (k : Nat) : ∀ (A0_0 : Option Addr) (c0_0 : Nat) (l0_0 : List (S64)) (A0_1 : Option Addr) (c0_1 : Nat) (l0_1 : List (S78)) (r : Int) (w : World) (hr0_0 : Kd.C k64 w A0_0 l0_0.length l0_0) (hc0_0 : l0_0.length ≤ c0_0) (hr0_1 : Kd.C k78 w A0_1 l0_1.length l0_1) (hc0_1 : l0_1.length ≤ c0_1) (h : spec_l23Size.f k l0_0 l0_1 = some r),
  Calls Try.prog 29 #[.agg #[.slice A0_0 l0_0.length c0_0, .slice A0_1 l0_1.length c0_1]] w fun e w' => e = .returned (.int .i64 r) ∧ Below w.heap.size w w' := by
 induction k using Nat.strongRecOn with
 | _ k ih =>
 intro A0_0 c0_0 l0_0 A0_1 c0_1 l0_1 r w hr0_0 hc0_0 hr0_1 hc0_1 h
 cases k with
 | zero => exact absurd h (by simp [spec_l23Size.f])
 | succ k =>
 simp only [spec_l23Size.f] at h
 have hu43 := Try.underlying43
 have hu78 := Try.underlying78
 have HR0_0 := Aside0.mk hr0_0
 have HC0_0 := Aside0.mk hc0_0
 clear hr0_0 hc0_0
 have HR0_1 := Aside0.mk hr0_1
 have HC0_1 := Aside0.mk hc0_1
 clear hr0_1 hc0_1
 have HB := Aside0.mk (Below.refl w.heap.size w)
 have H : (spec_l23Size.l0 k 0 0 l0_0 l0_1) = some r := h
 clear h
 have H' := Aside0.mk H
 clear H
 go_enter Try.func29, Try.ntmps29
 go_wp2_with (first | ((with_reducible refine gate_dst (N := 1) rfl ?_); refine zbx 1 #[.slice A0_0 l0_0.length c0_0, .slice A0_1 l0_1.length c0_1] 43 ?_; intro gb546 hg w2 hbox hb; have BK546 := Aside0.mk hbox; have GW546 := Aside0.mk ((y9 hg HB.out : w.heap.size ≤ gb546)); have GE546 := Aside0.mk ((y9 hg HB.out : w.heap.size ≤ gb546)); replace HB := Aside0.mk (below_step (y1 HB.out) hb); clear hb hbox hg))
 go_loopg [3, 4] k (fun kq v3 v4 w' => ∃ (x3_1 : Int) (x4_1 : Int), v3 = .int .i64 x3_1 ∧ v4 = .int .i64 x4_1 ∧ Aside0 (spec_l23Size.l0 kq x3_1 x4_1 l0_0 l0_1 = some r) ∧ Aside0 (kq ≤ k) ∧ Aside0 (w'.heap[gb546]? = some (.cells #[(.slice A0_0 l0_0.length c0_0), (.slice A0_1 l0_1.length c0_1)] 43 (0, 0))) ∧ Aside0 (Below w.heap.size w w'))
 case atStart => exact ⟨(0), (0), y7, y7, H', ⟨Nat.le_refl _⟩, ⟨(y8 BK546.out)⟩, ⟨(y2 HB.out GE546.out)⟩⟩
 case round =>
  clear H'
  try clear c2
  try clear p2
  (try clear BK546)
  obtain ⟨x3_1, x4_1, rfl, rfl, HA, HK1, BK546, HB⟩ := hrel
  cases gk with
  | zero => exact absurd HA.out (by simp [spec_l23Size.l0])
  | succ k1 =>
   have H := HA.out
   clear HA
   simp only [spec_l23Size.l0] at H
   by_cases c3 : x4_1 < (l0_1.length : Int)
   ·rw [if_pos c3] at H
    have c3b0 : decide (x4_1 < (l0_1.length : Int)) = true := decide_eq_true c3
    clear c3
    by_cases c4 : 0 ≤ x4_1
    ·rw [if_pos c4] at H
     have c4b0 : decide (0 ≤ x4_1) = true := decide_eq_true c4
     clear c4
     obtain ⟨t548, A50, H⟩ := ob H
     have A5 := Aside0.mk A50
     clear A50
     have H' := Aside0.mk H
     clear H
     have hcz6_0 := zh BK546
     have hcz6_1 := zh1 BK546
     have hfz6_0 := zfr BK546 0
     have hfz6_1 := zfr BK546 1
     have p547 : 0 ≤ (x4_1 : Int) := of_decide_eq_true y4
     have q547 : x4_1 < (l0_1.length : Int) := of_decide_eq_true y4
     obtain ⟨ad547, A547_3, c547_3, A547_4, c547_4, e547, hx547_0, hx547_1, hx547_2, hx547_3, hx547_4, hl547_3, hi547_3, hl547_4, hi547_4⟩ := at_T78 HR0_1.out x4_1 p547 q547
     cases e547
     replace hx547_0 := (HB.out.cell (World.block_lt_of_cell? w _ hx547_0)).trans hx547_0
     replace hx547_1 := (HB.out.cell (World.block_lt_of_cell? w _ hx547_1)).trans hx547_1
     replace hx547_2 := (HB.out.cell (World.block_lt_of_cell? w _ hx547_2)).trans hx547_2
     replace hx547_3 := (HB.out.cell (World.block_lt_of_cell? w _ hx547_3)).trans hx547_3
     replace hx547_4 := (HB.out.cell (World.block_lt_of_cell? w _ hx547_4)).trans hx547_4
     have HR547_3 := Aside0.mk hi547_3
     have HC547_3 := Aside0.mk hl547_3
     clear hi547_3 hl547_3
     have HR547_4 := Aside0.mk hi547_4
     have HC547_4 := Aside0.mk hl547_4
     clear hi547_4 hl547_4
     replace p547 := eq_true p547
     replace q547 := eq_true q547
     go_wp2_with (first | ((with_reducible refine gate_callee (f := 45) rfl ?_); refine goesL_ (some 20) rfl rfl Try.func45 (by kernel_rfl) rfl #[.agg #[.int .i64 ((rd_T78 l0_1 x4_1).f0), .int .i64 ((rd_T78 l0_1 x4_1).f1), .string ((rd_T78 l0_1 x4_1).f2), .slice A547_3 ((rd_T78 l0_1 x4_1).f3).length c547_3, .slice A547_4 ((rd_T78 l0_1 x4_1).f4).length c547_4]] rfl y3 ?_; (with_reducible refine (spec_l23Count.calls k1 ((rd_T78 l0_1 x4_1).f0) ((rd_T78 l0_1 x4_1).f1) ((rd_T78 l0_1 x4_1).f2) _ _ ((rd_T78 l0_1 x4_1).f3) _ _ ((rd_T78 l0_1 x4_1).f4) t548 _ ?side1 ?side2 ?side3 ?side4 A5.out).mono ?_); (case side1 => exact y0 HR547_3.out HB.out); (case side2 => exact HC547_3.out); (case side3 => exact y0 HR547_4.out HB.out); (case side4 => exact HC547_4.out); rintro e w7 ⟨rfl, hb⟩; refine ⟨_, rfl, ?_⟩; replace BK546 := zbb BK546 hb; replace HB := Aside0.mk (below_step (y2 HB.out GE546.out) hb); (try clear hb); (try clear hb2); (try clear hk); (try clear hi)))
     go_roundg k1
     case measure => have := HK1.out; omega
     case rel => exact ⟨(wrap64 (x3_1 + t548)), (wrap64 (x4_1 + 1)), y7, y7, H', ⟨(y30 HK1.out)⟩, ⟨(y8 BK546.out)⟩, ⟨(y2 HB.out GE546.out)⟩⟩
    ·rw [if_neg c4] at H
     exact absurd H (by simp)
   ·rw [if_neg c3] at H
    have c3b0 : decide (x4_1 < (l0_1.length : Int)) = false := decide_eq_false c3
    clear c3
    have H' := Aside0.mk H
    clear H
    have hcz8_0 := zh BK546
    have hcz8_1 := zh1 BK546
    have hfz8_0 := zfr BK546 0
    have hfz8_1 := zfr BK546 1
    go_wp2
    go_loopg [3, 5] k1 (fun kq v3 v5 w' => ∃ (x3_2 : Int) (x5_2 : Int), v3 = .int .i64 x3_2 ∧ v5 = .int .i64 x5_2 ∧ Aside0 (spec_l23Size.l1 kq x3_2 x5_2 l0_0 l0_1 = some r) ∧ Aside0 (kq ≤ k1) ∧ Aside0 (w'.heap[gb546]? = some (.cells #[(.slice A0_0 l0_0.length c0_0), (.slice A0_1 l0_1.length c0_1)] 43 (0, 0))) ∧ Aside0 (Below w.heap.size w w'))
    case atStart => exact ⟨(x3_1), (0), y7, y7, H', ⟨Nat.le_refl _⟩, ⟨(y8 BK546.out)⟩, ⟨(y2 HB.out GE546.out)⟩⟩
    case round =>
     clear H'
     try clear c2
     try clear p2
     try clear c3
     try clear c3b0
     try clear c4
     try clear c4b0
     try clear c5
     try clear p5
     try clear q5
     try clear hx5
     try clear p6
     try clear hcz6_0
     try clear hcz6_1
     try clear hcz8_0
     try clear hcz8_1
     try clear hfz6_0
     try clear hfz6_1
     try clear hfz8_0
     try clear hfz8_1
     try clear hx547_0
     try clear hx547_1
     try clear hx547_2
     try clear hx547_3
     try clear hx547_4
     try clear p2
     try clear p547
     try clear q547
     (try clear BK546)
     obtain ⟨x3_2, x5_2, rfl, rfl, HA, HK2, BK546, HB⟩ := hrel
     cases gk with
     | zero => exact absurd HA.out (by simp [spec_l23Size.l1])
     | succ k2 =>
      have H := HA.out
      clear HA
      simp only [spec_l23Size.l1] at H
      by_cases c9 : x5_2 < (l0_0.length : Int)
      ·rw [if_pos c9] at H
       have c9b0 : decide (x5_2 < (l0_0.length : Int)) = true := decide_eq_true c9
       clear c9
       have H' := Aside0.mk H
       clear H
       have hcz10_0 := zh BK546
       have hcz10_1 := zh1 BK546
       have hfz10_0 := zfr BK546 0
       have hfz10_1 := zfr BK546 1
       go_wp2
       go_loopg [3, 6] k2 (fun kq v3 v6 w' => ∃ (x3_3 : Int) (x6_3 : Int), v3 = .int .i64 x3_3 ∧ v6 = .int .i64 x6_3 ∧ Aside0 (spec_l23Size.l2 kq x3_3 x5_2 x6_3 l0_0 l0_1 = some r) ∧ Aside0 (kq ≤ k2) ∧ Aside0 (w'.heap[gb546]? = some (.cells #[(.slice A0_0 l0_0.length c0_0), (.slice A0_1 l0_1.length c0_1)] 43 (0, 0))) ∧ Aside0 (Below w.heap.size w w'))
       case atStart => exact ⟨(x3_2), (0), y7, y7, H', ⟨Nat.le_refl _⟩, ⟨(y8 BK546.out)⟩, ⟨(y2 HB.out GE546.out)⟩⟩
       case round =>
        clear H'
        try clear c2
        try clear p2
        try clear c3
        try clear c3b0
        try clear c4
        try clear c4b0
        try clear c5
        try clear p5
        try clear q5
        try clear hx5
        try clear p6
        try clear c9
        try clear c9b0
        try clear hcz10_0
        try clear hcz10_1
        try clear hcz6_0
        try clear hcz6_1
        try clear hcz8_0
        try clear hcz8_1
        try clear hfz10_0
        try clear hfz10_1
        try clear hfz6_0
        try clear hfz6_1
        try clear hfz8_0
        try clear hfz8_1
        try clear hx547_0
        try clear hx547_1
        try clear hx547_2
        try clear hx547_3
        try clear hx547_4
        try clear p2
        try clear p5
        try clear p547
        try clear p6
        try clear q5
        try clear q547
        (try clear BK546)
        obtain ⟨x3_3, x6_3, rfl, rfl, HA, HK3, BK546, HB⟩ := hrel
        cases gk with
        | zero => exact absurd HA.out (by simp [spec_l23Size.l2])
        | succ k3 =>
         have H := HA.out
         clear HA
         simp only [spec_l23Size.l2] at H
         by_cases c11 : 0 ≤ x5_2
         ·rw [if_pos c11] at H
          have c11b0 : decide (0 ≤ x5_2) = true := decide_eq_true c11
          clear c11
          by_cases c12 : x5_2 < (l0_0.length : Int)
          ·rw [if_pos c12] at H
           have c12b0 : decide (x5_2 < (l0_0.length : Int)) = true := decide_eq_true c12
           clear c12
           by_cases c13 : x6_3 < (((rd_T64 l0_0 x5_2).f3).length : Int)
           ·rw [if_pos c13] at H
            have c13b0 : decide (x6_3 < (((rd_T64 l0_0 x5_2).f3).length : Int)) = true := decide_eq_true c13
            clear c13
            by_cases c14 : 0 ≤ x6_3
            ·rw [if_pos c14] at H
             have c14b0 : decide (0 ≤ x6_3) = true := decide_eq_true c14
             clear c14
             obtain ⟨t552, A150, H⟩ := ob H
             have A15 := Aside0.mk A150
             clear A150
             have H' := Aside0.mk H
             clear H
             have hcz16_0 := zh BK546
             have hcz16_1 := zh1 BK546
             have hfz16_0 := zfr BK546 0
             have hfz16_1 := zfr BK546 1
             have p549 : 0 ≤ (x5_2 : Int) := of_decide_eq_true y4
             have q549 : x5_2 < (l0_0.length : Int) := of_decide_eq_true y4
             obtain ⟨ad549, A549_1, c549_1, A549_3, c549_3, A549_4, c549_4, A549_5, c549_5, A549_6, c549_6, A549_7, c549_7, e549, hx549_0, hx549_1, hx549_2, hx549_3, hx549_4, hx549_5, hx549_6, hx549_7, hl549_1, hi549_1, hl549_3, hi549_3, hl549_4, hi549_4, hl549_5, hi549_5, hl549_6, hi549_6, hl549_7, hi549_7⟩ := at_T64 HR0_0.out x5_2 p549 q549
             cases e549
             replace hx549_0 := (HB.out.cell (World.block_lt_of_cell? w _ hx549_0)).trans hx549_0
             replace hx549_1 := (HB.out.cell (World.block_lt_of_cell? w _ hx549_1)).trans hx549_1
             replace hx549_2 := (HB.out.cell (World.block_lt_of_cell? w _ hx549_2)).trans hx549_2
             replace hx549_3 := (HB.out.cell (World.block_lt_of_cell? w _ hx549_3)).trans hx549_3
             replace hx549_4 := (HB.out.cell (World.block_lt_of_cell? w _ hx549_4)).trans hx549_4
             replace hx549_5 := (HB.out.cell (World.block_lt_of_cell? w _ hx549_5)).trans hx549_5
             replace hx549_6 := (HB.out.cell (World.block_lt_of_cell? w _ hx549_6)).trans hx549_6
             replace hx549_7 := (HB.out.cell (World.block_lt_of_cell? w _ hx549_7)).trans hx549_7
             have HR549_1 := Aside0.mk hi549_1
             have HC549_1 := Aside0.mk hl549_1
             clear hi549_1 hl549_1
             have HR549_3 := Aside0.mk hi549_3
             have HC549_3 := Aside0.mk hl549_3
             clear hi549_3 hl549_3
             have HR549_4 := Aside0.mk hi549_4
             have HC549_4 := Aside0.mk hl549_4
             clear hi549_4 hl549_4
             have HR549_5 := Aside0.mk hi549_5
             have HC549_5 := Aside0.mk hl549_5
             clear hi549_5 hl549_5
             have HR549_6 := Aside0.mk hi549_6
             have HC549_6 := Aside0.mk hl549_6
             clear hi549_6 hl549_6
             have HR549_7 := Aside0.mk hi549_7
             have HC549_7 := Aside0.mk hl549_7
             clear hi549_7 hl549_7
             replace p549 := eq_true p549
             replace q549 := eq_true q549
             have p550 : 0 ≤ (x5_2 : Int) := of_decide_eq_true y4
             have q550 : x5_2 < (l0_0.length : Int) := of_decide_eq_true y4
             obtain ⟨ad550, A550_1, c550_1, A550_3, c550_3, A550_4, c550_4, A550_5, c550_5, A550_6, c550_6, A550_7, c550_7, e550, hx550_0, hx550_1, hx550_2, hx550_3, hx550_4, hx550_5, hx550_6, hx550_7, hl550_1, hi550_1, hl550_3, hi550_3, hl550_4, hi550_4, hl550_5, hi550_5, hl550_6, hi550_6, hl550_7, hi550_7⟩ := at_T64 HR0_0.out x5_2 p550 q550
             obtain rfl : ad549 = ad550 := (by injection e550)
             replace hx550_0 := (HB.out.cell (World.block_lt_of_cell? w _ hx550_0)).trans hx550_0
             replace hx550_1 := (HB.out.cell (World.block_lt_of_cell? w _ hx550_1)).trans hx550_1
             replace hx550_2 := (HB.out.cell (World.block_lt_of_cell? w _ hx550_2)).trans hx550_2
             replace hx550_3 := (HB.out.cell (World.block_lt_of_cell? w _ hx550_3)).trans hx550_3
             replace hx550_4 := (HB.out.cell (World.block_lt_of_cell? w _ hx550_4)).trans hx550_4
             replace hx550_5 := (HB.out.cell (World.block_lt_of_cell? w _ hx550_5)).trans hx550_5
             replace hx550_6 := (HB.out.cell (World.block_lt_of_cell? w _ hx550_6)).trans hx550_6
             replace hx550_7 := (HB.out.cell (World.block_lt_of_cell? w _ hx550_7)).trans hx550_7
             have HR550_1 := Aside0.mk hi550_1
             have HC550_1 := Aside0.mk hl550_1
             clear hi550_1 hl550_1
             have HR550_3 := Aside0.mk hi550_3
             have HC550_3 := Aside0.mk hl550_3
             clear hi550_3 hl550_3
             have HR550_4 := Aside0.mk hi550_4
             have HC550_4 := Aside0.mk hl550_4
             clear hi550_4 hl550_4
             have HR550_5 := Aside0.mk hi550_5
             have HC550_5 := Aside0.mk hl550_5
             clear hi550_5 hl550_5
             have HR550_6 := Aside0.mk hi550_6
             have HC550_6 := Aside0.mk hl550_6
             clear hi550_6 hl550_6
             have HR550_7 := Aside0.mk hi550_7
             have HC550_7 := Aside0.mk hl550_7
             clear hi550_7 hl550_7
             replace p550 := eq_true p550
             replace q550 := eq_true q550
             have ea_ := Option.some.inj (hx549_1.symm.trans hx550_1)
             injection ea_ with ea_ en_ ec_
             subst ea_
             subst ec_
             clear en_
             have ea_ := Option.some.inj (hx549_3.symm.trans hx550_3)
             injection ea_ with ea_ en_ ec_
             subst ea_
             subst ec_
             clear en_
             have ea_ := Option.some.inj (hx549_4.symm.trans hx550_4)
             injection ea_ with ea_ en_ ec_
             subst ea_
             subst ec_
             clear en_
             have ea_ := Option.some.inj (hx549_5.symm.trans hx550_5)
             injection ea_ with ea_ en_ ec_
             subst ea_
             subst ec_
             clear en_
             have ea_ := Option.some.inj (hx549_6.symm.trans hx550_6)
             injection ea_ with ea_ en_ ec_
             subst ea_
             subst ec_
             clear en_
             have ea_ := Option.some.inj (hx549_7.symm.trans hx550_7)
             injection ea_ with ea_ en_ ec_
             subst ea_
             subst ec_
             clear en_
             have p551 : 0 ≤ (x6_3 : Int) := of_decide_eq_true y4
             have q551 : x6_3 < (((rd_T64 l0_0 x5_2).f3).length : Int) := of_decide_eq_true y4
             obtain ⟨ad551, A551_3, c551_3, A551_4, c551_4, e551, hx551_0, hx551_1, hx551_2, hx551_3, hx551_4, hl551_3, hi551_3, hl551_4, hi551_4⟩ := at_T78 HR550_3.out x6_3 p551 q551
             cases e551
             replace hx551_0 := (HB.out.cell (World.block_lt_of_cell? w _ hx551_0)).trans hx551_0
             replace hx551_1 := (HB.out.cell (World.block_lt_of_cell? w _ hx551_1)).trans hx551_1
             replace hx551_2 := (HB.out.cell (World.block_lt_of_cell? w _ hx551_2)).trans hx551_2
             replace hx551_3 := (HB.out.cell (World.block_lt_of_cell? w _ hx551_3)).trans hx551_3
             replace hx551_4 := (HB.out.cell (World.block_lt_of_cell? w _ hx551_4)).trans hx551_4
             have HR551_3 := Aside0.mk hi551_3
             have HC551_3 := Aside0.mk hl551_3
             clear hi551_3 hl551_3
             have HR551_4 := Aside0.mk hi551_4
             have HC551_4 := Aside0.mk hl551_4
             clear hi551_4 hl551_4
             replace p551 := eq_true p551
             replace q551 := eq_true q551
             go_wp2_with (first | ((with_reducible refine gate_callee (f := 45) rfl ?_); refine goesL_ (some 50) rfl rfl Try.func45 (by kernel_rfl) rfl #[.agg #[.int .i64 ((rd_T78 ((rd_T64 l0_0 x5_2).f3) x6_3).f0), .int .i64 ((rd_T78 ((rd_T64 l0_0 x5_2).f3) x6_3).f1), .string ((rd_T78 ((rd_T64 l0_0 x5_2).f3) x6_3).f2), .slice A551_3 ((rd_T78 ((rd_T64 l0_0 x5_2).f3) x6_3).f3).length c551_3, .slice A551_4 ((rd_T78 ((rd_T64 l0_0 x5_2).f3) x6_3).f4).length c551_4]] rfl y3 ?_; (with_reducible refine (spec_l23Count.calls k3 ((rd_T78 ((rd_T64 l0_0 x5_2).f3) x6_3).f0) ((rd_T78 ((rd_T64 l0_0 x5_2).f3) x6_3).f1) ((rd_T78 ((rd_T64 l0_0 x5_2).f3) x6_3).f2) _ _ ((rd_T78 ((rd_T64 l0_0 x5_2).f3) x6_3).f3) _ _ ((rd_T78 ((rd_T64 l0_0 x5_2).f3) x6_3).f4) t552 _ ?side1 ?side2 ?side3 ?side4 A15.out).mono ?_); (case side1 => exact y0 HR551_3.out HB.out); (case side2 => exact HC551_3.out); (case side3 => exact y0 HR551_4.out HB.out); (case side4 => exact HC551_4.out); rintro e w17 ⟨rfl, hb⟩; refine ⟨_, rfl, ?_⟩; replace BK546 := zbb BK546 hb; replace HB := Aside0.mk (below_step (y2 HB.out GE546.out) hb); (try clear hb); (try clear hb2); (try clear hk); (try clear hi)))
             go_roundg k3
             case measure => have := HK1.out; have := HK2.out; have := HK3.out; omega
             case rel => exact ⟨(wrap64 (x3_3 + t552)), (wrap64 (x6_3 + 1)), y7, y7, H', ⟨(y35 HK1.out HK2.out HK3.out)⟩, ⟨(y8 BK546.out)⟩, ⟨(y2 HB.out GE546.out)⟩⟩
            ·rw [if_neg c14] at H
             exact absurd H (by simp)
           ·rw [if_neg c13] at H
            have c13b0 : decide (x6_3 < (((rd_T64 l0_0 x5_2).f3).length : Int)) = false := decide_eq_false c13
            clear c13
            obtain ⟨t554, A180, H⟩ := ob H
            have A18 := Aside0.mk A180
            clear A180
            obtain ⟨t556, A190, H⟩ := ob H
            have A19 := Aside0.mk A190
            clear A190
            have H' := Aside0.mk H
            clear H
            have hcz20_0 := zh BK546
            have hcz20_1 := zh1 BK546
            have hfz20_0 := zfr BK546 0
            have hfz20_1 := zfr BK546 1
            have p549 : 0 ≤ (x5_2 : Int) := of_decide_eq_true y4
            have q549 : x5_2 < (l0_0.length : Int) := of_decide_eq_true y4
            obtain ⟨ad549, A549_1, c549_1, A549_3, c549_3, A549_4, c549_4, A549_5, c549_5, A549_6, c549_6, A549_7, c549_7, e549, hx549_0, hx549_1, hx549_2, hx549_3, hx549_4, hx549_5, hx549_6, hx549_7, hl549_1, hi549_1, hl549_3, hi549_3, hl549_4, hi549_4, hl549_5, hi549_5, hl549_6, hi549_6, hl549_7, hi549_7⟩ := at_T64 HR0_0.out x5_2 p549 q549
            cases e549
            replace hx549_0 := (HB.out.cell (World.block_lt_of_cell? w _ hx549_0)).trans hx549_0
            replace hx549_1 := (HB.out.cell (World.block_lt_of_cell? w _ hx549_1)).trans hx549_1
            replace hx549_2 := (HB.out.cell (World.block_lt_of_cell? w _ hx549_2)).trans hx549_2
            replace hx549_3 := (HB.out.cell (World.block_lt_of_cell? w _ hx549_3)).trans hx549_3
            replace hx549_4 := (HB.out.cell (World.block_lt_of_cell? w _ hx549_4)).trans hx549_4
            replace hx549_5 := (HB.out.cell (World.block_lt_of_cell? w _ hx549_5)).trans hx549_5
            replace hx549_6 := (HB.out.cell (World.block_lt_of_cell? w _ hx549_6)).trans hx549_6
            replace hx549_7 := (HB.out.cell (World.block_lt_of_cell? w _ hx549_7)).trans hx549_7
            have HR549_1 := Aside0.mk hi549_1
            have HC549_1 := Aside0.mk hl549_1
            clear hi549_1 hl549_1
            have HR549_3 := Aside0.mk hi549_3
            have HC549_3 := Aside0.mk hl549_3
            clear hi549_3 hl549_3
            have HR549_4 := Aside0.mk hi549_4
            have HC549_4 := Aside0.mk hl549_4
            clear hi549_4 hl549_4
            have HR549_5 := Aside0.mk hi549_5
            have HC549_5 := Aside0.mk hl549_5
            clear hi549_5 hl549_5
            have HR549_6 := Aside0.mk hi549_6
            have HC549_6 := Aside0.mk hl549_6
            clear hi549_6 hl549_6
            have HR549_7 := Aside0.mk hi549_7
            have HC549_7 := Aside0.mk hl549_7
            clear hi549_7 hl549_7
            replace p549 := eq_true p549
            replace q549 := eq_true q549
            try go_wp2
            replace BK546 := Aside0.mk (blk_drew BK546.out)
            replace HB := Aside0.mk (below_drew1 HB.out)
            have p553 : 0 ≤ (x5_2 : Int) := of_decide_eq_true y4
            have q553 : x5_2 < (l0_0.length : Int) := of_decide_eq_true y4
            obtain ⟨ad553, A553_1, c553_1, A553_3, c553_3, A553_4, c553_4, A553_5, c553_5, A553_6, c553_6, A553_7, c553_7, e553, hx553_0, hx553_1, hx553_2, hx553_3, hx553_4, hx553_5, hx553_6, hx553_7, hl553_1, hi553_1, hl553_3, hi553_3, hl553_4, hi553_4, hl553_5, hi553_5, hl553_6, hi553_6, hl553_7, hi553_7⟩ := at_T64 HR0_0.out x5_2 p553 q553
            have hw553_7 := hx553_7
            have hw553_6 := hx553_6
            have hw553_5 := hx553_5
            have hw553_4 := hx553_4
            have hw553_3 := hx553_3
            have hw553_2 := hx553_2
            have hw553_1 := hx553_1
            have hw553_0 := hx553_0
            obtain rfl : ad549 = ad553 := (by injection e553)
            replace hx553_0 := (HB.out.cell (World.block_lt_of_cell? w _ hx553_0)).trans hx553_0
            replace hx553_1 := (HB.out.cell (World.block_lt_of_cell? w _ hx553_1)).trans hx553_1
            replace hx553_2 := (HB.out.cell (World.block_lt_of_cell? w _ hx553_2)).trans hx553_2
            replace hx553_3 := (HB.out.cell (World.block_lt_of_cell? w _ hx553_3)).trans hx553_3
            replace hx553_4 := (HB.out.cell (World.block_lt_of_cell? w _ hx553_4)).trans hx553_4
            replace hx553_5 := (HB.out.cell (World.block_lt_of_cell? w _ hx553_5)).trans hx553_5
            replace hx553_6 := (HB.out.cell (World.block_lt_of_cell? w _ hx553_6)).trans hx553_6
            replace hx553_7 := (HB.out.cell (World.block_lt_of_cell? w _ hx553_7)).trans hx553_7
            have HR553_1 := Aside0.mk hi553_1
            have HC553_1 := Aside0.mk hl553_1
            clear hi553_1 hl553_1
            have HR553_3 := Aside0.mk hi553_3
            have HC553_3 := Aside0.mk hl553_3
            clear hi553_3 hl553_3
            have HR553_4 := Aside0.mk hi553_4
            have HC553_4 := Aside0.mk hl553_4
            clear hi553_4 hl553_4
            have HR553_5 := Aside0.mk hi553_5
            have HC553_5 := Aside0.mk hl553_5
            clear hi553_5 hl553_5
            have HR553_6 := Aside0.mk hi553_6
            have HC553_6 := Aside0.mk hl553_6
            clear hi553_6 hl553_6
            have HR553_7 := Aside0.mk hi553_7
            have HC553_7 := Aside0.mk hl553_7
            clear hi553_7 hl553_7
            replace p553 := eq_true p553
            replace q553 := eq_true q553
            have p555 : 0 ≤ (x5_2 : Int) := of_decide_eq_true y4
            have q555 : x5_2 < (l0_0.length : Int) := of_decide_eq_true y4
            obtain ⟨ad555, A555_1, c555_1, A555_3, c555_3, A555_4, c555_4, A555_5, c555_5, A555_6, c555_6, A555_7, c555_7, e555, hx555_0, hx555_1, hx555_2, hx555_3, hx555_4, hx555_5, hx555_6, hx555_7, hl555_1, hi555_1, hl555_3, hi555_3, hl555_4, hi555_4, hl555_5, hi555_5, hl555_6, hi555_6, hl555_7, hi555_7⟩ := at_T64 HR0_0.out x5_2 p555 q555
            have hw555_7 := hx555_7
            have hw555_6 := hx555_6
            have hw555_5 := hx555_5
            have hw555_4 := hx555_4
            have hw555_3 := hx555_3
            have hw555_2 := hx555_2
            have hw555_1 := hx555_1
            have hw555_0 := hx555_0
            obtain rfl : ad549 = ad555 := (by injection e555)
            replace hx555_0 := (HB.out.cell (World.block_lt_of_cell? w _ hx555_0)).trans hx555_0
            replace hx555_1 := (HB.out.cell (World.block_lt_of_cell? w _ hx555_1)).trans hx555_1
            replace hx555_2 := (HB.out.cell (World.block_lt_of_cell? w _ hx555_2)).trans hx555_2
            replace hx555_3 := (HB.out.cell (World.block_lt_of_cell? w _ hx555_3)).trans hx555_3
            replace hx555_4 := (HB.out.cell (World.block_lt_of_cell? w _ hx555_4)).trans hx555_4
            replace hx555_5 := (HB.out.cell (World.block_lt_of_cell? w _ hx555_5)).trans hx555_5
            replace hx555_6 := (HB.out.cell (World.block_lt_of_cell? w _ hx555_6)).trans hx555_6
            replace hx555_7 := (HB.out.cell (World.block_lt_of_cell? w _ hx555_7)).trans hx555_7
            have HR555_1 := Aside0.mk hi555_1
            have HC555_1 := Aside0.mk hl555_1
            clear hi555_1 hl555_1
            have HR555_3 := Aside0.mk hi555_3
            have HC555_3 := Aside0.mk hl555_3
            clear hi555_3 hl555_3
            have HR555_4 := Aside0.mk hi555_4
            have HC555_4 := Aside0.mk hl555_4
            clear hi555_4 hl555_4
            have HR555_5 := Aside0.mk hi555_5
            have HC555_5 := Aside0.mk hl555_5
            clear hi555_5 hl555_5
            have HR555_6 := Aside0.mk hi555_6
            have HC555_6 := Aside0.mk hl555_6
            clear hi555_6 hl555_6
            have HR555_7 := Aside0.mk hi555_7
            have HC555_7 := Aside0.mk hl555_7
            clear hi555_7 hl555_7
            replace p555 := eq_true p555
            replace q555 := eq_true q555
            have ea_ := Option.some.inj (hx553_1.symm.trans hx555_1)
            injection ea_ with ea_ en_ ec_
            subst ea_
            subst ec_
            clear en_
            have ea_ := Option.some.inj (hx553_3.symm.trans hx555_3)
            injection ea_ with ea_ en_ ec_
            subst ea_
            subst ec_
            clear en_
            have ea_ := Option.some.inj (hx553_4.symm.trans hx555_4)
            injection ea_ with ea_ en_ ec_
            subst ea_
            subst ec_
            clear en_
            have ea_ := Option.some.inj (hx553_5.symm.trans hx555_5)
            injection ea_ with ea_ en_ ec_
            subst ea_
            subst ec_
            clear en_
            have ea_ := Option.some.inj (hx553_6.symm.trans hx555_6)
            injection ea_ with ea_ en_ ec_
            subst ea_
            subst ec_
            clear en_
            have ea_ := Option.some.inj (hx553_7.symm.trans hx555_7)
            injection ea_ with ea_ en_ ec_
            subst ea_
            subst ec_
            clear en_
            refine start_ (n := 18) (S := fun w' => w'.cell? ⟨gb546, 0, none⟩ = some (.slice (some ad549) l0_0.length c0_0) ∧ w'.cell? ⟨gb546, 1, none⟩ = some (.slice A0_1 l0_1.length c0_1) ∧ w'.cell? (ad549.add ((x5_2).toNat * 8)) = some (.int .i64 ((rd_T64 l0_0 x5_2).f0)) ∧ w'.cell? ⟨(ad549.add ((x5_2).toNat * 8)).block, (ad549.add ((x5_2).toNat * 8)).off + 1, none⟩ = some (.slice A553_1 ((rd_T64 l0_0 x5_2).f1).length c553_1) ∧ w'.cell? ⟨(ad549.add ((x5_2).toNat * 8)).block, (ad549.add ((x5_2).toNat * 8)).off + 2, none⟩ = some (.string ((rd_T64 l0_0 x5_2).f2)) ∧ w'.cell? ⟨(ad549.add ((x5_2).toNat * 8)).block, (ad549.add ((x5_2).toNat * 8)).off + 3, none⟩ = some (.slice A553_3 ((rd_T64 l0_0 x5_2).f3).length c553_3) ∧ w'.cell? ⟨(ad549.add ((x5_2).toNat * 8)).block, (ad549.add ((x5_2).toNat * 8)).off + 4, none⟩ = some (.slice A553_4 ((rd_T64 l0_0 x5_2).f4.f0).length c553_4) ∧ w'.cell? ⟨(ad549.add ((x5_2).toNat * 8)).block, (ad549.add ((x5_2).toNat * 8)).off + 5, none⟩ = some (.slice A553_5 ((rd_T64 l0_0 x5_2).f4.f1).length c553_5) ∧ w'.cell? ⟨(ad549.add ((x5_2).toNat * 8)).block, (ad549.add ((x5_2).toNat * 8)).off + 6, none⟩ = some (.slice A553_6 ((rd_T64 l0_0 x5_2).f5.f0).length c553_6) ∧ w'.cell? ⟨(ad549.add ((x5_2).toNat * 8)).block, (ad549.add ((x5_2).toNat * 8)).off + 7, none⟩ = some (.slice A553_7 ((rd_T64 l0_0 x5_2).f5.f1).length c553_7) ∧ w'.cell? (ad549.add ((x5_2).toNat * 8)) = some (.int .i64 ((rd_T64 l0_0 x5_2).f0)) ∧ w'.cell? ⟨(ad549.add ((x5_2).toNat * 8)).block, (ad549.add ((x5_2).toNat * 8)).off + 1, none⟩ = some (.slice A553_1 ((rd_T64 l0_0 x5_2).f1).length c553_1) ∧ w'.cell? ⟨(ad549.add ((x5_2).toNat * 8)).block, (ad549.add ((x5_2).toNat * 8)).off + 2, none⟩ = some (.string ((rd_T64 l0_0 x5_2).f2)) ∧ w'.cell? ⟨(ad549.add ((x5_2).toNat * 8)).block, (ad549.add ((x5_2).toNat * 8)).off + 3, none⟩ = some (.slice A553_3 ((rd_T64 l0_0 x5_2).f3).length c553_3) ∧ w'.cell? ⟨(ad549.add ((x5_2).toNat * 8)).block, (ad549.add ((x5_2).toNat * 8)).off + 4, none⟩ = some (.slice A553_4 ((rd_T64 l0_0 x5_2).f4.f0).length c553_4) ∧ w'.cell? ⟨(ad549.add ((x5_2).toNat * 8)).block, (ad549.add ((x5_2).toNat * 8)).off + 5, none⟩ = some (.slice A553_5 ((rd_T64 l0_0 x5_2).f4.f1).length c553_5) ∧ w'.cell? ⟨(ad549.add ((x5_2).toNat * 8)).block, (ad549.add ((x5_2).toNat * 8)).off + 6, none⟩ = some (.slice A553_6 ((rd_T64 l0_0 x5_2).f5.f0).length c553_6) ∧ w'.cell? ⟨(ad549.add ((x5_2).toNat * 8)).block, (ad549.add ((x5_2).toNat * 8)).off + 7, none⟩ = some (.slice A553_7 ((rd_T64 l0_0 x5_2).f5.f1).length c553_7)) (ds := []) #[false, false, false, false, false, false, false, false, false, false, false, false, false, false, false, false, false, false] (by kernel_rfl) rfl rfl ⟨(blk_cell BK546.out 0).trans rfl, (blk_cell BK546.out 1).trans rfl, ((HB.out.cell (World.block_lt_of_cell? w _ hw553_0)).trans hw553_0), ((HB.out.cell (World.block_lt_of_cell? w _ hw553_1)).trans hw553_1), ((HB.out.cell (World.block_lt_of_cell? w _ hw553_2)).trans hw553_2), ((HB.out.cell (World.block_lt_of_cell? w _ hw553_3)).trans hw553_3), ((HB.out.cell (World.block_lt_of_cell? w _ hw553_4)).trans hw553_4), ((HB.out.cell (World.block_lt_of_cell? w _ hw553_5)).trans hw553_5), ((HB.out.cell (World.block_lt_of_cell? w _ hw553_6)).trans hw553_6), ((HB.out.cell (World.block_lt_of_cell? w _ hw553_7)).trans hw553_7), ((HB.out.cell (World.block_lt_of_cell? w _ hw555_0)).trans hw555_0), ((HB.out.cell (World.block_lt_of_cell? w _ hw555_1)).trans hw555_1), ((HB.out.cell (World.block_lt_of_cell? w _ hw555_2)).trans hw555_2), ((HB.out.cell (World.block_lt_of_cell? w _ hw555_3)).trans hw555_3), ((HB.out.cell (World.block_lt_of_cell? w _ hw555_4)).trans hw555_4), ((HB.out.cell (World.block_lt_of_cell? w _ hw555_5)).trans hw555_5), ((HB.out.cell (World.block_lt_of_cell? w _ hw555_6)).trans hw555_6), ((HB.out.cell (World.block_lt_of_cell? w _ hw555_7)).trans hw555_7)⟩ (fun hHeld => ?_); refine with_tabW spec_l23Size.tab13 spec_l23Size.bits13 (fun HT_ HW_ => ?_)
            generalize wr.drew = w21 at BK546 HB HR553_1 HR553_3 HR553_4 HR553_5 HR553_6 HR553_7 HR555_1 HR555_3 HR555_4 HR555_5 HR555_6 HR555_7 hx553_0 hx553_1 hx553_2 hx553_3 hx553_4 hx553_5 hx553_6 hx553_7 hx555_0 hx555_1 hx555_2 hx555_3 hx555_4 hx555_5 hx555_6 hx555_7 hHeld ⊢
            refine zp 0 (some 52) HT_ ?_
            refine zp 1 (some 53) HT_ ?_
            refine zp 3 (some 55) HT_ ?_
            refine zp 9 (some 61) HT_ ?_
            refine zp 11 (some 63) HT_ ?_
            refine zt18 2 (some 54) HT_ HW_ hHeld ?_
            refine zp 4 (some 56) HT_ ?_
            refine zp 5 (some 57) HT_ ?_
            refine zt18 6 (some 58) HT_ HW_ hHeld ?_
            refine zt18 10 (some 62) HT_ HW_ hHeld ?_
            refine zp 12 (some 64) HT_ ?_
            refine zp 13 (some 65) HT_ ?_
            refine zt18 14 (some 66) HT_ HW_ hHeld ?_
            refine one_ (i := 7) (N := some 59) #[true, true, true, true, true, true, true, true, false, true, true, true, true, true, true, false, false, false] rfl rfl (one_of HT_.out (by kernel_rfl)) (by decide) (fun K hK => ?_)
            refine goes_ Try.func29 (by kernel_rfl) rfl #[.agg #[.slice A553_4 ((rd_T64 l0_0 x5_2).f4.f0).length c553_4, .slice A553_5 ((rd_T64 l0_0 x5_2).f4.f1).length c553_5]] (by rfl) rfl rfl y3 ?_
            with_reducible refine (ih k3 (y35 HK1.out HK2.out HK3.out) _ _ ((rd_T64 l0_0 x5_2).f4.f0) _ _ ((rd_T64 l0_0 x5_2).f4.f1) t554 _ ?side1 ?side2 ?side3 ?side4 A18.out).mono ?_
            (case side1 => exact y0 HR553_4.out HB.out)
            (case side2 => exact HC553_4.out)
            (case side3 => exact y0 HR553_5.out HB.out)
            (case side4 => exact HC553_5.out)
            rintro e w22 ⟨rfl, hb⟩
            refine ⟨_, rfl, ?_⟩
            replace BK546 := zbb BK546 hb
            replace HB := Aside0.mk (below_step (y2 HB.out GE546.out) hb)
            (try clear hb)
            (try clear hb2)
            (try clear hk)
            (try clear hi)
            refine hK.out _ _ ⟨(blk_cell BK546.out 0).trans rfl, (blk_cell BK546.out 1).trans rfl, ((HB.out.cell (World.block_lt_of_cell? w _ hw553_0)).trans hw553_0), ((HB.out.cell (World.block_lt_of_cell? w _ hw553_1)).trans hw553_1), ((HB.out.cell (World.block_lt_of_cell? w _ hw553_2)).trans hw553_2), ((HB.out.cell (World.block_lt_of_cell? w _ hw553_3)).trans hw553_3), ((HB.out.cell (World.block_lt_of_cell? w _ hw553_4)).trans hw553_4), ((HB.out.cell (World.block_lt_of_cell? w _ hw553_5)).trans hw553_5), ((HB.out.cell (World.block_lt_of_cell? w _ hw553_6)).trans hw553_6), ((HB.out.cell (World.block_lt_of_cell? w _ hw553_7)).trans hw553_7), ((HB.out.cell (World.block_lt_of_cell? w _ hw555_0)).trans hw555_0), ((HB.out.cell (World.block_lt_of_cell? w _ hw555_1)).trans hw555_1), ((HB.out.cell (World.block_lt_of_cell? w _ hw555_2)).trans hw555_2), ((HB.out.cell (World.block_lt_of_cell? w _ hw555_3)).trans hw555_3), ((HB.out.cell (World.block_lt_of_cell? w _ hw555_4)).trans hw555_4), ((HB.out.cell (World.block_lt_of_cell? w _ hw555_5)).trans hw555_5), ((HB.out.cell (World.block_lt_of_cell? w _ hw555_6)).trans hw555_6), ((HB.out.cell (World.block_lt_of_cell? w _ hw555_7)).trans hw555_7)⟩ (fun hHeld => ?_)
            clear hK K
            refine norm_ (a' := ?_) ?_ ?_
            rotate_left
            ·show Act.put _ (some 59) _ = _
             simp only [Act.put, List.setIfInBounds_toArray, List.set_cons_zero, List.set_cons_succ, i64_w, i32_w]
             rfl
            refine zp 8 (some 60) HT_ ?_
            refine one_ (i := 15) (N := some 67) #[true, true, true, true, true, true, true, true, true, true, true, true, true, true, true, true, false, false] rfl rfl (one_of HT_.out (by kernel_rfl)) (by decide) (fun K hK => ?_)
            refine goes_ Try.func29 (by kernel_rfl) rfl #[.agg #[.slice A553_6 ((rd_T64 l0_0 x5_2).f5.f0).length c553_6, .slice A553_7 ((rd_T64 l0_0 x5_2).f5.f1).length c553_7]] (by rfl) rfl rfl y3 ?_
            with_reducible refine (ih k3 (y35 HK1.out HK2.out HK3.out) _ _ ((rd_T64 l0_0 x5_2).f5.f0) _ _ ((rd_T64 l0_0 x5_2).f5.f1) t556 _ ?side1 ?side2 ?side3 ?side4 A19.out).mono ?_
            (case side1 => exact y0 HR555_6.out HB.out)
            (case side2 => exact HC555_6.out)
            (case side3 => exact y0 HR555_7.out HB.out)
            (case side4 => exact HC555_7.out)
            rintro e w23 ⟨rfl, hb⟩
            refine ⟨_, rfl, ?_⟩
            replace BK546 := zbb BK546 hb
            replace HB := Aside0.mk (below_step (y2 HB.out GE546.out) hb)
            (try clear hb)
            (try clear hb2)
            (try clear hk)
            (try clear hi)
            refine hK.out _ _ ⟨(blk_cell BK546.out 0).trans rfl, (blk_cell BK546.out 1).trans rfl, ((HB.out.cell (World.block_lt_of_cell? w _ hw553_0)).trans hw553_0), ((HB.out.cell (World.block_lt_of_cell? w _ hw553_1)).trans hw553_1), ((HB.out.cell (World.block_lt_of_cell? w _ hw553_2)).trans hw553_2), ((HB.out.cell (World.block_lt_of_cell? w _ hw553_3)).trans hw553_3), ((HB.out.cell (World.block_lt_of_cell? w _ hw553_4)).trans hw553_4), ((HB.out.cell (World.block_lt_of_cell? w _ hw553_5)).trans hw553_5), ((HB.out.cell (World.block_lt_of_cell? w _ hw553_6)).trans hw553_6), ((HB.out.cell (World.block_lt_of_cell? w _ hw553_7)).trans hw553_7), ((HB.out.cell (World.block_lt_of_cell? w _ hw555_0)).trans hw555_0), ((HB.out.cell (World.block_lt_of_cell? w _ hw555_1)).trans hw555_1), ((HB.out.cell (World.block_lt_of_cell? w _ hw555_2)).trans hw555_2), ((HB.out.cell (World.block_lt_of_cell? w _ hw555_3)).trans hw555_3), ((HB.out.cell (World.block_lt_of_cell? w _ hw555_4)).trans hw555_4), ((HB.out.cell (World.block_lt_of_cell? w _ hw555_5)).trans hw555_5), ((HB.out.cell (World.block_lt_of_cell? w _ hw555_6)).trans hw555_6), ((HB.out.cell (World.block_lt_of_cell? w _ hw555_7)).trans hw555_7)⟩ (fun hHeld => ?_)
            clear hK K
            refine norm_ (a' := ?_) ?_ ?_
            rotate_left
            ·show Act.put _ (some 67) _ = _
             simp only [Act.put, List.setIfInBounds_toArray, List.set_cons_zero, List.set_cons_succ, i64_w, i32_w]
             rfl
            refine zp 16 (some 68) HT_ ?_
            refine zp 17 (some 3) HT_ ?_
            refine done_ (done_of HT_.out (by kernel_rfl)) ?_
            try go_wp2
            go_roundg k3
            case measure => have := HK1.out; have := HK2.out; have := HK3.out; omega
            case rel => exact ⟨(wrap64 ((wrap64 (x3_3 + t554)) + t556)), (wrap64 (x5_2 + 1)), y7, y7, H', ⟨(y35 HK1.out HK2.out HK3.out)⟩, ⟨(y8 BK546.out)⟩, ⟨(y2 HB.out GE546.out)⟩⟩
          ·rw [if_neg c12] at H
           exact absurd H (by simp)
         ·rw [if_neg c11] at H
          exact absurd H (by simp)
      ·rw [if_neg c9] at H
       have c9b0 : decide (x5_2 < (l0_0.length : Int)) = false := decide_eq_false c9
       clear c9
       obtain rfl := Option.some.inj H
       have hcz24_0 := zh BK546
       have hcz24_1 := zh1 BK546
       have hfz24_0 := zfr BK546 0
       have hfz24_1 := zfr BK546 1
       go_wp2
       go_ret
       exact ⟨y6, (y2 HB.out GE546.out)⟩
end Go.Proofs.Ytdgpegkgelciaaa.PA
end
section
namespace Go.Proofs.Ytdgpegkgelciaaa.PA
open Go.RowKit Go.Proofs.YtdgpegkgelciaaaW.PrintWords Go.Proofs.YtdgpegkgelciaaaW.PrintLast Go.Proofs.YtdgpegkgelciaaaW.PrintMore
attribute [local go_sem] max2_int min2_int max_two min_two max_three min_three max_four min_four
set_option linter.unusedVariables false
set_option linter.unusedSimpArgs false
def spec_SimpSize.l0 : Nat → List (S45) → Int → Int → Option (Int)
 | 0, _, _, _ => none
 | k + 1, x0, x3, x4 => if x4 < (x0.length : Int) then (if 0 ≤ x4 then ((spec_l23Size.f k ((rd_T45 x0 x4).f2.f0) ((rd_T45 x0 x4).f2.f1)).bind fun t559 => (spec_SimpSize.l0 k x0 (wrap64 (x3 + t559)) (wrap64 (x4 + 1)))) else (none)) else (some x3)
def spec_SimpSize.f (k : Nat) (l0 : List (S45)) : Option (Int) := (spec_PureOk.f k l0).bind fun t557 => (if t557 = true then (spec_SimpSize.l0 k l0 0 0) else (some (-1)))
theorem spec_SimpSize.mono_l : ∀ k, (∀ y0 y1 y2, LeO (spec_SimpSize.l0 k y0 y1 y2) (spec_SimpSize.l0 (k + 1) y0 y1 y2))
 | 0 => fun _ _ _ r h => by simp [spec_SimpSize.l0] at h
 | k + 1 => by
  have ih0 := spec_SimpSize.mono_l k
  ·intro y0 y1 y2
   unfold spec_SimpSize.l0
   repeat' first
   | (with_reducible exact ih0 _ _ _)
   | (with_reducible exact spec_PureOk.mono _ _)
   | (with_reducible exact spec_l23Size.mono _ _ _)
   | (with_reducible exact LeO.refl _)
   | (with_reducible exact LeO.none _)
   | (with_reducible refine LeO.ite ?_ ?_)
   | (with_reducible refine LeO.bind ?_ (fun _ => ?_))
   | exact ih0 _ _ _
   | exact spec_PureOk.mono _ _
   | exact spec_l23Size.mono _ _ _
   | exact LeO.none _
   | refine LeO.ite ?_ ?_
   | refine LeO.bind ?_ (fun _ => ?_)
theorem spec_SimpSize.mono : ∀ a0 k, LeO (spec_SimpSize.f k a0) (spec_SimpSize.f (k + 1) a0) := by
 intro a0 k
 have ih0 := spec_SimpSize.mono_l k
 unfold spec_SimpSize.f
 repeat' first
   | (with_reducible exact ih0 _ _ _)
   | (with_reducible exact spec_PureOk.mono _ _)
   | (with_reducible exact spec_l23Size.mono _ _ _)
   | (with_reducible exact LeO.refl _)
   | (with_reducible exact LeO.none _)
   | (with_reducible refine LeO.ite ?_ ?_)
   | (with_reducible refine LeO.bind ?_ (fun _ => ?_))
   | exact ih0 _ _ _
   | exact spec_PureOk.mono _ _
   | exact spec_l23Size.mono _ _ _
   | exact LeO.none _
   | refine LeO.ite ?_ ?_
   | refine LeO.bind ?_ (fun _ => ?_)
set_option maxHeartbeats 8000000 in
set_option maxRecDepth 100000 in
theorem spec_SimpSize.calls (k : Nat) (A0 : Option Addr) (c0 : Nat) (l0 : List (S45)) (r : Int) (w : World) (hr0 : Kd.C k45 w A0 l0.length l0) (hc0 : l0.length ≤ c0) (h : spec_SimpSize.f k l0 = some r) :
  Calls Try.prog 13 #[.slice A0 l0.length c0] w fun e w' => e = .returned (.int .i64 r) ∧ Below w.heap.size w w' := by
 have hu43 := Try.underlying43
 have HR0 := Aside0.mk hr0
 have HC0 := Aside0.mk hc0
 clear hr0 hc0
 have HB := Aside0.mk (Below.refl w.heap.size w)
 have H : ((spec_PureOk.f k l0).bind fun t557 => (if t557 = true then (spec_SimpSize.l0 k l0 0 0) else (some (-1)))) = some r := h
 clear h
 obtain ⟨t557, A20, H⟩ := ob H
 have A2 := Aside0.mk A20
 clear A20
 have HZ3 := Aside0.mk H
 clear H
 go_enter Try.func13, Try.ntmps13
 go_upto_if 7 with (first | ((with_reducible refine gate_callee (f := 7) rfl ?_); refine goesL_ (some 6) rfl rfl Try.func7 (by kernel_rfl) rfl #[.slice A0 l0.length c0] rfl y3 ?_; (with_reducible refine (spec_PureOk.calls k _ _ l0 t557 _ ?side1 ?side2 A2.out).mono ?_); (case side1 => exact y24 HR0.out); (case side2 => exact HC0.out); rintro e w4 ⟨rfl, hb⟩; refine ⟨_, rfl, ?_⟩; replace HB := Aside0.mk (below_step (y1 HB.out) hb); (try clear hb); (try clear hb2); (try clear hk); (try clear hi)))
 (try simp only [Act.put, List.setIfInBounds_toArray, List.set_cons_zero, List.set_cons_succ])
 have H := HZ3.out
 clear HZ3
 by_cases c5 : t557 = true
 ·subst c5
  rw [if_pos rfl] at H
  have H' := Aside0.mk H
  clear H
  go_wp2
  go_loopg [3, 4] k (fun kq v3 v4 w' => ∃ (x3_1 : Int) (x4_1 : Int), v3 = .int .i64 x3_1 ∧ v4 = .int .i64 x4_1 ∧ Aside0 (spec_SimpSize.l0 kq l0 x3_1 x4_1 = some r) ∧ Aside0 (kq ≤ k) ∧ Aside0 (Below w.heap.size w w'))
  case atStart => exact ⟨(0), (0), y7, y7, H', ⟨Nat.le_refl _⟩, ⟨(y1 HB.out)⟩⟩
  case round =>
   clear H'
   try clear c1
   try clear p2
   try clear c5
   obtain ⟨x3_1, x4_1, rfl, rfl, HA, HK1, HB⟩ := hrel
   cases gk with
   | zero => exact absurd HA.out (by simp [spec_SimpSize.l0])
   | succ k1 =>
    have H := HA.out
    clear HA
    simp only [spec_SimpSize.l0] at H
    by_cases c6 : x4_1 < (l0.length : Int)
    ·rw [if_pos c6] at H
     have c6b0 : decide (x4_1 < (l0.length : Int)) = true := decide_eq_true c6
     clear c6
     (first | rw [c6b0] | (simp only [i64_w, i32_w]; rw [c6b0]) | skip)
     by_cases c7 : 0 ≤ x4_1
     ·rw [if_pos c7] at H
      have c7b0 : decide (0 ≤ x4_1) = true := decide_eq_true c7
      clear c7
      obtain ⟨t559, A80, H⟩ := ob H
      have A8 := Aside0.mk A80
      clear A80
      have H' := Aside0.mk H
      clear H
      have p558 : 0 ≤ (x4_1 : Int) := of_decide_eq_true y4
      have q558 : x4_1 < (l0.length : Int) := of_decide_eq_true y4
      obtain ⟨ad558, A558_1, c558_1, A558_2, c558_2, A558_3, c558_3, e558, hx558_0, hx558_1, hx558_2, hx558_3, hl558_1, hi558_1, hl558_2, hi558_2, hl558_3, hi558_3⟩ := at_T45 HR0.out x4_1 p558 q558
      cases e558
      replace hx558_0 := (HB.out.cell (World.block_lt_of_cell? w _ hx558_0)).trans hx558_0
      replace hx558_1 := (HB.out.cell (World.block_lt_of_cell? w _ hx558_1)).trans hx558_1
      replace hx558_2 := (HB.out.cell (World.block_lt_of_cell? w _ hx558_2)).trans hx558_2
      replace hx558_3 := (HB.out.cell (World.block_lt_of_cell? w _ hx558_3)).trans hx558_3
      have HR558_1 := Aside0.mk hi558_1
      have HC558_1 := Aside0.mk hl558_1
      clear hi558_1 hl558_1
      have HR558_2 := Aside0.mk hi558_2
      have HC558_2 := Aside0.mk hl558_2
      clear hi558_2 hl558_2
      have HR558_3 := Aside0.mk hi558_3
      have HC558_3 := Aside0.mk hl558_3
      clear hi558_3 hl558_3
      replace p558 := eq_true p558
      replace q558 := eq_true q558
      go_wp2_with (first | ((with_reducible refine gate_callee (f := 29) rfl ?_); refine goesL_ (some 20) rfl rfl Try.func29 (by kernel_rfl) rfl #[.agg #[.slice A558_2 ((rd_T45 l0 x4_1).f2.f0).length c558_2, .slice A558_3 ((rd_T45 l0 x4_1).f2.f1).length c558_3]] rfl y3 ?_; (with_reducible refine (spec_l23Size.calls k1 _ _ ((rd_T45 l0 x4_1).f2.f0) _ _ ((rd_T45 l0 x4_1).f2.f1) t559 _ ?side1 ?side2 ?side3 ?side4 A8.out).mono ?_); (case side1 => exact y0 HR558_2.out HB.out); (case side2 => exact HC558_2.out); (case side3 => exact y0 HR558_3.out HB.out); (case side4 => exact HC558_3.out); rintro e w9 ⟨rfl, hb⟩; refine ⟨_, rfl, ?_⟩; replace HB := Aside0.mk (below_step (y1 HB.out) hb); (try clear hb); (try clear hb2); (try clear hk); (try clear hi)))
      go_roundg k1
      case measure => have := HK1.out; omega
      case rel => exact ⟨(wrap64 (x3_1 + t559)), (wrap64 (x4_1 + 1)), y7, y7, H', ⟨(y30 HK1.out)⟩, ⟨(y1 HB.out)⟩⟩
     ·rw [if_neg c7] at H
      exact absurd H (by simp)
    ·rw [if_neg c6] at H
     have c6b0 : decide (x4_1 < (l0.length : Int)) = false := decide_eq_false c6
     clear c6
     (first | rw [c6b0] | (simp only [i64_w, i32_w]; rw [c6b0]) | skip)
     obtain rfl := Option.some.inj H
     go_wp2
     go_ret
     exact ⟨y6, (y1 HB.out)⟩
 ·replace c5 := Bool.eq_false_iff.mpr c5
  subst c5
  rw [if_neg (show ¬ (false = true) by decide)] at H
  obtain rfl := Option.some.inj H
  go_wp2
  go_ret
  exact ⟨y6, (y1 HB.out)⟩
end Go.Proofs.Ytdgpegkgelciaaa.PA
end
section
namespace Go.Proofs.Ytdgpegkgelciaaa.PA
open Go.RowKit Go.MapKept Go.Proofs.YtdgpegkgelciaaaW.PrintWords Go.Proofs.YtdgpegkgelciaaaW.PrintLast Go.Proofs.YtdgpegkgelciaaaW.PrintMore
theorem w64 (n : Int) (h : -9223372036854775808 ≤ n ∧ n ≤ 9223372036854775807) : wrap64 n = n := by unfold wrap64; omega
theorem HfM.run {m : Mp} {w : World} (h : HfM m w) (s : ByteArray) : (Instr.lookup 53 (.map (some m.a)) (.string s) false).run Try.prog w = .ok (.int .i64 (if nhas m.l s then 1 else 0)) w := by
  have hz : (zeroValue 3).run Try.prog w = .ok (.int .i64 0) w := by go_simp
  rw [map_lookup Try.underlying53 Try.underlying9 h hz s false]
  simp only [Mp.es, mget_es]
  cases nhas m.l s <;> rfl
set_option maxHeartbeats 2000000 in
set_option maxRecDepth 100000 in
theorem bound_calls (m : Mp) (v : Value) (s : ByteArray) (w : World) (hm : HfM m w) :
    Calls Try.prog 56 #[.agg #[v, .map (some m.a)], .string s] w fun e w' => e = .returned (.bool (nhas m.l s)) ∧ Below w.heap.size w w' := by
  have hu55 := Try.underlying55
  go_enter Try.func56, Try.ntmps56
  go_wp2_with (first | (at_lookup; refine wpList_lookup_any _ rfl _ _ _ _ rfl _ _ _ rfl rfl (HfM.run (MapIs.alloc hm _) s) ?_))
  all_goals (go_ret; exact ⟨rfl, (Below.refl _ _).alloc (Nat.le_refl _) _⟩)
theorem HfM.fv {m : Mp} {w : World} (h : HfM m w) (v : Value) : HfG ⟨.agg #[v, .map (some m.a)], nhas m.l⟩ w := fun w' hb s => bound_calls m v s w' (h.gd hb)
theorem grown_cell {w w' : World} {b : Nat} {es : Array MapEntry} {clock : Nat} (hb : w.heap[b]? = some (.map es clock)) (hg : w.grownBy w' (some b)) {a : Addr} {v : Value} (hc : w.cell? a = some v) : w'.cell? a = some v := by
  refine hg.cell hc ?_
  intro e
  injection e with e
  rw [← e] at hb
  simp [World.cell?, hb] at hc
set_option maxHeartbeats 2000000 in
set_option maxRecDepth 100000 in
theorem bind_calls (m : Mp) (v : Value) (A : Option Addr) (c : Nat) (ns : List ByteArray) (w : World) (hm : HfM m w) (hr : Kd.C Kd.string w A ns.length ns) (hn : ns.length ≤ 60) :
    Calls Try.prog 24 #[.agg #[v, .map (some m.a)], .slice A ns.length c] w fun e w' => e = .returned (.tuple #[]) ∧ HfM ⟨m.a, ns.foldl nadd m.l⟩ w' ∧ w.grownBy w' (some m.a) := by
  have hu55 := Try.underlying55
  have hu31 := Try.underlying31
  have HM := Aside0.mk hm
  have HR := Aside0.mk hr
  clear hm hr
  go_enter Try.func24, Try.ntmps24
  go_wp2
  go_loopg [8] (ns.length + 1) (fun kq v8 w' => ∃ j : Nat, v8 = .int .i64 j ∧ Aside0 (kq + j = ns.length + 1 ∧ j ≤ ns.length) ∧ Aside0 (HfM ⟨m.a, (ns.take j).foldl nadd m.l⟩ w') ∧ Aside0 ((w.alloc (.cells #[v, .map (some m.a)] 55)).grownBy w' (some m.a)))
  case atStart => exact ⟨0, rfl, ⟨rfl, Nat.zero_le _⟩, ⟨MapIs.alloc HM.out _⟩, ⟨World.grownBy.refl _ _⟩⟩
  case round =>
    obtain ⟨j, rfl, HK, HM', HG⟩ := hrel
    obtain ⟨es, clock, hes, hl⟩ := HM.out
    have hes' := (blk_alloc hes (.cells #[v, .map (some m.a)] 55))
    have hlt := HM.out.lt
    have hb0 : (w.alloc (.cells #[v, .map (some m.a)] 55)).heap[w.heap.size]? = some (.cells #[v, .map (some m.a)] 55) := by simpa using heap_alloc_new w _
    have hb1 := (HG.out.block w.heap.size (blk_lt hb0) (by intro e; injection e with e; omega)).trans hb0
    have hc1 : wr.cell? ⟨w.heap.size, 1, none⟩ = some (.map (some m.a)) := (blk_cell hb1 1).trans rfl
    cases gk with
    | zero => exact absurd HK.out (by omega)
    | succ k1 =>
      by_cases hj : j < ns.length
      · have c0 : decide ((j : Int) < (ns.length : Int)) = true := decide_eq_true (by omega)
        have c1 : decide (j < ns.length) = true := decide_eq_true hj
        have p0 : 0 ≤ (j : Int) := by omega
        have q0 : (j : Int) < (ns.length : Int) := by omega
        obtain ⟨ad, e, hx⟩ := Kd.at_string HR.out (j : Int) p0 q0
        cases e
        have hx' := grown_cell hes' HG.out (pw_cell_below ((Below.refl _ w).alloc (Nat.le_refl _) _) hx)
        rw [Int.toNat_natCast] at hx'
        replace p0 := eq_true p0
        replace q0 := eq_true q0
        go_wp2_with (first | (at_mapUpdate; refine wpList_mapUpdate_any _ rfl _ _ _ _ rfl _ _ Try.underlying53 Try.underlying9 _ _ rfl HM'.out _ (.int .i64 1) rfl rfl ?_; intro w2 hm2 hg2))
        go_roundg k1
        case measure => omega
        case rel =>
          have e0 : rdOf ByteArray.empty ns (j : Int) = ns[j] := by simp [rdOf, hj]
          have e1 : ns.take (j + 1) = ns.take j ++ [ns[j]] := by simp
          refine ⟨j + 1, by first | simp | (rw [w64 _ (by omega)]; simp), ⟨by have := HK.out; omega, hj⟩, ⟨?_⟩, ⟨HG.out.trans hg2⟩⟩
          rw [e1, List.foldl_append]
          have := hm2
          simp only [Mp.es, mput_es, e0] at this
          exact this
      · have c0 : decide ((j : Int) < (ns.length : Int)) = false := decide_eq_false (by omega)
        have c1 : decide (j < ns.length) = false := decide_eq_false hj
        go_wp2
        refine bodyPost_end (results_none rfl _ _ _) rfl ?_
        have e : ns.take j = ns := List.take_of_length_le (by omega)
        have h := HM'.out
        rw [e] at h
        exact ⟨rfl, h, (grown_of_below ((Below.refl _ _).alloc (Nat.le_refl _) _) _).trans HG.out⟩
theorem cl_eq (t k e : TypeId) (p : Option Nat) (w : World) (h : Try.prog.underlying t = some (.map k e)) : (binOp .eql t (.map p) (.map none)).run Try.prog w = .ok (.bool p.isNone) w := Go.Proofs.run_eql_map_nil_sl w t k e p h
set_option maxHeartbeats 2000000 in
set_option maxRecDepth 100000 in
theorem clone_calls (m : Mp) (w : World) (hm : HfM m w) :
    Calls Try.prog 40 #[.map (some m.a)] w fun e w' => e = .returned (.map (some w.heap.size)) ∧ HfM ⟨w.heap.size, m.l⟩ w' ∧ Below w.heap.size w w' := by
  obtain ⟨es, clock, hb, hes⟩ := hm
  have hq := fun w => Go.Proofs.run_eql_map_nil_sl (P := Try.prog) w 53 _ _ (some m.a) Try.underlying53
  have hu53 := Try.underlying53
  go_enter Try.func40, Try.ntmps40
  go_wp2
  rw [run_callFunc_extern Try.func53 (by kernel_rfl) (by kernel_rfl) (by kernel_rfl) (e := Extern.MapsClone.clone) (by kernel_rfl), Go.Proofs.run_maps_clone_sl w 53 hb]
  simp only [Result.andThen]
  rw [Oper.upon_value]
  go_wp2
  rw [Go.Proofs.run_typeAssert_map_sl _ 53 20 _ _ _ Try.underlying53]
  simp only [Result.andThen]
  rw [Oper.upon_value]
  go_wp2
  go_ret
  exact ⟨rfl, ⟨es, clock, (MapKept.heap_alloc w _).1, hes⟩, (Below.refl _ w).alloc (Nat.le_refl _) _⟩
end Go.Proofs.Ytdgpegkgelciaaa.PA
end
section
namespace Go.Proofs.Ytdgpegkgelciaaa.PA
open Go.RowKit Go.MapKept Go.Proofs.YtdgpegkgelciaaaW.PrintWords Go.Proofs.YtdgpegkgelciaaaW.PrintLast Go.Proofs.YtdgpegkgelciaaaW.PrintMore
def fmatch (name : ByteArray) (p : S45) : Bool := p.f0.toList == name.toList
def fidx (name : ByteArray) : List S45 → Int → Int
  | [], _ => -1
  | p :: l, i => if fmatch name p then i else fidx name l (i + 1)
set_option maxHeartbeats 2000000 in
set_option maxRecDepth 100000 in
theorem match_calls (g : Nat) (name : ByteArray) (p : S45) (v1 v2 v3 : Value) (w : World) (hg : w.cell? ⟨g, 0, none⟩ = some (.string name)) :
    Calls Try.prog 38 #[.agg #[.string p.f0, v1, v2, v3], .pointer (some ⟨g, 0, none⟩)] w fun e w' => e = .returned (.bool (fmatch name p)) ∧ Below w.heap.size w w' := by
  have hu45 := Try.underlying45
  have hg' : (w.alloc (.cells #[.string p.f0, v1, v2, v3] 45)).cell? ⟨g, 0, none⟩ = some (.string name) := pw_cell_below ((Below.refl _ w).alloc (Nat.le_refl _) _) hg
  go_enter Try.func38, Try.ntmps38
  go_wp2
  go_ret
  exact ⟨rfl, (Below.refl _ _).alloc (Nat.le_refl _) _⟩
set_option maxHeartbeats 4000000 in
set_option maxRecDepth 100000 in
theorem index_calls (A : Option Addr) (c : Nat) (l : List S45) (g : Nat) (name : ByteArray) (w : World) (hr : Kd.C k45 w A l.length l) (hn : l.length ≤ 10) (hg : w.cell? ⟨g, 0, none⟩ = some (.string name)) :
    Calls Try.prog 37 #[.slice A l.length c, .func (.func 38) #[] #[.pointer (some ⟨g, 0, none⟩)]] w fun e w' => e = .returned (.int .i64 (fidx name l 0)) ∧ Below w.heap.size w w' := by
  have hu45 := Try.underlying45
  have hu25 := Try.underlying25
  have HR := Aside0.mk hr
  clear hr
  go_enter Try.func37, Try.ntmps37
  go_wp2
  go_loopg [8] (l.length + 1) (fun kq v8 w' => ∃ j : Nat, v8 = .int .i64 j ∧ Aside0 (kq + j = l.length + 1 ∧ j ≤ l.length) ∧ Aside0 (fidx name l 0 = fidx name (l.drop j) j) ∧ Aside0 (Below w.heap.size w w'))
  case atStart => exact ⟨0, rfl, ⟨rfl, Nat.zero_le _⟩, ⟨rfl⟩, ⟨Below.refl _ _⟩⟩
  case round =>
    obtain ⟨j, rfl, HK, HF, HB⟩ := hrel
    cases gk with
    | zero => exact absurd HK.out (by omega)
    | succ k1 =>
      by_cases hj : j < l.length
      · have c0 : decide ((j : Int) < (l.length : Int)) = true := decide_eq_true (by omega)
        have c1 : decide (j < l.length) = true := decide_eq_true hj
        have p0 : 0 ≤ (j : Int) := by omega
        have q0 : (j : Int) < (l.length : Int) := by omega
        obtain ⟨ad, A1, c1', A2, c2', A3, c3', e, hx0, hx1, hx2, hx3, _⟩ := at_T45 HR.out (j : Int) p0 q0
        cases e
        replace hx0 := pw_cell_below HB.out hx0
        replace hx1 := pw_cell_below HB.out hx1
        replace hx2 := pw_cell_below HB.out hx2
        replace hx3 := pw_cell_below HB.out hx3
        simp only [Int.toNat_natCast] at hx0 hx1 hx2 hx3
        have hgw := pw_cell_below HB.out hg
        replace p0 := eq_true p0
        replace q0 := eq_true q0
        have e0 : l.drop j = rd_T45 l j :: l.drop (j + 1) := by rw [List.drop_eq_getElem_cons hj]; simp [rd_T45, hj]
        by_cases hm : fmatch name (rd_T45 l j) = true
        · go_wp2_with (go_at_call 38; refine (match_calls g name (rd_T45 l j) _ _ _ _ hgw).mono ?_; rintro e w2 ⟨rfl, hb2⟩)
          go_ret
          exact ⟨by rw [HF.out, e0, fidx, if_pos hm]; rfl, below_step HB.out hb2⟩
        · replace hm : fmatch name (rd_T45 l j) = false := by simpa using hm
          go_wp2_with (go_at_call 38; refine (match_calls g name (rd_T45 l j) _ _ _ _ hgw).mono ?_; rintro e w2 ⟨rfl, hb2⟩)
          go_roundg k1
          case measure => omega
          case rel => exact ⟨j + 1, by simp, ⟨by have := HK.out; omega, hj⟩, ⟨by rw [HF.out, e0, fidx, if_neg (by simp [hm])]; simp⟩, ⟨below_step HB.out hb2⟩⟩
      · have c0 : decide ((j : Int) < (l.length : Int)) = false := decide_eq_false (by omega)
        have c1 : decide (j < l.length) = false := decide_eq_false hj
        go_wp2
        go_ret
        have e : l.drop j = [] := List.drop_eq_nil_of_le (by omega)
        have h := HF.out
        rw [e] at h
        exact ⟨by rw [h]; rfl, HB.out⟩
theorem fidx_spec (name : ByteArray) : ∀ (l : List S45) (i : Nat), (fidx name l i = -1 ∧ l.find? (fmatch name) = none) ∨ ∃ j, ∃ h : j < l.length, fidx name l i = ((i + j : Nat) : Int) ∧ l.find? (fmatch name) = some l[j]
  | [], i => .inl ⟨rfl, rfl⟩
  | p :: l, i => by
    by_cases hm : fmatch name p = true
    · exact .inr ⟨0, by simp, by simp [fidx, hm], by simp [hm]⟩
    · rcases fidx_spec name l (i + 1) with ⟨h1, h2⟩ | ⟨j, h, h1, h2⟩
      · exact .inl ⟨by simpa [fidx, hm] using h1, by simp [hm, h2]⟩
      · refine .inr ⟨j + 1, by simpa using h, ?_, by simp [hm, h2]⟩
        have : fidx name (p :: l) i = fidx name l ((i + 1 : Nat) : Int) := by simp [fidx, hm]
        rw [this, h1]; congr 1; omega
def pfind (l : List S45) (name : ByteArray) : S45 × Bool := match l.find? (fmatch name) with | some p => (p, true) | none => (z45, false)
set_option maxHeartbeats 4000000 in
set_option maxRecDepth 100000 in
theorem find_calls (A : Option Addr) (c : Nat) (l : List S45) (name : ByteArray) (w : World) (hr : Kd.C k45 w A l.length l) (hn : l.length ≤ 10) :
    Calls Try.prog 21 #[.slice A l.length c, .string name] w fun e w' => (∃ A1 c1 A2 c2 A3 c3, e = .returned (.tuple #[.agg #[.string (pfind l name).1.f0, .slice A1 (pfind l name).1.f1.length c1, .slice A2 (pfind l name).1.f2.f0.length c2, .slice A3 (pfind l name).1.f2.f1.length c3], .bool (pfind l name).2])) ∧ Below w.heap.size w w' := by
  have hu45 := Try.underlying45
  have hu25 := Try.underlying25
  obtain ⟨i0, hi0, _, hsz, _⟩ := info_parts info45
  have hg0 : (w.alloc (.cells #[.string name] 9)).cell? ⟨w.heap.size, 0, none⟩ = some (.string name) := (blk_cell (by simpa using heap_alloc_new w _) 0).trans rfl
  have hg : ((w.alloc (.cells #[.string name] 9)).alloc (.cells #[.string ⟨#[]⟩, .slice none 0 0, .slice none 0 0, .slice none 0 0] 45)).cell? ⟨w.heap.size, 0, none⟩ = some (.string name) := pw_cell_below ((Below.refl _ _).alloc (Nat.le_refl _) _) hg0
  have hB : Below w.heap.size w ((w.alloc (.cells #[.string name] 9)).alloc (.cells #[.string ⟨#[]⟩, .slice none 0 0, .slice none 0 0, .slice none 0 0] 45)) := ((Below.refl _ w).alloc (Nat.le_refl _) _).alloc (by simp) _
  have hr2 := Kd.C_below hr hB
  have hbk : ((w.alloc (.cells #[.string name] 9)).alloc (.cells #[.string ⟨#[]⟩, .slice none 0 0, .slice none 0 0, .slice none 0 0] 45)).heap[w.heap.size + 1]? = some (.cells #[.string ⟨#[]⟩, .slice none 0 0, .slice none 0 0, .slice none 0 0] 45 (0, 0)) := by simpa using heap_alloc_new (w.alloc (.cells #[.string name] 9)) _
  have hix := index_calls A c l _ name _ hr2 hn hg
  rcases fidx_spec name l 0 with ⟨h1, h2⟩ | ⟨j, hj, h1, h2⟩
  · have hp : pfind l name = (z45, false) := by simp [pfind, h2]
    rw [show fidx name l 0 = -1 from h1] at hix
    go_enter Try.func21, Try.ntmps21
    go_wp2_with (go_at_call 37; refine hix.mono ?_; rintro e w2 ⟨rfl, hb2⟩; have hb3 := blk_below hbk hb2; have q0 : w2.cell? ⟨w.heap.size + 1, 0, none⟩ = some (.string ⟨#[]⟩) := (blk_cell hb3 0).trans rfl; have q1 : w2.cell? ⟨w.heap.size + 1, 1, none⟩ = some (.slice none 0 0) := (blk_cell hb3 1).trans rfl; have q2 : w2.cell? ⟨w.heap.size + 1, 2, none⟩ = some (.slice none 0 0) := (blk_cell hb3 2).trans rfl; have q3 : w2.cell? ⟨w.heap.size + 1, 3, none⟩ = some (.slice none 0 0) := (blk_cell hb3 3).trans rfl; have f0 := blk_frozen hb3 0; have f1 := blk_frozen hb3 1; have f2 := blk_frozen hb3 2; have f3 := blk_frozen hb3 3)
    refine bodyPost_ret (results_ct rfl _ _ (w.heap.size + 1) 45 #[.string ⟨#[]⟩, .slice none 0 0, .slice none 0 0, .slice none 0 0] (0, 0) _ rfl (blk_set (blk_set (blk_set (blk_set hb3 0 _) 1 _) 2 _) 3 _) Try.underlying45 rfl (by kernel_rfl)) rfl ?_
    refine ⟨⟨none, 0, none, 0, none, 0, by rw [hp]; rfl⟩, ?_⟩
    have := hB.trans (hb2.mono hB.size)
    exact (((this.setCell (by simp) _).setCell (by simp) _).setCell (by simp) _).setCell (by simp) _
  · have hp : pfind l name = (l[j], true) := by simp [pfind, h2]
    have hj' : l[j] = rd_T45 l (j : Int) := by simp [rd_T45, hj]
    rw [show fidx name l 0 = (j : Int) from by rw [show ((0 : Int) = ((0 : Nat) : Int)) from rfl, h1]; simp] at hix
    have p0 : 0 ≤ (j : Int) := by omega
    have p1 : decide ((j : Int) < 0) = false := decide_eq_false (by omega)
    have p2 : 0 ≤ (j : Int) := by omega
    have q0 : (j : Int) < (l.length : Int) := by omega
    have c1 : decide (j < l.length) = true := decide_eq_true hj
    obtain ⟨ad, A1, c1', A2, c2', A3, c3', e, hx0, hx1, hx2, hx3, _⟩ := at_T45 hr2 (j : Int) p0 q0
    cases e
    simp only [Int.toNat_natCast] at hx0 hx1 hx2 hx3
    replace p2 := eq_true p2
    replace q0 := eq_true q0
    go_enter Try.func21, Try.ntmps21
    go_wp2_with (go_at_call 37; refine hix.mono ?_; rintro e w2 ⟨rfl, hb2⟩; have hb3 := blk_below hbk hb2; have y0 := pw_cell_below hb2 hx0; have y1 := pw_cell_below hb2 hx1; have y2 := pw_cell_below hb2 hx2; have y3 := pw_cell_below hb2 hx3; have q0 : w2.cell? ⟨w.heap.size + 1, 0, none⟩ = some (.string ⟨#[]⟩) := (blk_cell hb3 0).trans rfl; have q1 : w2.cell? ⟨w.heap.size + 1, 1, none⟩ = some (.slice none 0 0) := (blk_cell hb3 1).trans rfl; have q2 : w2.cell? ⟨w.heap.size + 1, 2, none⟩ = some (.slice none 0 0) := (blk_cell hb3 2).trans rfl; have q3 : w2.cell? ⟨w.heap.size + 1, 3, none⟩ = some (.slice none 0 0) := (blk_cell hb3 3).trans rfl; have f0 := blk_frozen hb3 0; have f1 := blk_frozen hb3 1; have f2 := blk_frozen hb3 2; have f3 := blk_frozen hb3 3)
    refine bodyPost_ret (results_ct rfl _ _ (w.heap.size + 1) 45 #[.string (rd_T45 l j).f0, .slice A1 (rd_T45 l j).f1.length c1', .slice A2 (rd_T45 l j).f2.f0.length c2', .slice A3 (rd_T45 l j).f2.f1.length c3'] (0, 0) _ rfl (blk_set (blk_set (blk_set (blk_set hb3 0 _) 1 _) 2 _) 3 _) Try.underlying45 rfl (by kernel_rfl)) rfl ?_
    refine ⟨⟨A1, c1', A2, c2', A3, c3', by rw [hp, hj']; rfl⟩, ?_⟩
    have := hB.trans (hb2.mono hB.size)
    exact (((this.setCell (by simp) _).setCell (by simp) _).setCell (by simp) _).setCell (by simp) _
end Go.Proofs.Ytdgpegkgelciaaa.PA
end
section
namespace Go.Proofs.Ytdgpegkgelciaaa.PA
open Go.RowKit Go.Proofs.YtdgpegkgelciaaaW.PrintWords Go.Proofs.YtdgpegkgelciaaaW.PrintLast Go.Proofs.YtdgpegkgelciaaaW.PrintMore
def chP (c : Int) : Bool := decide ((97 ≤ c ∧ c ≤ 122) ∨ (65 ≤ c ∧ c ≤ 90) ∨ (48 ≤ c ∧ c ≤ 57) ∨ c = 95)
def pwFrom (s : ByteArray) (i : Nat) : Bool := (List.range' i (s.size - i)).all (fun j => chP (bt s j))
def pwP (s : ByteArray) : Bool := decide (1 ≤ s.size) && decide (s.size ≤ 12) && pwFrom s 0
def pnAt (l : List ByteArray) (i : Nat) : Bool := pwP (rdOf ByteArray.empty l i) && !nhas (l.take i) (rdOf ByteArray.empty l i)
def pnFrom (l : List ByteArray) (i : Nat) : Bool := (List.range' i (l.length - i)).all (pnAt l)
def pnP (l : List ByteArray) : Bool := decide (l.length ≤ 60) && pnFrom l 0
def bitP (x : Int) : Bool := decide (0 ≤ x ∧ x ≤ 1)
def pathP (l : List Int) : Bool := decide (l.length ≤ 4) && l.all bitP
def tkP (b : ByteArray → Bool) : Nat → S78 → Bool
  | 0, _ => false
  | n + 1, t =>
    (if t.f0 = 1 then decide (0 ≤ t.f1 ∧ t.f1 ≤ 9999) && t.f2.toList.isEmpty && t.f3.isEmpty && t.f4.isEmpty
      else if t.f0 = 2 then pwP t.f2 && b t.f2 && decide (t.f1 = 0) && t.f3.isEmpty && t.f4.isEmpty
      else if 3 ≤ t.f0 ∧ t.f0 ≤ 6 then decide (t.f1 = 0) && t.f2.toList.isEmpty && t.f3.isEmpty && decide (t.f4.length = 2)
      else if t.f0 = 7 then pathP t.f3 && decide (t.f1 = 0) && t.f2.toList.isEmpty && decide (t.f4.length = 1)
      else if t.f0 = 8 then pathP t.f3 && decide (t.f1 = 0) && t.f2.toList.isEmpty && decide (t.f4.length = 2)
      else false) && t.f4.all (tkP b n)
def tk8 (l : List ByteArray) (t : S78) : Bool := tkP (nhas l) 8 t
end Go.Proofs.Ytdgpegkgelciaaa.PA
end
section
namespace Go.Proofs.Ytdgpegkgelciaaa.PA
open Go.RowKit Go.Proofs.YtdgpegkgelciaaaW.PrintWords Go.Proofs.YtdgpegkgelciaaaW.PrintLast Go.Proofs.YtdgpegkgelciaaaW.PrintMore
attribute [local go_sem] max2_int min2_int max_two min_two max_three min_three max_four min_four
set_option linter.unusedVariables false
set_option linter.unusedSimpArgs false
mutual
def impl_pureName.j0 : Nat → ByteArray → Bool → Option (Bool)
 | 0, _, _ => none
 | k + 1, x0, x13 => if x13 = true then (some false) else (impl_pureName.l0 k x0 (x0.size : Int) 0)
def impl_pureName.l0 : Nat → ByteArray → Int → Int → Option (Bool)
 | 0, _, _, _ => none
 | k + 1, x0, x15, x16 => if x16 < x15 then (if 0 ≤ x16 then (if x16 < (x0.size : Int) then (if (bt x0 x16) ≥ 97 then (if (bt x0 x16) ≤ 122 then (impl_pureName.l0 k x0 x15 (wrap64 (x16 + 1))) else (if (bt x0 x16) ≥ 65 then (if ((bt x0 x16) ≤ 90) then (impl_pureName.l0 k x0 x15 (wrap64 (x16 + 1))) else (if (bt x0 x16) < 48 then (if (bt x0 x16) = 95 then (impl_pureName.l0 k x0 x15 (wrap64 (x16 + 1))) else (some false)) else (if (bt x0 x16) > 57 then (if (bt x0 x16) = 95 then (impl_pureName.l0 k x0 x15 (wrap64 (x16 + 1))) else (some false)) else (impl_pureName.l0 k x0 x15 (wrap64 (x16 + 1)))))) else (if (bt x0 x16) < 48 then (if (bt x0 x16) = 95 then (impl_pureName.l0 k x0 x15 (wrap64 (x16 + 1))) else (some false)) else (if (bt x0 x16) > 57 then (if (bt x0 x16) = 95 then (impl_pureName.l0 k x0 x15 (wrap64 (x16 + 1))) else (some false)) else (impl_pureName.l0 k x0 x15 (wrap64 (x16 + 1))))))) else (if (bt x0 x16) ≥ 65 then (if ((bt x0 x16) ≤ 90) then (impl_pureName.l0 k x0 x15 (wrap64 (x16 + 1))) else (if (bt x0 x16) < 48 then (if (bt x0 x16) = 95 then (impl_pureName.l0 k x0 x15 (wrap64 (x16 + 1))) else (some false)) else (if (bt x0 x16) > 57 then (if (bt x0 x16) = 95 then (impl_pureName.l0 k x0 x15 (wrap64 (x16 + 1))) else (some false)) else (impl_pureName.l0 k x0 x15 (wrap64 (x16 + 1)))))) else (if (bt x0 x16) < 48 then (if (bt x0 x16) = 95 then (impl_pureName.l0 k x0 x15 (wrap64 (x16 + 1))) else (some false)) else (if (bt x0 x16) > 57 then (if (bt x0 x16) = 95 then (impl_pureName.l0 k x0 x15 (wrap64 (x16 + 1))) else (some false)) else (impl_pureName.l0 k x0 x15 (wrap64 (x16 + 1))))))) else (none)) else (none)) else (some true)
end
def impl_pureName.f (k : Nat) (a0 : ByteArray) : Option (Bool) := if (a0.size : Int) < 1 then (impl_pureName.j0 k a0 true) else (impl_pureName.j0 k a0 (decide ((a0.size : Int) > 12)))
theorem impl_pureName.mono_l : ∀ k, (∀ y0 y1, LeO (impl_pureName.j0 k y0 y1) (impl_pureName.j0 (k + 1) y0 y1)) ∧ (∀ y0 y1 y2, LeO (impl_pureName.l0 k y0 y1 y2) (impl_pureName.l0 (k + 1) y0 y1 y2))
 | 0 => ⟨fun _ _ r h => by simp [impl_pureName.j0] at h, fun _ _ _ r h => by simp [impl_pureName.l0] at h⟩
 | k + 1 => by
  obtain ⟨ih0, ih1⟩ := impl_pureName.mono_l k
  refine ⟨?_, ?_⟩
  ·intro y0 y1
   unfold impl_pureName.j0
   repeat' first
   | (with_reducible exact ih0 _ _)
   | (with_reducible exact ih1 _ _ _)
   | (with_reducible exact LeO.refl _)
   | (with_reducible exact LeO.none _)
   | (with_reducible refine LeO.ite ?_ ?_)
   | (with_reducible refine LeO.bind ?_ (fun _ => ?_))
   | exact ih0 _ _
   | exact ih1 _ _ _
   | exact LeO.none _
   | refine LeO.ite ?_ ?_
   | refine LeO.bind ?_ (fun _ => ?_)
  ·intro y0 y1 y2
   unfold impl_pureName.l0
   repeat' first
   | (with_reducible exact ih0 _ _)
   | (with_reducible exact ih1 _ _ _)
   | (with_reducible exact LeO.refl _)
   | (with_reducible exact LeO.none _)
   | (with_reducible refine LeO.ite ?_ ?_)
   | (with_reducible refine LeO.bind ?_ (fun _ => ?_))
   | exact ih0 _ _
   | exact ih1 _ _ _
   | exact LeO.none _
   | refine LeO.ite ?_ ?_
   | refine LeO.bind ?_ (fun _ => ?_)
theorem impl_pureName.mono : ∀ a0 k, LeO (impl_pureName.f k a0) (impl_pureName.f (k + 1) a0) := by
 intro a0 k
 obtain ⟨ih0, ih1⟩ := impl_pureName.mono_l k
 unfold impl_pureName.f
 repeat' first
   | (with_reducible exact ih0 _ _)
   | (with_reducible exact ih1 _ _ _)
   | (with_reducible exact LeO.refl _)
   | (with_reducible exact LeO.none _)
   | (with_reducible refine LeO.ite ?_ ?_)
   | (with_reducible refine LeO.bind ?_ (fun _ => ?_))
   | exact ih0 _ _
   | exact ih1 _ _ _
   | exact LeO.none _
   | refine LeO.ite ?_ ?_
   | refine LeO.bind ?_ (fun _ => ?_)
set_option maxHeartbeats 8000000 in
set_option maxRecDepth 100000 in
theorem impl_pureName.calls (k : Nat) (a0 : ByteArray) (r : Bool) (w : World) (h : impl_pureName.f k a0 = some r) :
  Calls Try.prog 22 #[.string a0] w fun e w' => e = .returned (.bool r) ∧ Drawn0 w w' := by
 have H : (if (a0.size : Int) < 1 then (impl_pureName.j0 k a0 true) else (impl_pureName.j0 k a0 (decide ((a0.size : Int) > 12)))) = some r := h
 clear h
 have HC2 := Aside0.mk H
 clear H
 go_enter Try.func22, Try.ntmps22
 go_upto_region 1 with (fail)
 go_cut [13] (fun v13 wc => ∃ (kq : Nat) (x13_1 : Bool), v13 = .bool x13_1 ∧ Aside0 (impl_pureName.j0 kq a0 x13_1 = some r) ∧ Aside0 (kq ≤ k) ∧ Drawn0 w wc)
 case first =>
  have H := HC2.out
  clear HC2
  by_cases c3 : (a0.size : Int) < 1
  ·rw [if_pos c3] at H
   have c3b0 : decide ((a0.size : Int) < 1) = true := decide_eq_true c3
   have c3b1 : decide (a0.size < 1) = true := decide_eq_true (by omega)
   clear c3
   (first | rw [c3b0] | (simp only [i64_w, i32_w]; rw [c3b0]) | skip)
   have H' := Aside0.mk H
   clear H
   go_wp2
   go_meet
   case rel => exact ⟨_, (true), y7, H', ⟨y33⟩, y12⟩
  ·rw [if_neg c3] at H
   have c3b0 : decide ((a0.size : Int) < 1) = false := decide_eq_false c3
   have c3b1 : decide (a0.size < 1) = false := decide_eq_false (by omega)
   clear c3
   (first | rw [c3b0] | (simp only [i64_w, i32_w]; rw [c3b0]) | skip)
   have H' := Aside0.mk H
   clear H
   go_wp2
   go_meet
   case rel => exact ⟨_, (decide ((a0.size : Int) > 12)), y7, H', ⟨y33⟩, y12⟩
 case rest =>
  clear HC2
  try clear c2
  try clear p2
  try clear c3
  try clear c3b0
  try clear c3b1
  obtain ⟨kq, x13_1, rfl, HA, HJ1, ⟨mc1, rfl⟩⟩ := hcut
  cases kq with
  | zero => exact absurd HA.out (by simp [impl_pureName.j0])
  | succ kj1 =>
   have H := HA.out
   clear HA
   simp only [impl_pureName.j0] at H
   by_cases c4 : x13_1 = true
   ·subst c4
    rw [if_pos rfl] at H
    obtain rfl := Option.some.inj H
    go_wp2
    go_ret
    exact ⟨y7, y12⟩
   ·replace c4 := Bool.eq_false_iff.mpr c4
    subst c4
    rw [if_neg (show ¬ (false = true) by decide)] at H
    have H' := Aside0.mk H
    clear H
    go_wp2
    go_loopg [16] kj1 (fun kq v16 w' => ∃ (x16_2 : Int), v16 = .int .i64 x16_2 ∧ Aside0 (impl_pureName.l0 kq a0 (a0.size : Int) x16_2 = some r) ∧ Aside0 (kq ≤ kj1) ∧ Drawn0 w w')
    case atStart => exact ⟨(0), y7, H', ⟨Nat.le_refl _⟩, y12⟩
    case round =>
     clear H'
     try clear c1
     try clear c2
     try clear p2
     try clear c3
     try clear c3b0
     try clear c3b1
     try clear c4
     try clear p2
     obtain ⟨x16_2, rfl, HA, HK2, ⟨m2, rfl⟩⟩ := hrel
     cases gk with
     | zero => exact absurd HA.out (by simp [impl_pureName.l0])
     | succ k2 =>
      have H := HA.out
      clear HA
      simp only [impl_pureName.l0] at H
      by_cases c5 : x16_2 < (a0.size : Int)
      ·rw [if_pos c5] at H
       have c5b0 : decide (x16_2 < (a0.size : Int)) = true := decide_eq_true c5
       clear c5
       by_cases c6 : 0 ≤ x16_2
       ·rw [if_pos c6] at H
        have c6b0 : decide (0 ≤ x16_2) = true := decide_eq_true c6
        clear c6
        by_cases c7 : x16_2 < (a0.size : Int)
        ·rw [if_pos c7] at H
         have c7b0 : decide (x16_2 < (a0.size : Int)) = true := decide_eq_true c7
         clear c7
         by_cases c9 : (bt a0 x16_2) ≥ 97
         ·rw [if_pos c9] at H
          have c9b0 : decide (97 ≤ (bt a0 x16_2)) = true := decide_eq_true c9
          clear c9
          by_cases c10 : (bt a0 x16_2) ≤ 122
          ·rw [if_pos c10] at H
           have c10b0 : decide ((bt a0 x16_2) ≤ 122) = true := decide_eq_true c10
           clear c10
           have H' := Aside0.mk H
           clear H
           have p8 : 0 ≤ (x16_2 : Int) := of_decide_eq_true y4
           have q8 : x16_2 < (a0.size : Int) := of_decide_eq_true y4
           have hx8 := bt_at a0 x16_2
           replace p8 := eq_true p8
           replace q8 := eq_true q8
           go_wp2
           go_roundg k2
           case measure => have := HJ1.out; have := HK2.out; omega
           case rel => exact ⟨(wrap64 (x16_2 + 1)), y7, H', ⟨(y25 HJ1.out HK2.out)⟩, y12⟩
          ·rw [if_neg c10] at H
           have c10b0 : decide ((bt a0 x16_2) ≤ 122) = false := decide_eq_false c10
           clear c10
           by_cases c11 : (bt a0 x16_2) ≥ 65
           ·rw [if_pos c11] at H
            have c11b0 : decide (65 ≤ (bt a0 x16_2)) = true := decide_eq_true c11
            clear c11
            by_cases c12 : ((bt a0 x16_2) ≤ 90)
            ·rw [if_pos c12] at H
             have c12b0 : decide ((bt a0 x16_2) ≤ 90) = true := decide_eq_true c12
             clear c12
             have H' := Aside0.mk H
             clear H
             have p8 : 0 ≤ (x16_2 : Int) := of_decide_eq_true y4
             have q8 : x16_2 < (a0.size : Int) := of_decide_eq_true y4
             have hx8 := bt_at a0 x16_2
             replace p8 := eq_true p8
             replace q8 := eq_true q8
             go_wp2
             go_roundg k2
             case measure => have := HJ1.out; have := HK2.out; omega
             case rel => exact ⟨(wrap64 (x16_2 + 1)), y7, H', ⟨(y25 HJ1.out HK2.out)⟩, y12⟩
            ·rw [if_neg c12] at H
             have c12b0 : decide ((bt a0 x16_2) ≤ 90) = false := decide_eq_false c12
             clear c12
             by_cases c13 : (bt a0 x16_2) < 48
             ·rw [if_pos c13] at H
              have c13b0 : decide ((bt a0 x16_2) < 48) = true := decide_eq_true c13
              clear c13
              by_cases c14 : (bt a0 x16_2) = 95
              ·rw [if_pos c14] at H
               have c14b0 : ((bt a0 x16_2) == 95) = true := beq_iff_eq.mpr c14
               have c14b1 : ((bt a0 x16_2) != 95) = false := bne_eq_false_iff_eq.mpr c14
               clear c14
               have H' := Aside0.mk H
               clear H
               have p8 : 0 ≤ (x16_2 : Int) := of_decide_eq_true y4
               have q8 : x16_2 < (a0.size : Int) := of_decide_eq_true y4
               have hx8 := bt_at a0 x16_2
               replace p8 := eq_true p8
               replace q8 := eq_true q8
               go_wp2
               go_roundg k2
               case measure => have := HJ1.out; have := HK2.out; omega
               case rel => exact ⟨(wrap64 (x16_2 + 1)), y7, H', ⟨(y25 HJ1.out HK2.out)⟩, y12⟩
              ·rw [if_neg c14] at H
               have c14b0 : ((bt a0 x16_2) == 95) = false := beq_eq_false_iff_ne.mpr c14
               have c14b1 : ((bt a0 x16_2) != 95) = true := bne_iff_ne.mpr c14
               obtain rfl := Option.some.inj H
               have p8 : 0 ≤ (x16_2 : Int) := of_decide_eq_true y4
               have q8 : x16_2 < (a0.size : Int) := of_decide_eq_true y4
               have hx8 := bt_at a0 x16_2
               replace p8 := eq_true p8
               replace q8 := eq_true q8
               go_wp2
               go_ret
               exact ⟨y7, y12⟩
             ·rw [if_neg c13] at H
              have c13b0 : decide ((bt a0 x16_2) < 48) = false := decide_eq_false c13
              clear c13
              by_cases c15 : (bt a0 x16_2) > 57
              ·rw [if_pos c15] at H
               have c15b0 : decide (57 < (bt a0 x16_2)) = true := decide_eq_true c15
               clear c15
               by_cases c16 : (bt a0 x16_2) = 95
               ·rw [if_pos c16] at H
                have c16b0 : ((bt a0 x16_2) == 95) = true := beq_iff_eq.mpr c16
                have c16b1 : ((bt a0 x16_2) != 95) = false := bne_eq_false_iff_eq.mpr c16
                clear c16
                have H' := Aside0.mk H
                clear H
                have p8 : 0 ≤ (x16_2 : Int) := of_decide_eq_true y4
                have q8 : x16_2 < (a0.size : Int) := of_decide_eq_true y4
                have hx8 := bt_at a0 x16_2
                replace p8 := eq_true p8
                replace q8 := eq_true q8
                go_wp2
                go_roundg k2
                case measure => have := HJ1.out; have := HK2.out; omega
                case rel => exact ⟨(wrap64 (x16_2 + 1)), y7, H', ⟨(y25 HJ1.out HK2.out)⟩, y12⟩
               ·rw [if_neg c16] at H
                have c16b0 : ((bt a0 x16_2) == 95) = false := beq_eq_false_iff_ne.mpr c16
                have c16b1 : ((bt a0 x16_2) != 95) = true := bne_iff_ne.mpr c16
                obtain rfl := Option.some.inj H
                have p8 : 0 ≤ (x16_2 : Int) := of_decide_eq_true y4
                have q8 : x16_2 < (a0.size : Int) := of_decide_eq_true y4
                have hx8 := bt_at a0 x16_2
                replace p8 := eq_true p8
                replace q8 := eq_true q8
                go_wp2
                go_ret
                exact ⟨y7, y12⟩
              ·rw [if_neg c15] at H
               have c15b0 : decide (57 < (bt a0 x16_2)) = false := decide_eq_false c15
               clear c15
               have H' := Aside0.mk H
               clear H
               have p8 : 0 ≤ (x16_2 : Int) := of_decide_eq_true y4
               have q8 : x16_2 < (a0.size : Int) := of_decide_eq_true y4
               have hx8 := bt_at a0 x16_2
               replace p8 := eq_true p8
               replace q8 := eq_true q8
               go_wp2
               go_roundg k2
               case measure => have := HJ1.out; have := HK2.out; omega
               case rel => exact ⟨(wrap64 (x16_2 + 1)), y7, H', ⟨(y25 HJ1.out HK2.out)⟩, y12⟩
           ·rw [if_neg c11] at H
            have c11b0 : decide (65 ≤ (bt a0 x16_2)) = false := decide_eq_false c11
            clear c11
            by_cases c17 : (bt a0 x16_2) < 48
            ·rw [if_pos c17] at H
             have c17b0 : decide ((bt a0 x16_2) < 48) = true := decide_eq_true c17
             clear c17
             by_cases c18 : (bt a0 x16_2) = 95
             ·rw [if_pos c18] at H
              have c18b0 : ((bt a0 x16_2) == 95) = true := beq_iff_eq.mpr c18
              have c18b1 : ((bt a0 x16_2) != 95) = false := bne_eq_false_iff_eq.mpr c18
              clear c18
              have H' := Aside0.mk H
              clear H
              have p8 : 0 ≤ (x16_2 : Int) := of_decide_eq_true y4
              have q8 : x16_2 < (a0.size : Int) := of_decide_eq_true y4
              have hx8 := bt_at a0 x16_2
              replace p8 := eq_true p8
              replace q8 := eq_true q8
              go_wp2
              go_roundg k2
              case measure => have := HJ1.out; have := HK2.out; omega
              case rel => exact ⟨(wrap64 (x16_2 + 1)), y7, H', ⟨(y25 HJ1.out HK2.out)⟩, y12⟩
             ·rw [if_neg c18] at H
              have c18b0 : ((bt a0 x16_2) == 95) = false := beq_eq_false_iff_ne.mpr c18
              have c18b1 : ((bt a0 x16_2) != 95) = true := bne_iff_ne.mpr c18
              obtain rfl := Option.some.inj H
              have p8 : 0 ≤ (x16_2 : Int) := of_decide_eq_true y4
              have q8 : x16_2 < (a0.size : Int) := of_decide_eq_true y4
              have hx8 := bt_at a0 x16_2
              replace p8 := eq_true p8
              replace q8 := eq_true q8
              go_wp2
              go_ret
              exact ⟨y7, y12⟩
            ·rw [if_neg c17] at H
             have c17b0 : decide ((bt a0 x16_2) < 48) = false := decide_eq_false c17
             clear c17
             by_cases c19 : (bt a0 x16_2) > 57
             ·rw [if_pos c19] at H
              have c19b0 : decide (57 < (bt a0 x16_2)) = true := decide_eq_true c19
              clear c19
              by_cases c20 : (bt a0 x16_2) = 95
              ·rw [if_pos c20] at H
               have c20b0 : ((bt a0 x16_2) == 95) = true := beq_iff_eq.mpr c20
               have c20b1 : ((bt a0 x16_2) != 95) = false := bne_eq_false_iff_eq.mpr c20
               clear c20
               have H' := Aside0.mk H
               clear H
               have p8 : 0 ≤ (x16_2 : Int) := of_decide_eq_true y4
               have q8 : x16_2 < (a0.size : Int) := of_decide_eq_true y4
               have hx8 := bt_at a0 x16_2
               replace p8 := eq_true p8
               replace q8 := eq_true q8
               go_wp2
               go_roundg k2
               case measure => have := HJ1.out; have := HK2.out; omega
               case rel => exact ⟨(wrap64 (x16_2 + 1)), y7, H', ⟨(y25 HJ1.out HK2.out)⟩, y12⟩
              ·rw [if_neg c20] at H
               have c20b0 : ((bt a0 x16_2) == 95) = false := beq_eq_false_iff_ne.mpr c20
               have c20b1 : ((bt a0 x16_2) != 95) = true := bne_iff_ne.mpr c20
               obtain rfl := Option.some.inj H
               have p8 : 0 ≤ (x16_2 : Int) := of_decide_eq_true y4
               have q8 : x16_2 < (a0.size : Int) := of_decide_eq_true y4
               have hx8 := bt_at a0 x16_2
               replace p8 := eq_true p8
               replace q8 := eq_true q8
               go_wp2
               go_ret
               exact ⟨y7, y12⟩
             ·rw [if_neg c19] at H
              have c19b0 : decide (57 < (bt a0 x16_2)) = false := decide_eq_false c19
              clear c19
              have H' := Aside0.mk H
              clear H
              have p8 : 0 ≤ (x16_2 : Int) := of_decide_eq_true y4
              have q8 : x16_2 < (a0.size : Int) := of_decide_eq_true y4
              have hx8 := bt_at a0 x16_2
              replace p8 := eq_true p8
              replace q8 := eq_true q8
              go_wp2
              go_roundg k2
              case measure => have := HJ1.out; have := HK2.out; omega
              case rel => exact ⟨(wrap64 (x16_2 + 1)), y7, H', ⟨(y25 HJ1.out HK2.out)⟩, y12⟩
         ·rw [if_neg c9] at H
          have c9b0 : decide (97 ≤ (bt a0 x16_2)) = false := decide_eq_false c9
          clear c9
          by_cases c21 : (bt a0 x16_2) ≥ 65
          ·rw [if_pos c21] at H
           have c21b0 : decide (65 ≤ (bt a0 x16_2)) = true := decide_eq_true c21
           clear c21
           by_cases c22 : ((bt a0 x16_2) ≤ 90)
           ·rw [if_pos c22] at H
            have c22b0 : decide ((bt a0 x16_2) ≤ 90) = true := decide_eq_true c22
            clear c22
            have H' := Aside0.mk H
            clear H
            have p8 : 0 ≤ (x16_2 : Int) := of_decide_eq_true y4
            have q8 : x16_2 < (a0.size : Int) := of_decide_eq_true y4
            have hx8 := bt_at a0 x16_2
            replace p8 := eq_true p8
            replace q8 := eq_true q8
            go_wp2
            go_roundg k2
            case measure => have := HJ1.out; have := HK2.out; omega
            case rel => exact ⟨(wrap64 (x16_2 + 1)), y7, H', ⟨(y25 HJ1.out HK2.out)⟩, y12⟩
           ·rw [if_neg c22] at H
            have c22b0 : decide ((bt a0 x16_2) ≤ 90) = false := decide_eq_false c22
            clear c22
            by_cases c23 : (bt a0 x16_2) < 48
            ·rw [if_pos c23] at H
             have c23b0 : decide ((bt a0 x16_2) < 48) = true := decide_eq_true c23
             clear c23
             by_cases c24 : (bt a0 x16_2) = 95
             ·rw [if_pos c24] at H
              have c24b0 : ((bt a0 x16_2) == 95) = true := beq_iff_eq.mpr c24
              have c24b1 : ((bt a0 x16_2) != 95) = false := bne_eq_false_iff_eq.mpr c24
              clear c24
              have H' := Aside0.mk H
              clear H
              have p8 : 0 ≤ (x16_2 : Int) := of_decide_eq_true y4
              have q8 : x16_2 < (a0.size : Int) := of_decide_eq_true y4
              have hx8 := bt_at a0 x16_2
              replace p8 := eq_true p8
              replace q8 := eq_true q8
              go_wp2
              go_roundg k2
              case measure => have := HJ1.out; have := HK2.out; omega
              case rel => exact ⟨(wrap64 (x16_2 + 1)), y7, H', ⟨(y25 HJ1.out HK2.out)⟩, y12⟩
             ·rw [if_neg c24] at H
              have c24b0 : ((bt a0 x16_2) == 95) = false := beq_eq_false_iff_ne.mpr c24
              have c24b1 : ((bt a0 x16_2) != 95) = true := bne_iff_ne.mpr c24
              obtain rfl := Option.some.inj H
              have p8 : 0 ≤ (x16_2 : Int) := of_decide_eq_true y4
              have q8 : x16_2 < (a0.size : Int) := of_decide_eq_true y4
              have hx8 := bt_at a0 x16_2
              replace p8 := eq_true p8
              replace q8 := eq_true q8
              go_wp2
              go_ret
              exact ⟨y7, y12⟩
            ·rw [if_neg c23] at H
             have c23b0 : decide ((bt a0 x16_2) < 48) = false := decide_eq_false c23
             clear c23
             by_cases c25 : (bt a0 x16_2) > 57
             ·rw [if_pos c25] at H
              have c25b0 : decide (57 < (bt a0 x16_2)) = true := decide_eq_true c25
              clear c25
              by_cases c26 : (bt a0 x16_2) = 95
              ·rw [if_pos c26] at H
               have c26b0 : ((bt a0 x16_2) == 95) = true := beq_iff_eq.mpr c26
               have c26b1 : ((bt a0 x16_2) != 95) = false := bne_eq_false_iff_eq.mpr c26
               clear c26
               have H' := Aside0.mk H
               clear H
               have p8 : 0 ≤ (x16_2 : Int) := of_decide_eq_true y4
               have q8 : x16_2 < (a0.size : Int) := of_decide_eq_true y4
               have hx8 := bt_at a0 x16_2
               replace p8 := eq_true p8
               replace q8 := eq_true q8
               go_wp2
               go_roundg k2
               case measure => have := HJ1.out; have := HK2.out; omega
               case rel => exact ⟨(wrap64 (x16_2 + 1)), y7, H', ⟨(y25 HJ1.out HK2.out)⟩, y12⟩
              ·rw [if_neg c26] at H
               have c26b0 : ((bt a0 x16_2) == 95) = false := beq_eq_false_iff_ne.mpr c26
               have c26b1 : ((bt a0 x16_2) != 95) = true := bne_iff_ne.mpr c26
               obtain rfl := Option.some.inj H
               have p8 : 0 ≤ (x16_2 : Int) := of_decide_eq_true y4
               have q8 : x16_2 < (a0.size : Int) := of_decide_eq_true y4
               have hx8 := bt_at a0 x16_2
               replace p8 := eq_true p8
               replace q8 := eq_true q8
               go_wp2
               go_ret
               exact ⟨y7, y12⟩
             ·rw [if_neg c25] at H
              have c25b0 : decide (57 < (bt a0 x16_2)) = false := decide_eq_false c25
              clear c25
              have H' := Aside0.mk H
              clear H
              have p8 : 0 ≤ (x16_2 : Int) := of_decide_eq_true y4
              have q8 : x16_2 < (a0.size : Int) := of_decide_eq_true y4
              have hx8 := bt_at a0 x16_2
              replace p8 := eq_true p8
              replace q8 := eq_true q8
              go_wp2
              go_roundg k2
              case measure => have := HJ1.out; have := HK2.out; omega
              case rel => exact ⟨(wrap64 (x16_2 + 1)), y7, H', ⟨(y25 HJ1.out HK2.out)⟩, y12⟩
          ·rw [if_neg c21] at H
           have c21b0 : decide (65 ≤ (bt a0 x16_2)) = false := decide_eq_false c21
           clear c21
           by_cases c27 : (bt a0 x16_2) < 48
           ·rw [if_pos c27] at H
            have c27b0 : decide ((bt a0 x16_2) < 48) = true := decide_eq_true c27
            clear c27
            by_cases c28 : (bt a0 x16_2) = 95
            ·rw [if_pos c28] at H
             have c28b0 : ((bt a0 x16_2) == 95) = true := beq_iff_eq.mpr c28
             have c28b1 : ((bt a0 x16_2) != 95) = false := bne_eq_false_iff_eq.mpr c28
             clear c28
             have H' := Aside0.mk H
             clear H
             have p8 : 0 ≤ (x16_2 : Int) := of_decide_eq_true y4
             have q8 : x16_2 < (a0.size : Int) := of_decide_eq_true y4
             have hx8 := bt_at a0 x16_2
             replace p8 := eq_true p8
             replace q8 := eq_true q8
             go_wp2
             go_roundg k2
             case measure => have := HJ1.out; have := HK2.out; omega
             case rel => exact ⟨(wrap64 (x16_2 + 1)), y7, H', ⟨(y25 HJ1.out HK2.out)⟩, y12⟩
            ·rw [if_neg c28] at H
             have c28b0 : ((bt a0 x16_2) == 95) = false := beq_eq_false_iff_ne.mpr c28
             have c28b1 : ((bt a0 x16_2) != 95) = true := bne_iff_ne.mpr c28
             obtain rfl := Option.some.inj H
             have p8 : 0 ≤ (x16_2 : Int) := of_decide_eq_true y4
             have q8 : x16_2 < (a0.size : Int) := of_decide_eq_true y4
             have hx8 := bt_at a0 x16_2
             replace p8 := eq_true p8
             replace q8 := eq_true q8
             go_wp2
             go_ret
             exact ⟨y7, y12⟩
           ·rw [if_neg c27] at H
            have c27b0 : decide ((bt a0 x16_2) < 48) = false := decide_eq_false c27
            clear c27
            by_cases c29 : (bt a0 x16_2) > 57
            ·rw [if_pos c29] at H
             have c29b0 : decide (57 < (bt a0 x16_2)) = true := decide_eq_true c29
             clear c29
             by_cases c30 : (bt a0 x16_2) = 95
             ·rw [if_pos c30] at H
              have c30b0 : ((bt a0 x16_2) == 95) = true := beq_iff_eq.mpr c30
              have c30b1 : ((bt a0 x16_2) != 95) = false := bne_eq_false_iff_eq.mpr c30
              clear c30
              have H' := Aside0.mk H
              clear H
              have p8 : 0 ≤ (x16_2 : Int) := of_decide_eq_true y4
              have q8 : x16_2 < (a0.size : Int) := of_decide_eq_true y4
              have hx8 := bt_at a0 x16_2
              replace p8 := eq_true p8
              replace q8 := eq_true q8
              go_wp2
              go_roundg k2
              case measure => have := HJ1.out; have := HK2.out; omega
              case rel => exact ⟨(wrap64 (x16_2 + 1)), y7, H', ⟨(y25 HJ1.out HK2.out)⟩, y12⟩
             ·rw [if_neg c30] at H
              have c30b0 : ((bt a0 x16_2) == 95) = false := beq_eq_false_iff_ne.mpr c30
              have c30b1 : ((bt a0 x16_2) != 95) = true := bne_iff_ne.mpr c30
              obtain rfl := Option.some.inj H
              have p8 : 0 ≤ (x16_2 : Int) := of_decide_eq_true y4
              have q8 : x16_2 < (a0.size : Int) := of_decide_eq_true y4
              have hx8 := bt_at a0 x16_2
              replace p8 := eq_true p8
              replace q8 := eq_true q8
              go_wp2
              go_ret
              exact ⟨y7, y12⟩
            ·rw [if_neg c29] at H
             have c29b0 : decide (57 < (bt a0 x16_2)) = false := decide_eq_false c29
             clear c29
             have H' := Aside0.mk H
             clear H
             have p8 : 0 ≤ (x16_2 : Int) := of_decide_eq_true y4
             have q8 : x16_2 < (a0.size : Int) := of_decide_eq_true y4
             have hx8 := bt_at a0 x16_2
             replace p8 := eq_true p8
             replace q8 := eq_true q8
             go_wp2
             go_roundg k2
             case measure => have := HJ1.out; have := HK2.out; omega
             case rel => exact ⟨(wrap64 (x16_2 + 1)), y7, H', ⟨(y25 HJ1.out HK2.out)⟩, y12⟩
        ·rw [if_neg c7] at H
         exact absurd H (by simp)
       ·rw [if_neg c6] at H
        exact absurd H (by simp)
      ·rw [if_neg c5] at H
       have c5b0 : decide (x16_2 < (a0.size : Int)) = false := decide_eq_false c5
       clear c5
       obtain rfl := Option.some.inj H
       go_wp2
       go_ret
       exact ⟨y7, y12⟩
end Go.Proofs.Ytdgpegkgelciaaa.PA
end
section
namespace Go.Proofs.Ytdgpegkgelciaaa.PA
open Go.RowKit Go.Proofs.YtdgpegkgelciaaaW.PrintWords Go.Proofs.YtdgpegkgelciaaaW.PrintLast Go.Proofs.YtdgpegkgelciaaaW.PrintMore
attribute [local go_sem] max2_int min2_int max_two min_two max_three min_three max_four min_four
set_option linter.unusedVariables false
set_option linter.unusedSimpArgs false
def impl_pathForm.l0 : Nat → List Int → Int → Int → Option (Bool)
 | 0, _, _, _ => none
 | k + 1, x8, x9, x10 => if x10 < x9 then (if 0 ≤ x10 then (if x10 < (x8.length : Int) then (if (rd x8 x10) < 0 then (some false) else (if (rd x8 x10) > 1 then (some false) else (impl_pathForm.l0 k x8 x9 (wrap64 (x10 + 1))))) else (none)) else (none)) else (some true)
def impl_pathForm.f (k : Nat) (l0 : List Int) : Option (Bool) := if (l0.length : Int) > 4 then (some false) else (impl_pathForm.l0 k l0 (l0.length : Int) 0)
theorem impl_pathForm.mono_l : ∀ k, (∀ y0 y1 y2, LeO (impl_pathForm.l0 k y0 y1 y2) (impl_pathForm.l0 (k + 1) y0 y1 y2))
 | 0 => fun _ _ _ r h => by simp [impl_pathForm.l0] at h
 | k + 1 => by
  have ih0 := impl_pathForm.mono_l k
  ·intro y0 y1 y2
   unfold impl_pathForm.l0
   repeat' first
   | (with_reducible exact ih0 _ _ _)
   | (with_reducible exact LeO.refl _)
   | (with_reducible exact LeO.none _)
   | (with_reducible refine LeO.ite ?_ ?_)
   | (with_reducible refine LeO.bind ?_ (fun _ => ?_))
   | exact ih0 _ _ _
   | exact LeO.none _
   | refine LeO.ite ?_ ?_
   | refine LeO.bind ?_ (fun _ => ?_)
theorem impl_pathForm.mono : ∀ a0 k, LeO (impl_pathForm.f k a0) (impl_pathForm.f (k + 1) a0) := by
 intro a0 k
 have ih0 := impl_pathForm.mono_l k
 unfold impl_pathForm.f
 repeat' first
   | (with_reducible exact ih0 _ _ _)
   | (with_reducible exact LeO.refl _)
   | (with_reducible exact LeO.none _)
   | (with_reducible refine LeO.ite ?_ ?_)
   | (with_reducible refine LeO.bind ?_ (fun _ => ?_))
   | exact ih0 _ _ _
   | exact LeO.none _
   | refine LeO.ite ?_ ?_
   | refine LeO.bind ?_ (fun _ => ?_)
set_option maxHeartbeats 8000000 in
set_option maxRecDepth 100000 in
theorem impl_pathForm.calls (k : Nat) (A0 : Option Addr) (c0 : Nat) (l0 : List Int) (r : Bool) (w : World) (hr0 : Kd.C (Kd.int .i64) w A0 l0.length l0) (hc0 : l0.length ≤ c0) (h : impl_pathForm.f k l0 = some r) :
  Calls Try.prog 64 #[.slice A0 l0.length c0] w fun e w' => e = .returned (.bool r) ∧ Drawn0 w w' := by
 have HR0 := Aside0.mk hr0
 have HC0 := Aside0.mk hc0
 clear hr0 hc0
 have H : (if (l0.length : Int) > 4 then (some false) else (impl_pathForm.l0 k l0 (l0.length : Int) 0)) = some r := h
 clear h
 by_cases c2 : (l0.length : Int) > 4
 ·rw [if_pos c2] at H
  have c2b0 : decide (4 < (l0.length : Int)) = true := decide_eq_true c2
  have c2b1 : decide (4 < l0.length) = true := decide_eq_true (by omega)
  clear c2
  obtain rfl := Option.some.inj H
  go_enter Try.func64, Try.ntmps64
  go_wp2
  go_ret
  exact ⟨y7, y12⟩
 ·rw [if_neg c2] at H
  have c2b0 : decide (4 < (l0.length : Int)) = false := decide_eq_false c2
  have c2b1 : decide (4 < l0.length) = false := decide_eq_false (by omega)
  clear c2
  have H' := Aside0.mk H
  clear H
  go_enter Try.func64, Try.ntmps64
  go_wp2
  go_loopg [10] k (fun kq v10 w' => ∃ (x10_1 : Int), v10 = .int .i64 x10_1 ∧ Aside0 (impl_pathForm.l0 kq l0 (l0.length : Int) x10_1 = some r) ∧ Aside0 (kq ≤ k) ∧ Drawn0 w w')
  case atStart => exact ⟨(0), y7, H', ⟨Nat.le_refl _⟩, y12⟩
  case round =>
   clear H'
   try clear c2
   try clear c2b0
   try clear c2b1
   try clear p2
   obtain ⟨x10_1, rfl, HA, HK1, ⟨m1, rfl⟩⟩ := hrel
   cases gk with
   | zero => exact absurd HA.out (by simp [impl_pathForm.l0])
   | succ k1 =>
    have H := HA.out
    clear HA
    simp only [impl_pathForm.l0] at H
    by_cases c3 : x10_1 < (l0.length : Int)
    ·rw [if_pos c3] at H
     have c3b0 : decide (x10_1 < (l0.length : Int)) = true := decide_eq_true c3
     clear c3
     by_cases c4 : 0 ≤ x10_1
     ·rw [if_pos c4] at H
      have c4b0 : decide (0 ≤ x10_1) = true := decide_eq_true c4
      clear c4
      by_cases c5 : x10_1 < (l0.length : Int)
      ·rw [if_pos c5] at H
       have c5b0 : decide (x10_1 < (l0.length : Int)) = true := decide_eq_true c5
       clear c5
       by_cases c6 : (rd l0 x10_1) < 0
       ·rw [if_pos c6] at H
        have c6b0 : decide ((rd l0 x10_1) < 0) = true := decide_eq_true c6
        clear c6
        obtain rfl := Option.some.inj H
        have p425 : 0 ≤ (x10_1 : Int) := of_decide_eq_true y4
        have q425 : x10_1 < (l0.length : Int) := of_decide_eq_true y4
        obtain ⟨ad425, e425, hx425_0⟩ := Kd.at_int HR0.out x10_1 p425 q425
        cases e425
        replace p425 := eq_true p425
        replace q425 := eq_true q425
        go_wp2
        go_ret
        exact ⟨y7, y12⟩
       ·rw [if_neg c6] at H
        have c6b0 : decide ((rd l0 x10_1) < 0) = false := decide_eq_false c6
        clear c6
        by_cases c7 : (rd l0 x10_1) > 1
        ·rw [if_pos c7] at H
         have c7b0 : decide (1 < (rd l0 x10_1)) = true := decide_eq_true c7
         clear c7
         obtain rfl := Option.some.inj H
         have p425 : 0 ≤ (x10_1 : Int) := of_decide_eq_true y4
         have q425 : x10_1 < (l0.length : Int) := of_decide_eq_true y4
         obtain ⟨ad425, e425, hx425_0⟩ := Kd.at_int HR0.out x10_1 p425 q425
         cases e425
         replace p425 := eq_true p425
         replace q425 := eq_true q425
         go_wp2
         go_ret
         exact ⟨y7, y12⟩
        ·rw [if_neg c7] at H
         have c7b0 : decide (1 < (rd l0 x10_1)) = false := decide_eq_false c7
         clear c7
         have H' := Aside0.mk H
         clear H
         have p425 : 0 ≤ (x10_1 : Int) := of_decide_eq_true y4
         have q425 : x10_1 < (l0.length : Int) := of_decide_eq_true y4
         obtain ⟨ad425, e425, hx425_0⟩ := Kd.at_int HR0.out x10_1 p425 q425
         cases e425
         replace p425 := eq_true p425
         replace q425 := eq_true q425
         go_wp2
         go_roundg k1
         case measure => have := HK1.out; omega
         case rel => exact ⟨(wrap64 (x10_1 + 1)), y7, H', ⟨(y30 HK1.out)⟩, y12⟩
      ·rw [if_neg c5] at H
       exact absurd H (by simp)
     ·rw [if_neg c4] at H
      exact absurd H (by simp)
    ·rw [if_neg c3] at H
     have c3b0 : decide (x10_1 < (l0.length : Int)) = false := decide_eq_false c3
     clear c3
     obtain rfl := Option.some.inj H
     go_wp2
     go_ret
     exact ⟨y7, y12⟩
end Go.Proofs.Ytdgpegkgelciaaa.PA
end
section
namespace Go.Proofs.Ytdgpegkgelciaaa.PA
open Go.RowKit Go.MapKept Go.Proofs.YtdgpegkgelciaaaW.PrintWords Go.Proofs.YtdgpegkgelciaaaW.PrintLast Go.Proofs.YtdgpegkgelciaaaW.PrintMore
theorem bcellN {n : Nat} {W w1 : World} (hb : Below n W w1) : (∀ b o, b < n → w1.cell? ⟨b, o, none⟩ = W.cell? ⟨b, o, none⟩) ∧ (∀ b o, b < n → w1.frozen? ⟨b, o, none⟩ = W.frozen? ⟨b, o, none⟩) :=
  ⟨fun b o h => hb.cell (p := ⟨b, o, none⟩) h, fun b o h => hb.frozen (p := ⟨b, o, none⟩) h⟩
theorem stepN {n : Nat} {w0 W w1 : World} (h : Below n w0 W) (hn : n ≤ w0.heap.size) (hb : Below W.heap.size W w1) : Below n w0 w1 := h.trans (hb.mono (Nat.le_trans hn h.size))
theorem alN {n : Nat} {w0 W : World} (h : Below n w0 W) (hn : n ≤ w0.heap.size) (o : Obj) : Below n w0 (W.alloc o) := h.alloc (Nat.le_trans hn h.size) o
theorem ret_bool {a b : Bool} (h : a = b) : Ending.returned (.bool a) = .returned (.bool b) := by rw [h]
def sB (s : ByteArray) : Bool := s.toList.isEmpty
def ltB (x : Int) : Bool := decide (x < 0)
def gtB (x : Int) : Bool := decide (9999 < x)
def neI (x : Int) : Bool := x != 0
def neN (n m : Nat) : Bool := n != m
theorem neN_eq (n m : Nat) : ((n : Int) != (m : Int)) = neN n m := by
  unfold neN
  rw [Bool.eq_iff_iff]
  simp only [bne_iff_ne, ne_eq]
  omega
theorem sB_nil : sB (⟨#[]⟩ : ByteArray) = true := by unfold sB; rw [ByteArray.toList_eq]; rfl
theorem neI_0 : neI 0 = false := rfl
theorem neN_0 : neN 0 0 = false := rfl
def tkK (b : ByteArray → Bool) (t : S78) : Bool :=
  if t.f0 = 1 then !ltB t.f1 && !gtB t.f1 && sB t.f2 && !neN t.f3.length 0 && !neN t.f4.length 0
  else if t.f0 = 2 then pwP t.f2 && b t.f2 && !neI t.f1 && !neN t.f3.length 0 && !neN t.f4.length 0
  else if 3 ≤ t.f0 ∧ t.f0 ≤ 6 then !neI t.f1 && sB t.f2 && !neN t.f3.length 0 && !neN t.f4.length 2
  else if t.f0 = 7 then pathP t.f3 && !neI t.f1 && sB t.f2 && !neN t.f4.length 1
  else if t.f0 = 8 then pathP t.f3 && !neI t.f1 && sB t.f2 && !neN t.f4.length 2
  else false
theorem neN_not (n m : Nat) : (!neN n m) = decide (n = m) := by
  unfold neN
  rw [Bool.eq_iff_iff]
  simp
theorem neI_not (x : Int) : (!neI x) = decide (x = 0) := by
  unfold neI
  rw [Bool.eq_iff_iff]
  simp
theorem lt_gt (x : Int) : (!ltB x && !gtB x) = decide (0 ≤ x ∧ x ≤ 9999) := by
  unfold ltB gtB
  rw [Bool.eq_iff_iff]
  simp
theorem empty_dec {α : Type} (l : List α) : l.isEmpty = decide (l.length = 0) := by cases l <;> simp
theorem tkP_eq (b : ByteArray → Bool) (n : Nat) (t : S78) : tkP b (n + 1) t = (tkK b t && t.f4.all (tkP b n)) := by
  rw [tkP, tkK]
  simp only [neN_not, neI_not, lt_gt, sB, empty_dec]
def TermOk (n : Nat) : Prop := ∀ (fv : Fv) (t : S78) (A3 A4 : Option Addr) (c3 c4 : Nat) (w : World), HfG fv w → Kd.C (Kd.int .i64) w A3 t.f3.length t.f3 → t.f3.length ≤ c3 → Kd.C k78 w A4 t.f4.length t.f4 →
  Calls Try.prog 55 #[.agg #[.int .i64 t.f0, .int .i64 t.f1, .string t.f2, .slice A3 t.f3.length c3, .slice A4 t.f4.length c4], .int .i64 n, .func (.func 56) #[fv.x] #[]] w fun e w' => e = .returned (.bool (tkP fv.b n t)) ∧ Below w.heap.size w w'
section
variable (hpw : ∀ s, ∃ k, impl_pureName.f k s = some (pwP s)) (hpf : ∀ l, ∃ k, impl_pathForm.f k l = some (pathP l))
include hpw hpf
set_option maxHeartbeats 8000000 in
set_option maxRecDepth 100000 in
theorem termOk_calls : ∀ n : Nat, n ≤ 100 → TermOk n
  | 0, _ => by
    intro fv t A3 A4 c3 c4 w _ _ _ _
    go_enter Try.func55, Try.ntmps55
    go_wp2
    go_ret
    exact ⟨rfl, (Below.refl _ _).alloc (Nat.le_refl _) _⟩
  | n + 1, hn => by
    have ih := termOk_calls n (by omega)
    intro fv t A3 A4 c3 c4 w hG h3 l3 h4
    have hu78 := Try.underlying78
    have hu41 := Try.underlying41
    obtain ⟨i0, hi0, _, hsz, _⟩ := info_parts info78
    have hln : decide (((n + 1 : Nat) : Int) < 1) = false := decide_eq_false (by omega)
    have hln2 : wrap64 (((n + 1 : Nat) : Int) - 1) = (n : Int) := by rw [w64 _ (by omega)]; omega
    rw [tkP_eq]
    obtain ⟨k, x1, x2, x3, l⟩ := t
    simp only at h3 h4 l3 ⊢
    have hlen := h4.2.1
    have HG := Aside0.mk hG
    obtain ⟨nw, HNW⟩ : ∃ nw, Aside0 (pwP x2 = !nw) := ⟨!pwP x2, ⟨by simp⟩⟩
    obtain ⟨np, HNP⟩ : ∃ np, Aside0 (pathP x3 = !np) := ⟨!pathP x3, ⟨by simp⟩⟩
    obtain ⟨nb, HNB⟩ : ∃ nb, Aside0 (fv.b x2 = !nb) := ⟨!fv.b x2, ⟨by simp⟩⟩
    have HGB : Aside0 (∀ W, Below w.heap.size w W → Calls Try.prog 56 #[fv.x, .string x2] W fun e w' => e = .returned (.bool (!nb)) ∧ Below W.heap.size W w') := ⟨fun W hb => by
      have h := hG W hb x2
      rw [HNB.out] at h
      exact h⟩
    have HN : Aside0 (∀ W, Calls Try.prog 22 #[.string x2] W fun e w' => e = .returned (.bool (!nw)) ∧ Drawn0 W w') := ⟨fun W => by
      rw [← HNW.out]
      obtain ⟨k, hk⟩ := hpw x2
      exact impl_pureName.calls k _ _ W hk⟩
    have HF : Aside0 (∀ W, Below w.heap.size w W → Calls Try.prog 64 #[.slice A3 x3.length c3] W fun e w' => e = .returned (.bool (!np)) ∧ Drawn0 W w') := ⟨fun W hb => by
      rw [← HNP.out]
      obtain ⟨k, hk⟩ := hpf x3
      exact impl_pathForm.calls k A3 c3 _ _ W (Kd.C_below h3 hb) l3 hk⟩
    have HC := Aside0.mk h4
    have IH := Aside0.mk ih
    clear hG h3 h4 ih
    have e1 : decide (x1 < 0) = ltB x1 := rfl
    have e2 : decide (9999 < x1) = gtB x1 := rfl
    have e3 : (x1 != 0) = neI x1 := rfl
    have e4 : ((x3.length : Int) != 0) = neN x3.length 0 := neN_eq _ 0
    have e5 : ((l.length : Int) != 0) = neN l.length 0 := neN_eq _ 0
    have e6 : ((l.length : Int) != 1) = neN l.length 1 := neN_eq _ 1
    have e7 : ((l.length : Int) != 2) = neN l.length 2 := neN_eq _ 2
    have es : x2.toList.isEmpty = sB x2 := rfl
    have hk : k = 1 ∨ k = 2 ∨ k = 3 ∨ k = 4 ∨ k = 5 ∨ k = 6 ∨ k = 7 ∨ k = 8 ∨ (k ≠ 1 ∧ k ≠ 2 ∧ k ≠ 3 ∧ k ≠ 4 ∧ k ≠ 5 ∧ k ≠ 6 ∧ k ≠ 7 ∧ k ≠ 8 ∧ ¬(3 ≤ k ∧ k ≤ 6)) := by omega
    have HB := Aside0.mk (((Below.refl _ w).alloc (Nat.le_refl _) (.cells #[.int .i64 k, .int .i64 x1, .string x2, .slice A3 x3.length c3, .slice A4 l.length c4] 78)).alloc (by simp) (.cells #[.int .i64 k, .int .i64 x1, .string x2, .slice A3 x3.length c3, .slice A4 l.length c4] 78))
    have HC2 := Aside0.mk (Below.refl (w.heap.size + 2) ((w.alloc (.cells #[.int .i64 k, .int .i64 x1, .string x2, .slice A3 x3.length c3, .slice A4 l.length c4] 78)).alloc (.cells #[.int .i64 k, .int .i64 x1, .string x2, .slice A3 x3.length c3, .slice A4 l.length c4] 78)))
    have HK0 : Aside0 (((w.alloc (.cells #[.int .i64 k, .int .i64 x1, .string x2, .slice A3 x3.length c3, .slice A4 l.length c4] 78)).alloc (.cells #[.int .i64 k, .int .i64 x1, .string x2, .slice A3 x3.length c3, .slice A4 l.length c4] 78)).heap[w.heap.size]? = some (.cells #[.int .i64 k, .int .i64 x1, .string x2, .slice A3 x3.length c3, .slice A4 l.length c4] 78)) := ⟨blk_alloc (blk_new w (.cells #[.int .i64 k, .int .i64 x1, .string x2, .slice A3 x3.length c3, .slice A4 l.length c4] 78)) _⟩
    have HK1 : Aside0 (((w.alloc (.cells #[.int .i64 k, .int .i64 x1, .string x2, .slice A3 x3.length c3, .slice A4 l.length c4] 78)).alloc (.cells #[.int .i64 k, .int .i64 x1, .string x2, .slice A3 x3.length c3, .slice A4 l.length c4] 78)).heap[w.heap.size + 1]? = some (.cells #[.int .i64 k, .int .i64 x1, .string x2, .slice A3 x3.length c3, .slice A4 l.length c4] 78)) := ⟨by have h := blk_new (w.alloc (.cells #[.int .i64 k, .int .i64 x1, .string x2, .slice A3 x3.length c3, .slice A4 l.length c4] 78)) (.cells #[.int .i64 k, .int .i64 x1, .string x2, .slice A3 x3.length c3, .slice A4 l.length c4] 78); rwa [World.size_alloc] at h⟩
    go_enter Try.func55, Try.ntmps55
    go_upto_block 0 with (fail)
    go_cut [8] from 11 (fun v8 wc => ∃ (y1 : Int) (y2 : ByteArray) (Ap : Option Addr) (np cp kids : Nat), v8 = .int .i64 kids ∧ Aside0 (tkK fv.b ⟨k, x1, x2, x3, l⟩ = (!neI y1 && sB y2 && !neN np 0 && !neN l.length kids) ∧ kids ≤ 2 ∧ Below w.heap.size w wc ∧ wc.heap[w.heap.size]? = some (.cells #[.int .i64 k, .int .i64 x1, .string x2, .slice A3 x3.length c3, .slice A4 l.length c4] 78) ∧ wc.heap[w.heap.size + 1]? = some (.cells #[.int .i64 k, .int .i64 y1, .string y2, .slice Ap np cp, .slice A4 l.length c4] 78)))
    case first =>
      rcases hk with rfl | rfl | rfl | rfl | rfl | rfl | rfl | rfl | ⟨g1, g2, g3, g4, g5, g6, g7, g8, g9⟩
      all_goals go_wp2_with (first | (go_at_call 22; (with_reducible refine (HN.out _).mono ?_); rintro e w2 ⟨rfl, nd, rfl⟩) | (go_at_call 64; (with_reducible refine (HF.out _ HB.out).mono ?_); rintro e w2 ⟨rfl, nd, rfl⟩) | (go_at_call 56; (with_reducible refine (HGB.out _ (pw_below_drewN HB.out _)).mono ?_); rintro e w2 ⟨rfl, hb2⟩; replace HB := Aside0.mk (below_step (pw_below_drewN HB.out _) hb2); replace HK0 := Aside0.mk (blk_below (blk_drewN HK0.out _) hb2); replace HK1 := Aside0.mk (blk_below (blk_drewN HK1.out _) hb2); replace HC2 := Aside0.mk (stepN (pw_below_drewN HC2.out _) (by simp) hb2); obtain ⟨hc2, hf2⟩ := bcellN HC2.out; clear hb2))
      all_goals (first | go_meet | (go_ret; refine ⟨?_, ?_⟩; (refine ret_bool ?_; clear HN HF HG HGB HB HC HC2 HK0 HK1 IH; simp [tkK, HNW.out, HNP.out, HNB.out, *]); (repeat (first | exact HB.out | refine Below.setCell ?_ (by simp) _ | refine pw_below_drewN ?_ _))))
      · refine ⟨0, x2, A3, x3.length, c3, 0, rfl, ⟨?_, by omega, alN (alN (Below.refl _ _) (Nat.le_refl _) _) (Nat.le_refl _) _, blk_alloc (blk_new w _) _, ?_⟩⟩
        · clear HN HF HG HGB HB HC HC2 HK0 HK1 IH; simp [tkK, neI_0, *]
        · have h := blk_new (w.alloc (.cells #[.int .i64 1, .int .i64 x1, .string x2, .slice A3 x3.length c3, .slice A4 l.length c4] 78)) (.cells #[.int .i64 1, .int .i64 0, .string x2, .slice A3 x3.length c3, .slice A4 l.length c4] 78)
          rwa [World.size_alloc] at h
      · exact ⟨x1, ⟨#[]⟩, A3, _, c3, 0, rfl, ⟨by clear HN HF HG HGB HB HC HC2 HK0 HK1 IH; simp [tkK, sB_nil, HNW.out, HNB.out, *], by omega, Below.setCell HB.out (by simp) _, blk_far HK0.out (by simp) _, blk_set HK1.out 2 _⟩⟩
      · exact ⟨x1, x2, A3, _, c3, 2, rfl, ⟨by clear HN HF HG HGB HB HC HC2 HK0 HK1 IH; simp [tkK, *], by omega, HB.out, HK0.out, HK1.out⟩⟩
      · exact ⟨x1, x2, A3, _, c3, 2, rfl, ⟨by clear HN HF HG HGB HB HC HC2 HK0 HK1 IH; simp [tkK, *], by omega, HB.out, HK0.out, HK1.out⟩⟩
      · exact ⟨x1, x2, A3, _, c3, 2, rfl, ⟨by clear HN HF HG HGB HB HC HC2 HK0 HK1 IH; simp [tkK, *], by omega, HB.out, HK0.out, HK1.out⟩⟩
      · exact ⟨x1, x2, A3, _, c3, 2, rfl, ⟨by clear HN HF HG HGB HB HC HC2 HK0 HK1 IH; simp [tkK, *], by omega, HB.out, HK0.out, HK1.out⟩⟩
      · exact ⟨x1, x2, none, 0, 0, 1, rfl, ⟨by clear HN HF HG HGB HB HC HC2 HK0 HK1 IH; simp [tkK, neN_0, HNP.out, *], by omega, Below.setCell (pw_below_drewN HB.out _) (by simp) _, blk_far (blk_drewN HK0.out _) (by simp) _, blk_set (blk_drewN HK1.out _) 3 _⟩⟩
      · exact ⟨x1, x2, none, 0, 0, 2, rfl, ⟨by clear HN HF HG HGB HB HC HC2 HK0 HK1 IH; simp [tkK, neN_0, HNP.out, *], by omega, Below.setCell (pw_below_drewN HB.out _) (by simp) _, blk_far (blk_drewN HK0.out _) (by simp) _, blk_set (blk_drewN HK1.out _) 3 _⟩⟩
    case rest =>
      obtain ⟨y1, y2, Ap, np, cp, kids, rfl, HR⟩ := hcut
      obtain ⟨hR1, hkids, hBC, hk0, hk1⟩ := HR.out
      have HR1 := Aside0.mk hR1
      have HBC := hBC
      have r4 : wc.cell? ⟨w.heap.size, 4, none⟩ = some (.slice A4 l.length c4) := (blk_cell hk0 4).trans rfl
      have r1 : wc.cell? ⟨w.heap.size + 1, 1, none⟩ = some (.int .i64 y1) := (blk_cell hk1 1).trans rfl
      have r2 : wc.cell? ⟨w.heap.size + 1, 2, none⟩ = some (.string y2) := (blk_cell hk1 2).trans rfl
      have r3 : wc.cell? ⟨w.heap.size + 1, 3, none⟩ = some (.slice Ap np cp) := (blk_cell hk1 3).trans rfl
      clear HR hR1 hBC hk0 hk1 e1 e2 e3 e4 e5 e6 e7 es HB HC2 HK0 HK1
      have HBC := Aside0.mk HBC
      have f3 : (y1 != 0) = neI y1 := rfl
      have f4 : ((np : Int) != 0) = neN np 0 := neN_eq _ 0
      have f5 : ((l.length : Int) != (kids : Int)) = neN l.length kids := neN_eq _ kids
      have fs : y2.toList.isEmpty = sB y2 := rfl
      cases hs : sB y2 <;> rw [hs] at fs
      all_goals go_wp2_with (fail)
      all_goals try (go_ret; refine ⟨?_, HBC.out⟩; (refine ret_bool ?_; rw [HR1.out]; clear HN HF HG HGB HC IH HBC HR1; simp [*]))
      all_goals (rw [show neN l.length kids = false from by assumption])
      all_goals
        go_loopg [82] (l.length + 1) (fun kq v82 w' => ∃ j : Nat, v82 = .int .i64 j ∧ Aside0 (kq + j = l.length + 1 ∧ j ≤ l.length) ∧ Aside0 (l.all (tkP fv.b n) = (l.drop j).all (tkP fv.b n)) ∧ Aside0 (Below w.heap.size w w'))
        case atStart => exact ⟨0, rfl, ⟨rfl, Nat.zero_le _⟩, ⟨rfl⟩, HBC⟩
        case round =>
          obtain ⟨j, rfl, HK, HA, HW⟩ := hrel
          cases gk with
          | zero => exact absurd HK.out (by omega)
          | succ k1 =>
            by_cases hj : j < l.length
            · have d0 : decide ((j : Int) < (l.length : Int)) = true := decide_eq_true (by omega)
              have d1 : decide (j < l.length) = true := decide_eq_true hj
              have p0 : 0 ≤ (j : Int) := by omega
              have p1 : (j : Int) < (l.length : Int) := by omega
              obtain ⟨ad, B3, y3, B4, y4, e, q0, q1, q2, q3, q4, m3, i3, m4, i4⟩ := at_T78 HC.out (j : Int) p0 p1
              cases e
              replace q0 := pw_cell_below HW.out q0
              replace q1 := pw_cell_below HW.out q1
              replace q2 := pw_cell_below HW.out q2
              replace q3 := pw_cell_below HW.out q3
              replace q4 := pw_cell_below HW.out q4
              simp only [Int.toNat_natCast] at q0 q1 q2 q3 q4
              replace p0 := eq_true p0
              replace p1 := eq_true p1
              have HE0 : Aside0 (l.drop j = rd_T78 l j :: l.drop (j + 1)) := ⟨by rw [List.drop_eq_getElem_cons hj]; simp [rd_T78, hj]⟩
              have HX := Aside0.mk ((Below.refl wr.heap.size wr).alloc (Nat.le_refl _) (.cells #[.int .i64 (rd_T78 l j).f0, .int .i64 (rd_T78 l j).f1, .string (rd_T78 l j).f2, .slice B3 (rd_T78 l j).f3.length y3, .slice B4 (rd_T78 l j).f4.length y4] 78))
              have HQ : Aside0 (∀ W, Below wr.heap.size wr W → Calls Try.prog 55 #[.agg #[.int .i64 (rd_T78 l j).f0, .int .i64 (rd_T78 l j).f1, .string (rd_T78 l j).f2, .slice B3 (rd_T78 l j).f3.length y3, .slice B4 (rd_T78 l j).f4.length y4], .int .i64 n, .func (.func 56) #[fv.x] #[]] W fun e w' => e = .returned (.bool (tkP fv.b n (rd_T78 l j))) ∧ Below W.heap.size W w') := ⟨fun W hb => IH.out fv (rd_T78 l j) B3 B4 y3 y4 W (hf_gd HG.out (below_step HW.out hb)) (Kd.C_below i3 (below_step HW.out hb)) m3 (Kd.C_below i4 (below_step HW.out hb))⟩
              clear i3 i4 m3 m4
              cases hq : tkP fv.b n (rd_T78 l j) with
              | true =>
                rw [hq] at HQ
                have HV : Aside0 (l.all (tkP fv.b n) = (l.drop (j + 1)).all (tkP fv.b n)) := ⟨by rw [HA.out, HE0.out, List.all_cons, hq, Bool.true_and]⟩
                clear hq HE0 HA
                go_wp2_with (go_at_call 55; (with_reducible refine (HQ.out _ HX.out).mono ?_); rintro e w2 ⟨rfl, hb2⟩; replace HX := Aside0.mk (below_step HX.out hb2))
                go_roundg k1
                case measure => omega
                case rel => exact ⟨j + 1, by first | simp | (rw [w64 _ (by omega)]; simp), ⟨by have := HK.out; omega, hj⟩, HV, ⟨below_step HW.out HX.out⟩⟩
              | false =>
                rw [hq] at HQ
                have HV : Aside0 (l.all (tkP fv.b n) = false) := ⟨by rw [HA.out, HE0.out, List.all_cons, hq, Bool.false_and]⟩
                clear hq HE0 HA
                go_wp2_with (go_at_call 55; (with_reducible refine (HQ.out _ HX.out).mono ?_); rintro e w2 ⟨rfl, hb2⟩; replace HX := Aside0.mk (below_step HX.out hb2))
                go_ret
                exact ⟨by rw [HV.out, Bool.and_false]; rfl, below_step HW.out HX.out⟩
            · have d0 : decide ((j : Int) < (l.length : Int)) = false := decide_eq_false (by omega)
              have d1 : decide (j < l.length) = false := decide_eq_false hj
              have HV : Aside0 (l.all (tkP fv.b n) = true) := ⟨by rw [HA.out, List.drop_eq_nil_of_le (by omega)]; rfl⟩
              clear HA
              go_wp2
              go_ret
              refine ⟨?_, HW.out⟩
              rw [HV.out, Bool.and_true]
              refine ret_bool ?_
              rw [HR1.out]
              clear HV HN HF HG HGB HC IH HW HK HR1
              simp [*]
end
end Go.Proofs.Ytdgpegkgelciaaa.PA
end
section
namespace Go.Proofs.Ytdgpegkgelciaaa.PA
open Go.RowKit Go.MapKept Go.Proofs.YtdgpegkgelciaaaW.PrintWords Go.Proofs.YtdgpegkgelciaaaW.PrintLast Go.Proofs.YtdgpegkgelciaaaW.PrintMore
def TkOk (tk : List ByteArray → S78 → Bool) : Prop := ∀ (x : Value) (l : List ByteArray) (t : S78) (A3 A4 : Option Addr) (c3 c4 : Nat) (w : World), HfG ⟨x, nhas l⟩ w → Kd.C (Kd.int .i64) w A3 t.f3.length t.f3 → t.f3.length ≤ c3 → Kd.C k78 w A4 t.f4.length t.f4 →
  Calls Try.prog 55 #[.agg #[.int .i64 t.f0, .int .i64 t.f1, .string t.f2, .slice A3 t.f3.length c3, .slice A4 t.f4.length c4], .int .i64 8, .func (.func 56) #[x] #[]] w fun e w' => e = .returned (.bool (tk l t)) ∧ Below w.heap.size w w'
set_option maxHeartbeats 4000000 in
set_option maxRecDepth 100000 in
theorem terms_calls (tk : List ByteArray → S78 → Bool) (htk : TkOk tk) (m : Mp) (v : Value) (A : Option Addr) (c : Nat) (ts : List S78) (w : World) (hm : HfM m w) (hr : Kd.C k78 w A ts.length ts) :
    Calls Try.prog 42 #[.agg #[v, .map (some m.a)], .slice A ts.length c] w fun e w' => e = .returned (.bool (ts.all (tk m.l))) ∧ Below w.heap.size w w' := by
  have hu55 := Try.underlying55
  have hu41 := Try.underlying41
  have hu78 := Try.underlying78
  obtain ⟨i0, hi0, _, hsz, _⟩ := info_parts info78
  have HM := Aside0.mk hm
  have hn := hr.2.1
  have HR := Aside0.mk hr
  clear hm hr
  go_enter Try.func42, Try.ntmps42
  go_wp2
  go_loopg [9] (ts.length + 1) (fun kq v9 w' => ∃ j : Nat, v9 = .int .i64 j ∧ Aside0 (kq + j = ts.length + 1 ∧ j ≤ ts.length) ∧ Aside0 (ts.all (tk m.l) = (ts.drop j).all (tk m.l)) ∧ Aside0 (Below (w.heap.size + 1) (w.alloc (.cells #[v, .map (some m.a)] 55)) w'))
  case atStart => exact ⟨0, rfl, ⟨rfl, Nat.zero_le _⟩, ⟨rfl⟩, ⟨Below.refl _ _⟩⟩
  case round =>
    obtain ⟨j, rfl, HK, HF, HB⟩ := hrel
    have hB0 : Below w.heap.size w wr := ((Below.refl _ w).alloc (Nat.le_refl _) _).trans (HB.out.mono (by omega))
    have hb0 : (w.alloc (.cells #[v, .map (some m.a)] 55)).heap[w.heap.size]? = some (.cells #[v, .map (some m.a)] 55 (0, 0)) := by simpa using heap_alloc_new w _
    have hb1 := (HB.out.block w.heap.size (by omega)).trans hb0
    have hq0 : wr.cell? ⟨w.heap.size, 0, none⟩ = some v := (blk_cell hb1 0).trans rfl
    have hq1 : wr.cell? ⟨w.heap.size, 1, none⟩ = some (.map (some m.a)) := (blk_cell hb1 1).trans rfl
    cases gk with
    | zero => exact absurd HK.out (by omega)
    | succ k1 =>
      by_cases hj : j < ts.length
      · have c0 : decide ((j : Int) < (ts.length : Int)) = true := decide_eq_true (by omega)
        have c1 : decide (j < ts.length) = true := decide_eq_true hj
        have p0 : 0 ≤ (j : Int) := by omega
        have q0 : (j : Int) < (ts.length : Int) := by omega
        obtain ⟨ad, A3, c3, A4, c4, e, hx0, hx1, hx2, hx3, hx4, hl3, hi3, hl4, hi4⟩ := at_T78 HR.out (j : Int) p0 q0
        cases e
        replace hx0 := pw_cell_below hB0 hx0
        replace hx1 := pw_cell_below hB0 hx1
        replace hx2 := pw_cell_below hB0 hx2
        replace hx3 := pw_cell_below hB0 hx3
        replace hx4 := pw_cell_below hB0 hx4
        simp only [Int.toNat_natCast] at hx0 hx1 hx2 hx3 hx4
        replace p0 := eq_true p0
        replace q0 := eq_true q0
        have e0 : ts.drop j = rd_T78 ts j :: ts.drop (j + 1) := by rw [List.drop_eq_getElem_cons hj]; simp [rd_T78, hj]
        have hB1 : Below wr.heap.size wr (wr.alloc (.cells #[.int .i64 (rd_T78 ts j).f0, .int .i64 (rd_T78 ts j).f1, .string (rd_T78 ts j).f2, .slice A3 (rd_T78 ts j).f3.length c3, .slice A4 (rd_T78 ts j).f4.length c4] 78)) := (Below.refl _ _).alloc (Nat.le_refl _) _
        replace hq0 := pw_cell_below hB1 hq0
        replace hq1 := pw_cell_below hB1 hq1
        have HB1 := Aside0.mk hB1
        clear hB1
        have hB2 : Below w.heap.size w (wr.alloc (.cells #[.int .i64 (rd_T78 ts j).f0, .int .i64 (rd_T78 ts j).f1, .string (rd_T78 ts j).f2, .slice A3 (rd_T78 ts j).f3.length c3, .slice A4 (rd_T78 ts j).f4.length c4] 78)) := hB0.trans (HB1.out.mono hB0.size)
        have HG := Aside0.mk (HfM.fv (HM.out.gd hB2) v)
        have HV3 := Aside0.mk (Kd.C_below hi3 hB2)
        have HV4 := Aside0.mk (Kd.C_below hi4 hB2)
        have HL3 := Aside0.mk hl3
        have HB2 := Aside0.mk hB2
        clear hB2 hi3 hi4 hl3 hl4
        have HE0 := Aside0.mk e0
        clear e0
        have hstep : ∀ w2, Below (wr.alloc (.cells #[.int .i64 (rd_T78 ts j).f0, .int .i64 (rd_T78 ts j).f1, .string (rd_T78 ts j).f2, .slice A3 (rd_T78 ts j).f3.length c3, .slice A4 (rd_T78 ts j).f4.length c4] 78)).heap.size (wr.alloc (.cells #[.int .i64 (rd_T78 ts j).f0, .int .i64 (rd_T78 ts j).f1, .string (rd_T78 ts j).f2, .slice A3 (rd_T78 ts j).f3.length c3, .slice A4 (rd_T78 ts j).f4.length c4] 78)) w2 → Below w.heap.size w w2 ∧ Below (w.heap.size + 1) (w.alloc (.cells #[v, .map (some m.a)] 55)) w2 := fun w2 h => ⟨HB2.out.trans (h.mono HB2.out.size), HB.out.trans ((HB1.out.mono (by simpa using HB.out.size)).trans (h.mono (by have := HB.out.size; have := HB1.out.size; simp at *; omega)))⟩
        have HS := Aside0.mk hstep
        clear hstep
        by_cases hq : tk m.l (rd_T78 ts j) = true
        · go_wp2_with (go_at_call 55; refine (htk _ m.l (rd_T78 ts j) _ _ _ _ _ HG.out HV3.out HL3.out HV4.out).mono ?_; rintro e w2 ⟨rfl, hb2⟩)
          go_roundg k1
          case measure => omega
          case rel => exact ⟨j + 1, by simp, ⟨by have := HK.out; omega, hj⟩, ⟨by rw [HF.out, HE0.out, List.all_cons, hq, Bool.true_and]⟩, ⟨(HS.out _ hb2).2⟩⟩
        · replace hq : tk m.l (rd_T78 ts j) = false := by simpa using hq
          go_wp2_with (go_at_call 55; refine (htk _ m.l (rd_T78 ts j) _ _ _ _ _ HG.out HV3.out HL3.out HV4.out).mono ?_; rintro e w2 ⟨rfl, hb2⟩)
          go_ret
          exact ⟨by rw [HF.out, HE0.out, List.all_cons, hq, Bool.false_and]; rfl, (HS.out _ hb2).1⟩
      · have c0 : decide ((j : Int) < (ts.length : Int)) = false := decide_eq_false (by omega)
        have c1 : decide (j < ts.length) = false := decide_eq_false hj
        go_wp2
        go_ret
        have e : ts.drop j = [] := List.drop_eq_nil_of_le (by omega)
        have h := HF.out
        rw [e] at h
        exact ⟨by rw [h]; rfl, hB0⟩
end Go.Proofs.Ytdgpegkgelciaaa.PA
end
section
namespace Go.Proofs.Ytdgpegkgelciaaa.PA
open Go.RowKit Go.MapKept Go.Proofs.YtdgpegkgelciaaaW.PrintWords Go.Proofs.YtdgpegkgelciaaaW.PrintLast Go.Proofs.YtdgpegkgelciaaaW.PrintMore
def zB (n : Nat) : Bool := n == 0
def oB (n : Nat) : Bool := n == 1
def nB (n m : Nat) : Bool := zB n && zB m
def qB (n m : Nat) : Bool := n == m
theorem zB_eq (n : Nat) : ((n : Int) == 0) = zB n := by unfold zB; cases n <;> simp; omega
theorem oB_eq (n : Nat) : ((n : Int) == 1) = oB n := by
  unfold oB
  by_cases h : n = 1
  · simp [h]
  · rw [beq_eq_false_iff_ne.2 h, beq_eq_false_iff_ne]; omega
theorem qB_eq (n m : Nat) : ((n : Int) == (m : Int)) = qB n m := by
  unfold qB
  by_cases h : n = m
  · simp [h]
  · rw [beq_eq_false_iff_ne.2 h, beq_eq_false_iff_ne]; omega
theorem nothing_calls (A0 A1 : Option Addr) (c0 c1 n0 n1 : Nat) (w : World) :
    Calls Try.prog 54 #[.agg #[.slice A0 n0 c0, .slice A1 n1 c1]] w fun e w' => e = .returned (.bool (nB n0 n1)) ∧ Below w.heap.size w w' := by
  have hu43 := Try.underlying43
  have e0 := zB_eq n0
  have e1 := zB_eq n1
  unfold nB
  cases h0 : zB n0 with
  | false =>
    rw [h0] at e0
    clear h0 e1
    go_enter Try.func54, Try.ntmps54
    go_wp2
    go_ret
    exact ⟨rfl, (Below.refl _ _).alloc (Nat.le_refl _) _⟩
  | true =>
    rw [h0] at e0
    clear h0
    go_enter Try.func54, Try.ntmps54
    go_wp2
    go_ret
    exact ⟨rfl, (Below.refl _ _).alloc (Nat.le_refl _) _⟩
section
variable (T Y1 Y2 : Bool) (m : Mp) (v : Value) (A1 A3 A4 A5 A6 A7 : Option Addr) (c1 c3 c4 c5 c6 c7 : Nat) (d : Int) (fn : ByteArray) (n1 n3 n4 n5 n6 n7 : Nat) (w : World)
  (HT : Aside0 (∀ W, Below w.heap.size w W → Calls Try.prog 42 #[.agg #[v, .map (some m.a)], .slice A3 n3 c3] W fun e w' => e = .returned (.bool T) ∧ Below W.heap.size W w'))
include HT in
set_option maxHeartbeats 4000000 in
set_option maxRecDepth 100000 in
theorem binding1 : Calls Try.prog 41 #[.agg #[v, .map (some m.a)], .agg #[.int .i64 1, .slice A1 n1 c1, .string fn, .slice A3 n3 c3, .slice A4 n4 c4, .slice A5 n5 c5, .slice A6 n6 c6, .slice A7 n7 c7], .int .i64 d] w fun e w' => e = .returned (.bool (nB n4 n5 && nB n6 n7 && sB fn && (oB n1 && oB n3 && T))) ∧ Below w.heap.size w w' := by
  have hu55 := Try.underlying55
  have hu64 := Try.underlying64
  have HB := Aside0.mk (((Below.refl _ w).alloc (Nat.le_refl _) (.cells #[v, .map (some m.a)] 55)).alloc (by simp) (.cells #[.int .i64 1, .slice A1 n1 c1, .string fn, .slice A3 n3 c3, .slice A4 n4 c4, .slice A5 n5 c5, .slice A6 n6 c6, .slice A7 n7 c7] 64))
  have HC := Aside0.mk (Below.refl (w.heap.size + 2) ((w.alloc (.cells #[v, .map (some m.a)] 55)).alloc (.cells #[.int .i64 1, .slice A1 n1 c1, .string fn, .slice A3 n3 c3, .slice A4 n4 c4, .slice A5 n5 c5, .slice A6 n6 c6, .slice A7 n7 c7] 64)))
  have es : fn.toList.isEmpty = sB fn := rfl
  have e1 := oB_eq n1
  have e3 := oB_eq n3
  cases hs : sB fn <;> rw [hs] at es <;> clear hs
  all_goals
    go_enter Try.func41, Try.ntmps41
    go_wp2_with (first | (go_at_call 54; refine (nothing_calls _ _ _ _ _ _ _).mono ?_; rintro e w2 ⟨rfl, hb2⟩; replace HB := Aside0.mk (below_step HB.out hb2); replace HC := Aside0.mk (stepN HC.out (by simp) hb2); obtain ⟨hc2, hf2⟩ := bcellN HC.out; clear hb2) | (go_at_call 42; (with_reducible refine (HT.out _ HB.out).mono ?_); rintro e w2 ⟨rfl, hb2⟩; replace HB := Aside0.mk (below_step HB.out hb2); replace HC := Aside0.mk (stepN HC.out (by simp) hb2); obtain ⟨hc2, hf2⟩ := bcellN HC.out; clear hb2))
    all_goals (go_ret; refine ⟨?_, HB.out⟩; clear HB HC HT; refine ret_bool ?_; simp [*])
set_option maxHeartbeats 4000000 in
set_option maxRecDepth 100000 in
theorem binding0 (k : Int) (h1 : k ≠ 1) (h2 : k ≠ 2) (h3 : k ≠ 3) : Calls Try.prog 41 #[.agg #[v, .map (some m.a)], .agg #[.int .i64 k, .slice A1 n1 c1, .string fn, .slice A3 n3 c3, .slice A4 n4 c4, .slice A5 n5 c5, .slice A6 n6 c6, .slice A7 n7 c7], .int .i64 d] w fun e w' => e = .returned (.bool (false)) ∧ Below w.heap.size w w' := by
  have hu55 := Try.underlying55
  have hu64 := Try.underlying64
  have HB := Aside0.mk (((Below.refl _ w).alloc (Nat.le_refl _) (.cells #[v, .map (some m.a)] 55)).alloc (by simp) (.cells #[.int .i64 k, .slice A1 n1 c1, .string fn, .slice A3 n3 c3, .slice A4 n4 c4, .slice A5 n5 c5, .slice A6 n6 c6, .slice A7 n7 c7] 64))
  have HC := Aside0.mk (Below.refl (w.heap.size + 2) ((w.alloc (.cells #[v, .map (some m.a)] 55)).alloc (.cells #[.int .i64 k, .slice A1 n1 c1, .string fn, .slice A3 n3 c3, .slice A4 n4 c4, .slice A5 n5 c5, .slice A6 n6 c6, .slice A7 n7 c7] 64)))
  have es : fn.toList.isEmpty = sB fn := rfl
  have k1 : (k == 1) = false := by simpa using h1
  have k2 : (k == 2) = false := by simpa using h2
  have k3 : (k == 3) = false := by simpa using h3
  have l2 : (k != 2) = true := by simpa using h2
  have l3 : (k != 3) = true := by simpa using h3
  clear h1 h2 h3
  cases hs : sB fn <;> rw [hs] at es <;> clear hs
  all_goals
    go_enter Try.func41, Try.ntmps41
    go_wp2_with (first | (go_at_call 54; refine (nothing_calls _ _ _ _ _ _ _).mono ?_; rintro e w2 ⟨rfl, hb2⟩; replace HB := Aside0.mk (below_step HB.out hb2); replace HC := Aside0.mk (stepN HC.out (by simp) hb2); obtain ⟨hc2, hf2⟩ := bcellN HC.out; clear hb2))
    all_goals (go_ret; refine ⟨?_, HB.out⟩; clear HB HC; refine ret_bool ?_; simp [*])
include HT in
set_option maxHeartbeats 4000000 in
set_option maxRecDepth 100000 in
theorem binding3 (hd : 0 ≤ d ∧ d ≤ 6) (HY1 : Aside0 (∀ W, Below w.heap.size w W → Calls Try.prog 25 #[.agg #[v, .map (some m.a)], .agg #[.slice A4 n4 c4, .slice A5 n5 c5], .int .i64 (d + 1)] W fun e w' => e = .returned (.bool Y1) ∧ Below W.heap.size W w')) (HY2 : Aside0 (∀ W, Below w.heap.size w W → Calls Try.prog 25 #[.agg #[v, .map (some m.a)], .agg #[.slice A6 n6 c6, .slice A7 n7 c7], .int .i64 (d + 1)] W fun e w' => e = .returned (.bool Y2) ∧ Below W.heap.size W w')) : Calls Try.prog 41 #[.agg #[v, .map (some m.a)], .agg #[.int .i64 3, .slice A1 n1 c1, .string fn, .slice A3 n3 c3, .slice A4 n4 c4, .slice A5 n5 c5, .slice A6 n6 c6, .slice A7 n7 c7], .int .i64 d] w fun e w' => e = .returned (.bool (sB fn && (oB n3 && T && qB n1 n5 && qB n1 n7 && Y1 && Y2))) ∧ Below w.heap.size w w' := by
  have hu55 := Try.underlying55
  have hu64 := Try.underlying64
  have HB := Aside0.mk (((Below.refl _ w).alloc (Nat.le_refl _) (.cells #[v, .map (some m.a)] 55)).alloc (by simp) (.cells #[.int .i64 3, .slice A1 n1 c1, .string fn, .slice A3 n3 c3, .slice A4 n4 c4, .slice A5 n5 c5, .slice A6 n6 c6, .slice A7 n7 c7] 64))
  have HC := Aside0.mk (Below.refl (w.heap.size + 2) ((w.alloc (.cells #[v, .map (some m.a)] 55)).alloc (.cells #[.int .i64 3, .slice A1 n1 c1, .string fn, .slice A3 n3 c3, .slice A4 n4 c4, .slice A5 n5 c5, .slice A6 n6 c6, .slice A7 n7 c7] 64)))
  have es : fn.toList.isEmpty = sB fn := rfl
  have e3 := oB_eq n3
  have e5 := qB_eq n1 n5
  have e7 := qB_eq n1 n7
  obtain ⟨hd0, hd1⟩ := hd
  cases hs : sB fn <;> rw [hs] at es <;> clear hs
  all_goals
    go_enter Try.func41, Try.ntmps41
    go_wp2_with (first | (go_at_call 42; (with_reducible refine (HT.out _ HB.out).mono ?_); rintro e w2 ⟨rfl, hb2⟩; replace HB := Aside0.mk (below_step HB.out hb2); replace HC := Aside0.mk (stepN HC.out (by simp) hb2); obtain ⟨hc2, hf2⟩ := bcellN HC.out; clear hb2) | (go_at_call 25; (with_reducible refine (HY1.out _ HB.out).mono ?_); rintro e w2 ⟨rfl, hb2⟩; replace HB := Aside0.mk (below_step HB.out hb2); replace HC := Aside0.mk (stepN HC.out (by simp) hb2); obtain ⟨hc2, hf2⟩ := bcellN HC.out; clear hb2) | (go_at_call 25; (with_reducible refine (HY2.out _ HB.out).mono ?_); rintro e w2 ⟨rfl, hb2⟩; replace HB := Aside0.mk (below_step HB.out hb2); replace HC := Aside0.mk (stepN HC.out (by simp) hb2); obtain ⟨hc2, hf2⟩ := bcellN HC.out; clear hb2))
    all_goals (go_ret; refine ⟨?_, HB.out⟩; clear HB HC HT HY1 HY2; refine ret_bool ?_; simp [*])
include HT in
set_option maxHeartbeats 4000000 in
set_option maxRecDepth 100000 in
theorem binding2 (ok : Bool) (pn : ByteArray) (np nq ns : Nat) (HF : Aside0 (∀ W, Below w.heap.size w W → Calls Try.prog 21 #[v, .string fn] W fun e w' => (∃ X1 y1 X2 y2 X3 y3, e = .returned (.tuple #[.agg #[.string pn, .slice X1 np y1, .slice X2 nq y2, .slice X3 ns y3], .bool ok])) ∧ Below W.heap.size W w')) : Calls Try.prog 41 #[.agg #[v, .map (some m.a)], .agg #[.int .i64 2, .slice A1 n1 c1, .string fn, .slice A3 n3 c3, .slice A4 n4 c4, .slice A5 n5 c5, .slice A6 n6 c6, .slice A7 n7 c7], .int .i64 d] w fun e w' => e = .returned (.bool (nB n4 n5 && nB n6 n7 && (ok && qB n3 np && qB n1 ns && T))) ∧ Below w.heap.size w w' := by
  have hu55 := Try.underlying55
  have hu64 := Try.underlying64
  have HB := Aside0.mk (((Below.refl _ w).alloc (Nat.le_refl _) (.cells #[v, .map (some m.a)] 55)).alloc (by simp) (.cells #[.int .i64 2, .slice A1 n1 c1, .string fn, .slice A3 n3 c3, .slice A4 n4 c4, .slice A5 n5 c5, .slice A6 n6 c6, .slice A7 n7 c7] 64))
  have HC := Aside0.mk (Below.refl (w.heap.size + 2) ((w.alloc (.cells #[v, .map (some m.a)] 55)).alloc (.cells #[.int .i64 2, .slice A1 n1 c1, .string fn, .slice A3 n3 c3, .slice A4 n4 c4, .slice A5 n5 c5, .slice A6 n6 c6, .slice A7 n7 c7] 64)))
  have hu45 := Try.underlying45
  have hu43 := Try.underlying43
  have e3 := qB_eq n3 np
  have e1 := qB_eq n1 ns
  have hs0 : w.heap.size + 1 < ((w.alloc (.cells #[v, .map (some m.a)] 55)).alloc (.cells #[.int .i64 2, .slice A1 n1 c1, .string fn, .slice A3 n3 c3, .slice A4 n4 c4, .slice A5 n5 c5, .slice A6 n6 c6, .slice A7 n7 c7] 64)).heap.size := by simp
  have HS := Aside0.mk hs0
  clear hs0
  go_enter Try.func41, Try.ntmps41
  go_wp2_with (first | (go_at_call 54; refine (nothing_calls _ _ _ _ _ _ _).mono ?_; rintro e w2 ⟨rfl, hb2⟩; replace HB := Aside0.mk (below_step HB.out hb2); replace HC := Aside0.mk (stepN HC.out (by simp) hb2); obtain ⟨hc2, hf2⟩ := bcellN HC.out; clear hb2) | (go_at_call 21; (with_reducible refine (HF.out _ HB.out).mono ?_); rintro e w2 ⟨⟨X1, y1, X2, y2, X3, y3, rfl⟩, hb2⟩; replace HB := Aside0.mk (below_step HB.out hb2); replace HC := Aside0.mk (stepN HC.out (by simp) hb2); obtain ⟨hc2, hf2⟩ := bcellN HC.out; clear hb2; have hz1 := Nat.lt_of_lt_of_le HS.out HC.out.size; have hz2 := Nat.lt_of_succ_lt hz1) | (go_at_call 42; (with_reducible refine (HT.out _ (alN HB.out (Nat.le_refl _) _)).mono ?_); rintro e w2 ⟨rfl, hb2⟩; replace HB := Aside0.mk (below_step (alN HB.out (Nat.le_refl _) _) hb2); clear hc2 hf2 hz1 hz2 hb2))
  all_goals (go_ret; refine ⟨?_, by first | exact HB.out | exact alN HB.out (Nat.le_refl _) _⟩; clear HB HC HT HF HS; refine ret_bool ?_; simp [*])
end
end Go.Proofs.Ytdgpegkgelciaaa.PA
end
section
namespace Go.Proofs.Ytdgpegkgelciaaa.PA
open Go.RowKit Go.Proofs.YtdgpegkgelciaaaW.PrintWords Go.Proofs.YtdgpegkgelciaaaW.PrintLast Go.Proofs.YtdgpegkgelciaaaW.PrintMore
attribute [local go_sem] max2_int min2_int max_two min_two max_three min_three max_four min_four
set_option linter.unusedVariables false
set_option linter.unusedSimpArgs false
def slices_Index_string_string.l0 : Nat → List ByteArray → ByteArray → Int → Int → Option (Int)
 | 0, _, _, _, _ => none
 | k + 1, x0, x1, x7, x8 => if x8 < x7 then (if 0 ≤ x8 then (if x8 < (x0.length : Int) then (if x1.toList = (rdOf ByteArray.empty x0 x8).toList then (some x8) else (slices_Index_string_string.l0 k x0 x1 x7 (wrap64 (x8 + 1)))) else (none)) else (none)) else (some (-1))
def slices_Index_string_string.f (k : Nat) (l0 : List ByteArray) (a1 : ByteArray) : Option (Int) := slices_Index_string_string.l0 k l0 a1 (l0.length : Int) 0
theorem slices_Index_string_string.mono_l : ∀ k, (∀ y0 y1 y2 y3, LeO (slices_Index_string_string.l0 k y0 y1 y2 y3) (slices_Index_string_string.l0 (k + 1) y0 y1 y2 y3))
 | 0 => fun _ _ _ _ r h => by simp [slices_Index_string_string.l0] at h
 | k + 1 => by
  have ih0 := slices_Index_string_string.mono_l k
  ·intro y0 y1 y2 y3
   unfold slices_Index_string_string.l0
   repeat' first
   | (with_reducible exact ih0 _ _ _ _)
   | (with_reducible exact LeO.refl _)
   | (with_reducible exact LeO.none _)
   | (with_reducible refine LeO.ite ?_ ?_)
   | (with_reducible refine LeO.bind ?_ (fun _ => ?_))
   | exact ih0 _ _ _ _
   | exact LeO.none _
   | refine LeO.ite ?_ ?_
   | refine LeO.bind ?_ (fun _ => ?_)
theorem slices_Index_string_string.mono : ∀ a0 a1 k, LeO (slices_Index_string_string.f k a0 a1) (slices_Index_string_string.f (k + 1) a0 a1) := by
 intro a0 a1 k
 have ih0 := slices_Index_string_string.mono_l k
 unfold slices_Index_string_string.f
 repeat' first
   | (with_reducible exact ih0 _ _ _ _)
   | (with_reducible exact LeO.refl _)
   | (with_reducible exact LeO.none _)
   | (with_reducible refine LeO.ite ?_ ?_)
   | (with_reducible refine LeO.bind ?_ (fun _ => ?_))
   | exact ih0 _ _ _ _
   | exact LeO.none _
   | refine LeO.ite ?_ ?_
   | refine LeO.bind ?_ (fun _ => ?_)
set_option maxHeartbeats 8000000 in
set_option maxRecDepth 100000 in
theorem slices_Index_string_string.calls (k : Nat) (A0 : Option Addr) (c0 : Nat) (l0 : List ByteArray) (a1 : ByteArray) (r : Int) (w : World) (hr0 : Kd.C Kd.string w A0 l0.length l0) (hc0 : l0.length ≤ c0) (h : slices_Index_string_string.f k l0 a1 = some r) :
  Calls Try.prog 52 #[.slice A0 l0.length c0, .string a1] w fun e w' => e = .returned (.int .i64 r) ∧ Drawn0 w w' := by
 have HR0 := Aside0.mk hr0
 have HC0 := Aside0.mk hc0
 clear hr0 hc0
 have H : (slices_Index_string_string.l0 k l0 a1 (l0.length : Int) 0) = some r := h
 clear h
 have H' := Aside0.mk H
 clear H
 go_enter Try.func52, Try.ntmps52
 go_wp2
 go_loopg [8] k (fun kq v8 w' => ∃ (x8_1 : Int), v8 = .int .i64 x8_1 ∧ Aside0 (slices_Index_string_string.l0 kq l0 a1 (l0.length : Int) x8_1 = some r) ∧ Aside0 (kq ≤ k) ∧ Drawn0 w w')
 case atStart => exact ⟨(0), y7, H', ⟨Nat.le_refl _⟩, y12⟩
 case round =>
  clear H'
  try clear p2
  obtain ⟨x8_1, rfl, HA, HK1, ⟨m1, rfl⟩⟩ := hrel
  cases gk with
  | zero => exact absurd HA.out (by simp [slices_Index_string_string.l0])
  | succ k1 =>
   have H := HA.out
   clear HA
   simp only [slices_Index_string_string.l0] at H
   by_cases c3 : x8_1 < (l0.length : Int)
   ·rw [if_pos c3] at H
    have c3b0 : decide (x8_1 < (l0.length : Int)) = true := decide_eq_true c3
    clear c3
    by_cases c4 : 0 ≤ x8_1
    ·rw [if_pos c4] at H
     have c4b0 : decide (0 ≤ x8_1) = true := decide_eq_true c4
     clear c4
     by_cases c5 : x8_1 < (l0.length : Int)
     ·rw [if_pos c5] at H
      have c5b0 : decide (x8_1 < (l0.length : Int)) = true := decide_eq_true c5
      clear c5
      by_cases c6 : a1.toList = (rdOf ByteArray.empty l0 x8_1).toList
      ·rw [if_pos c6] at H
       have c6b0 : (a1.toList == (rdOf ByteArray.empty l0 x8_1).toList) = true := beq_iff_eq.mpr c6
       have c6b1 : (a1.toList != (rdOf ByteArray.empty l0 x8_1).toList) = false := bne_eq_false_iff_eq.mpr c6
       clear c6
       obtain rfl := Option.some.inj H
       have p415 : 0 ≤ (x8_1 : Int) := of_decide_eq_true y4
       have q415 : x8_1 < (l0.length : Int) := of_decide_eq_true y4
       obtain ⟨ad415, e415, hx415_0⟩ := Kd.at_string HR0.out x8_1 p415 q415
       cases e415
       replace p415 := eq_true p415
       replace q415 := eq_true q415
       go_wp2
       go_ret
       exact ⟨y7, y12⟩
      ·rw [if_neg c6] at H
       have c6b0 : (a1.toList == (rdOf ByteArray.empty l0 x8_1).toList) = false := beq_eq_false_iff_ne.mpr c6
       have c6b1 : (a1.toList != (rdOf ByteArray.empty l0 x8_1).toList) = true := bne_iff_ne.mpr c6
       have H' := Aside0.mk H
       clear H
       have p415 : 0 ≤ (x8_1 : Int) := of_decide_eq_true y4
       have q415 : x8_1 < (l0.length : Int) := of_decide_eq_true y4
       obtain ⟨ad415, e415, hx415_0⟩ := Kd.at_string HR0.out x8_1 p415 q415
       cases e415
       replace p415 := eq_true p415
       replace q415 := eq_true q415
       go_wp2
       go_roundg k1
       case measure => have := HK1.out; omega
       case rel => exact ⟨(wrap64 (x8_1 + 1)), y7, H', ⟨(y30 HK1.out)⟩, y12⟩
     ·rw [if_neg c5] at H
      exact absurd H (by simp)
    ·rw [if_neg c4] at H
     exact absurd H (by simp)
   ·rw [if_neg c3] at H
    have c3b0 : decide (x8_1 < (l0.length : Int)) = false := decide_eq_false c3
    clear c3
    obtain rfl := Option.some.inj H
    go_wp2
    go_ret
    exact ⟨y7, y12⟩
end Go.Proofs.Ytdgpegkgelciaaa.PA
end
section
namespace Go.Proofs.Ytdgpegkgelciaaa.PA
open Go.RowKit Go.Proofs.YtdgpegkgelciaaaW.PrintWords Go.Proofs.YtdgpegkgelciaaaW.PrintLast Go.Proofs.YtdgpegkgelciaaaW.PrintMore
attribute [local go_sem] max2_int min2_int max_two min_two max_three min_three max_four min_four
set_option linter.unusedVariables false
set_option linter.unusedSimpArgs false
def slices_Contains_string_string.f (k : Nat) (l0 : List ByteArray) (a1 : ByteArray) : Option (Bool) := (slices_Index_string_string.f k l0 a1).bind fun t416 => (some (decide (t416 ≥ 0)))
theorem slices_Contains_string_string.mono : ∀ a0 a1 k, LeO (slices_Contains_string_string.f k a0 a1) (slices_Contains_string_string.f (k + 1) a0 a1) := by
 intro a0 a1 k
 unfold slices_Contains_string_string.f
 repeat' first
   | (with_reducible exact slices_Index_string_string.mono _ _ _)
   | (with_reducible exact LeO.refl _)
   | (with_reducible exact LeO.none _)
   | (with_reducible refine LeO.ite ?_ ?_)
   | (with_reducible refine LeO.bind ?_ (fun _ => ?_))
   | exact slices_Index_string_string.mono _ _ _
   | exact LeO.none _
   | refine LeO.ite ?_ ?_
   | refine LeO.bind ?_ (fun _ => ?_)
set_option maxHeartbeats 8000000 in
set_option maxRecDepth 100000 in
theorem slices_Contains_string_string.calls (k : Nat) (A0 : Option Addr) (c0 : Nat) (l0 : List ByteArray) (a1 : ByteArray) (r : Bool) (w : World) (hr0 : Kd.C Kd.string w A0 l0.length l0) (hc0 : l0.length ≤ c0) (h : slices_Contains_string_string.f k l0 a1 = some r) :
  Calls Try.prog 39 #[.slice A0 l0.length c0, .string a1] w fun e w' => e = .returned (.bool r) ∧ Drawn0 w w' := by
 have HR0 := Aside0.mk hr0
 have HC0 := Aside0.mk hc0
 clear hr0 hc0
 have H : ((slices_Index_string_string.f k l0 a1).bind fun t416 => (some (decide (t416 ≥ 0)))) = some r := h
 clear h
 obtain ⟨t416, A30, H⟩ := ob H
 have A3 := Aside0.mk A30
 clear A30
 obtain rfl := Option.some.inj H
 go_enter Try.func39, Try.ntmps39
 go_wp2_with (first | ((with_reducible refine gate_callee (f := 52) rfl ?_); refine goesL_ (some 7) rfl rfl Try.func52 (by kernel_rfl) rfl #[.slice A0 l0.length c0, .string a1] rfl y3 ?_; (with_reducible refine (slices_Index_string_string.calls k _ _ l0 a1 t416 _ ?side1 ?side2 A3.out).mono ?_); (case side1 => exact y24 HR0.out); (case side2 => exact HC0.out); rintro e w' ⟨rfl, ⟨nd, rfl⟩⟩; refine ⟨_, rfl, ?_⟩))
 go_ret
 exact ⟨y7, y12⟩
end Go.Proofs.Ytdgpegkgelciaaa.PA
end
section
namespace Go.Proofs.Ytdgpegkgelciaaa.PA
open Go.RowKit Go.Proofs.YtdgpegkgelciaaaW.PrintWords Go.Proofs.YtdgpegkgelciaaaW.PrintLast Go.Proofs.YtdgpegkgelciaaaW.PrintMore
attribute [local go_sem] max2_int min2_int max_two min_two max_three min_three max_four min_four
set_option linter.unusedVariables false
set_option linter.unusedSimpArgs false
def impl_pureNames.l0 : Nat → List ByteArray → List ByteArray → Int → Int → Option (Bool)
 | 0, _, _, _, _ => none
 | k + 1, x0, x8, x9, x10 => if x10 < x9 then (if 0 ≤ x10 then (if x10 < (x8.length : Int) then ((impl_pureName.f k (rdOf ByteArray.empty x8 x10)).bind fun t418 => (if t418 = true then (if x10 ≤ (x0.length : Int) then ((slices_Contains_string_string.f k (x0.take (x10 : Int).toNat) (rdOf ByteArray.empty x8 x10)).bind fun t420 => (if t420 = true then (some false) else (impl_pureNames.l0 k x0 x8 x9 (wrap64 (x10 + 1))))) else (none)) else (some false))) else (none)) else (none)) else (some true)
def impl_pureNames.f (k : Nat) (l0 : List ByteArray) : Option (Bool) := if (l0.length : Int) > 60 then (some false) else (impl_pureNames.l0 k l0 l0 (l0.length : Int) 0)
theorem impl_pureNames.mono_l : ∀ k, (∀ y0 y1 y2 y3, LeO (impl_pureNames.l0 k y0 y1 y2 y3) (impl_pureNames.l0 (k + 1) y0 y1 y2 y3))
 | 0 => fun _ _ _ _ r h => by simp [impl_pureNames.l0] at h
 | k + 1 => by
  have ih0 := impl_pureNames.mono_l k
  ·intro y0 y1 y2 y3
   unfold impl_pureNames.l0
   repeat' first
   | (with_reducible exact ih0 _ _ _ _)
   | (with_reducible exact impl_pureName.mono _ _)
   | (with_reducible exact slices_Contains_string_string.mono _ _ _)
   | (with_reducible exact LeO.refl _)
   | (with_reducible exact LeO.none _)
   | (with_reducible refine LeO.ite ?_ ?_)
   | (with_reducible refine LeO.bind ?_ (fun _ => ?_))
   | exact ih0 _ _ _ _
   | exact impl_pureName.mono _ _
   | exact slices_Contains_string_string.mono _ _ _
   | exact LeO.none _
   | refine LeO.ite ?_ ?_
   | refine LeO.bind ?_ (fun _ => ?_)
theorem impl_pureNames.mono : ∀ a0 k, LeO (impl_pureNames.f k a0) (impl_pureNames.f (k + 1) a0) := by
 intro a0 k
 have ih0 := impl_pureNames.mono_l k
 unfold impl_pureNames.f
 repeat' first
   | (with_reducible exact ih0 _ _ _ _)
   | (with_reducible exact impl_pureName.mono _ _)
   | (with_reducible exact slices_Contains_string_string.mono _ _ _)
   | (with_reducible exact LeO.refl _)
   | (with_reducible exact LeO.none _)
   | (with_reducible refine LeO.ite ?_ ?_)
   | (with_reducible refine LeO.bind ?_ (fun _ => ?_))
   | exact ih0 _ _ _ _
   | exact impl_pureName.mono _ _
   | exact slices_Contains_string_string.mono _ _ _
   | exact LeO.none _
   | refine LeO.ite ?_ ?_
   | refine LeO.bind ?_ (fun _ => ?_)
set_option maxHeartbeats 8000000 in
set_option maxRecDepth 100000 in
theorem impl_pureNames.calls (k : Nat) (A0 : Option Addr) (c0 : Nat) (l0 : List ByteArray) (r : Bool) (w : World) (hr0 : Kd.C Kd.string w A0 l0.length l0) (hc0 : l0.length ≤ c0) (h : impl_pureNames.f k l0 = some r) :
  Calls Try.prog 23 #[.slice A0 l0.length c0] w fun e w' => e = .returned (.bool r) ∧ Drawn0 w w' := by
 have HR0 := Aside0.mk hr0
 have HC0 := Aside0.mk hc0
 clear hr0 hc0
 have H : (if (l0.length : Int) > 60 then (some false) else (impl_pureNames.l0 k l0 l0 (l0.length : Int) 0)) = some r := h
 clear h
 by_cases c2 : (l0.length : Int) > 60
 ·rw [if_pos c2] at H
  have c2b0 : decide (60 < (l0.length : Int)) = true := decide_eq_true c2
  have c2b1 : decide (60 < l0.length) = true := decide_eq_true (by omega)
  clear c2
  obtain rfl := Option.some.inj H
  go_enter Try.func23, Try.ntmps23
  go_wp2
  go_ret
  exact ⟨y7, y12⟩
 ·rw [if_neg c2] at H
  have c2b0 : decide (60 < (l0.length : Int)) = false := decide_eq_false c2
  have c2b1 : decide (60 < l0.length) = false := decide_eq_false (by omega)
  clear c2
  have H' := Aside0.mk H
  clear H
  go_enter Try.func23, Try.ntmps23
  go_wp2
  go_loopg [10] k (fun kq v10 w' => ∃ (x10_1 : Int), v10 = .int .i64 x10_1 ∧ Aside0 (impl_pureNames.l0 kq l0 l0 (l0.length : Int) x10_1 = some r) ∧ Aside0 (kq ≤ k) ∧ Drawn0 w w')
  case atStart => exact ⟨(0), y7, H', ⟨Nat.le_refl _⟩, y12⟩
  case round =>
   clear H'
   try clear c2
   try clear c2b0
   try clear c2b1
   try clear p2
   obtain ⟨x10_1, rfl, HA, HK1, ⟨m1, rfl⟩⟩ := hrel
   cases gk with
   | zero => exact absurd HA.out (by simp [impl_pureNames.l0])
   | succ k1 =>
    have H := HA.out
    clear HA
    simp only [impl_pureNames.l0] at H
    by_cases c3 : x10_1 < (l0.length : Int)
    ·rw [if_pos c3] at H
     have c3b0 : decide (x10_1 < (l0.length : Int)) = true := decide_eq_true c3
     clear c3
     by_cases c4 : 0 ≤ x10_1
     ·rw [if_pos c4] at H
      have c4b0 : decide (0 ≤ x10_1) = true := decide_eq_true c4
      clear c4
      by_cases c5 : x10_1 < (l0.length : Int)
      ·rw [if_pos c5] at H
       have c5b0 : decide (x10_1 < (l0.length : Int)) = true := decide_eq_true c5
       clear c5
       obtain ⟨t418, A60, H⟩ := ob H
       have A6 := Aside0.mk A60
       clear A60
       by_cases c7 : t418 = true
       ·subst c7
        rw [if_pos rfl] at H
        have c8b0 := eq_true (of_decide_eq_true y4 : 0 ≤ x10_1)
        by_cases c9 : x10_1 ≤ (l0.length : Int)
        ·rw [if_pos c9] at H
         have c9b0 := eq_true c9
         have c9b1 : decide (x10_1 ≤ (l0.length : Int)) = true := decide_eq_true c9
         clear c9
         obtain ⟨t420, A100, H⟩ := ob H
         have A10 := Aside0.mk A100
         clear A100
         have HZ11 := Aside0.mk H
         clear H
         have p417 : 0 ≤ (x10_1 : Int) := of_decide_eq_true y4
         have q417 : x10_1 < (l0.length : Int) := of_decide_eq_true y4
         obtain ⟨ad417, e417, hx417_0⟩ := Kd.at_string HR0.out x10_1 p417 q417
         cases e417
         replace p417 := eq_true p417
         replace q417 := eq_true q417
         go_upto_if 24 with (first | ((with_reducible refine gate_callee (f := 22) rfl ?_); refine goesL_ (some 16) rfl rfl Try.func22 (by kernel_rfl) rfl #[.string (rdOf ByteArray.empty l0 x10_1)] rfl y3 ?_; (with_reducible refine (impl_pureName.calls k1 (rdOf ByteArray.empty l0 x10_1) true _ A6.out).mono ?_); rintro e w' ⟨rfl, ⟨nd, rfl⟩⟩; refine ⟨_, rfl, ?_⟩; obtain ⟨i012, hi012, _, hsz12, _⟩ := info_parts info9; obtain ⟨hcut12, hA12, hC12⟩ := print_take_of (P := Try.prog) Value.string (⟨#[]⟩ : ByteArray) 31 9 .i64 Try.underlying31 hi012 hsz12 (some ad417) c0 l0 x10_1 (of_decide_eq_true y4) (of_decide_eq_true y4) HC0.out; have HR419 := Aside0.mk (Kd.C_of_reads (h1 := fun _ => rfl) (hA12 _ (Kd.reads_of_C HR0.out))); have HC419 := Aside0.mk hC12; clear hA12 hC12 hi012 hsz12) | (go_at_call 39; refine calls_of_args (args' := #[.slice (some ad417) (l0.take (x10_1 : Int).toNat).length c0, .string (rdOf ByteArray.empty l0 x10_1)]) (by first | (simp; done) | (simp; have h0_ : (x10_1 : Int) ≤ (l0.length : Int) := of_decide_eq_true y4; omega) | rfl) ?_; (with_reducible refine (slices_Contains_string_string.calls k1 _ _ (l0.take (x10_1 : Int).toNat) (rdOf ByteArray.empty l0 x10_1) t420 _ ?side1 ?side2 A10.out).mono ?_); (case side1 => exact y24 HR419.out); (case side2 => exact HC419.out); rintro e w' ⟨rfl, ⟨nd, rfl⟩⟩))
         (try simp only [Act.put, List.setIfInBounds_toArray, List.set_cons_zero, List.set_cons_succ])
         have H := HZ11.out
         clear HZ11
         by_cases c13 : t420 = true
         ·subst c13
          rw [if_pos rfl] at H
          obtain rfl := Option.some.inj H
          go_wp2
          go_ret
          exact ⟨y7, y12⟩
         ·replace c13 := Bool.eq_false_iff.mpr c13
          subst c13
          rw [if_neg (show ¬ (false = true) by decide)] at H
          have H' := Aside0.mk H
          clear H
          go_wp2
          go_roundg k1
          case measure => have := HK1.out; omega
          case rel => exact ⟨(wrap64 (x10_1 + 1)), y7, H', ⟨(y30 HK1.out)⟩, y12⟩
        ·rw [if_neg c9] at H
         exact absurd H (by simp)
       ·replace c7 := Bool.eq_false_iff.mpr c7
        subst c7
        rw [if_neg (show ¬ (false = true) by decide)] at H
        obtain rfl := Option.some.inj H
        have p417 : 0 ≤ (x10_1 : Int) := of_decide_eq_true y4
        have q417 : x10_1 < (l0.length : Int) := of_decide_eq_true y4
        obtain ⟨ad417, e417, hx417_0⟩ := Kd.at_string HR0.out x10_1 p417 q417
        cases e417
        replace p417 := eq_true p417
        replace q417 := eq_true q417
        go_wp2_with (first | ((with_reducible refine gate_callee (f := 22) rfl ?_); refine goesL_ (some 16) rfl rfl Try.func22 (by kernel_rfl) rfl #[.string (rdOf ByteArray.empty l0 x10_1)] rfl y3 ?_; (with_reducible refine (impl_pureName.calls k1 (rdOf ByteArray.empty l0 x10_1) false _ A6.out).mono ?_); rintro e w' ⟨rfl, ⟨nd, rfl⟩⟩; refine ⟨_, rfl, ?_⟩))
        go_ret
        exact ⟨y7, y12⟩
      ·rw [if_neg c5] at H
       exact absurd H (by simp)
     ·rw [if_neg c4] at H
      exact absurd H (by simp)
    ·rw [if_neg c3] at H
     have c3b0 : decide (x10_1 < (l0.length : Int)) = false := decide_eq_false c3
     clear c3
     obtain rfl := Option.some.inj H
     go_wp2
     go_ret
     exact ⟨y7, y12⟩
end Go.Proofs.Ytdgpegkgelciaaa.PA
end
section
namespace Go.Proofs.Ytdgpegkgelciaaa.PA
open Go.RowKit Go.MapKept Go.Proofs.YtdgpegkgelciaaaW.PrintWords Go.Proofs.YtdgpegkgelciaaaW.PrintLast Go.Proofs.YtdgpegkgelciaaaW.PrintMore
def okW (tk : List ByteArray → S78 → Bool) (ahead : List S45) (rec : List ByteArray → S43 → Bool) (l : List ByteArray) (b : S64) : Bool :=
  if b.f0 = 1 then nB b.f4.f0.length b.f4.f1.length && nB b.f5.f0.length b.f5.f1.length && sB b.f2 && (oB b.f1.length && oB b.f3.length && b.f3.all (tk l))
  else if b.f0 = 2 then nB b.f4.f0.length b.f4.f1.length && nB b.f5.f0.length b.f5.f1.length && ((pfind ahead b.f2).2 && qB b.f3.length (pfind ahead b.f2).1.f1.length && qB b.f1.length (pfind ahead b.f2).1.f2.f1.length && b.f3.all (tk l))
  else if b.f0 = 3 then sB b.f2 && (oB b.f3.length && b.f3.all (tk l) && qB b.f1.length b.f4.f1.length && qB b.f1.length b.f5.f1.length && rec l b.f4 && rec l b.f5)
  else false
def BodyOk (rec : List ByteArray → S43 → Bool) (d : Int) (AA : Option Addr) (cA : Nat) (ahead : List S45) : Prop := ∀ (m : Mp) (bd : S43) (A0 A1 : Option Addr) (c0 c1 : Nat) (W : World), HfM m W → Kd.C k45 W AA ahead.length ahead → Kd.C k64 W A0 bd.f0.length bd.f0 → bd.f0.length ≤ c0 → Kd.C k78 W A1 bd.f1.length bd.f1 → bd.f1.length ≤ c1 →
  Calls Try.prog 25 #[.agg #[.slice AA ahead.length cA, .map (some m.a)], .agg #[.slice A0 bd.f0.length c0, .slice A1 bd.f1.length c1], .int .i64 d] W fun e w' => e = .returned (.bool (rec m.l bd)) ∧ Below W.heap.size W w'
theorem binding_calls {tk : List ByteArray → S78 → Bool} (htk : TkOk tk) {rec : List ByteArray → S43 → Bool} {d : Int} (hd : 0 ≤ d ∧ d ≤ 6) {AA : Option Addr} {cA : Nat} {ahead : List S45} (h10 : ahead.length ≤ 10) (hrec : BodyOk rec (d + 1) AA cA ahead) (m : Mp) (b : S64) {A1 A3 A4 A5 A6 A7 : Option Addr} {c1 c3 c4 c5 c6 c7 : Nat} (w : World)
    (hm : HfM m w) (ha : Kd.C k45 w AA ahead.length ahead) (h3 : Kd.C k78 w A3 b.f3.length b.f3) (h4 : Kd.C k64 w A4 b.f4.f0.length b.f4.f0) (l4 : b.f4.f0.length ≤ c4) (h5 : Kd.C k78 w A5 b.f4.f1.length b.f4.f1) (l5 : b.f4.f1.length ≤ c5) (h6 : Kd.C k64 w A6 b.f5.f0.length b.f5.f0) (l6 : b.f5.f0.length ≤ c6) (h7 : Kd.C k78 w A7 b.f5.f1.length b.f5.f1) (l7 : b.f5.f1.length ≤ c7) :
    Calls Try.prog 41 #[.agg #[.slice AA ahead.length cA, .map (some m.a)], .agg #[.int .i64 b.f0, .slice A1 b.f1.length c1, .string b.f2, .slice A3 b.f3.length c3, .slice A4 b.f4.f0.length c4, .slice A5 b.f4.f1.length c5, .slice A6 b.f5.f0.length c6, .slice A7 b.f5.f1.length c7], .int .i64 d] w
      fun e w' => e = .returned (.bool (okW tk ahead rec m.l b)) ∧ Below w.heap.size w w' := by
  obtain ⟨kd, ns, fn, ts, th, el⟩ := b
  have HT : Aside0 (∀ W, Below w.heap.size w W → Calls Try.prog 42 #[.agg #[.slice AA ahead.length cA, .map (some m.a)], .slice A3 ts.length c3] W fun e w' => e = .returned (.bool (ts.all (tk m.l))) ∧ Below W.heap.size W w') :=
    ⟨fun W hb => terms_calls tk htk m _ A3 c3 ts W (hm.gd hb) (Kd.C_below h3 hb)⟩
  unfold okW
  by_cases k1 : kd = 1
  · subst k1
    rw [if_pos rfl]
    exact binding1 _ m _ A1 A3 A4 A5 A6 A7 c1 c3 c4 c5 c6 c7 d fn ns.length ts.length _ _ _ _ w HT
  · rw [if_neg k1]
    by_cases k2 : kd = 2
    · subst k2
      rw [if_pos rfl]
      refine binding2 _ m _ A1 A3 A4 A5 A6 A7 c1 c3 c4 c5 c6 c7 d fn ns.length ts.length _ _ _ _ w HT (pfind ahead fn).2 (pfind ahead fn).1.f0 (pfind ahead fn).1.f1.length (pfind ahead fn).1.f2.f0.length (pfind ahead fn).1.f2.f1.length ⟨fun W hb => ?_⟩
      exact find_calls AA cA ahead fn W (Kd.C_below ha hb) h10
    · rw [if_neg k2]
      by_cases k3 : kd = 3
      · subst k3
        rw [if_pos rfl]
        exact binding3 _ _ _ m _ A1 A3 A4 A5 A6 A7 c1 c3 c4 c5 c6 c7 d fn ns.length ts.length _ _ _ _ w HT hd ⟨fun W hb => hrec m th A4 A5 c4 c5 W (hm.gd hb) (Kd.C_below ha hb) (Kd.C_below h4 hb) l4 (Kd.C_below h5 hb) l5⟩ ⟨fun W hb => hrec m el A6 A7 c6 c7 W (hm.gd hb) (Kd.C_below ha hb) (Kd.C_below h6 hb) l6 (Kd.C_below h7 hb) l7⟩
      · rw [if_neg k3]
        exact binding0 m _ A1 A3 A4 A5 A6 A7 c1 c3 c4 c5 c6 c7 d fn ns.length ts.length _ _ _ _ w kd k1 k2 k3
def PnOk (pn : List ByteArray → Bool) : Prop := ∀ l, ∃ k, impl_pureNames.f k l = some (pn l)
def okBinds (pn : List ByteArray → Bool) (step : List ByteArray → S64 → Bool) : List ByteArray → List S64 → Option (List ByteArray)
  | l, [] => some l
  | l, b :: bs => if pn b.f1 && step l b then okBinds pn step (b.f1.foldl nadd l) bs else none
def okSays (tk : List ByteArray → S78 → Bool) (ts : List S78) : Option (List ByteArray) → Bool
  | some l => ts.all (tk l)
  | none => false
def okBody (tk : List ByteArray → S78 → Bool) (pn : List ByteArray → Bool) (ahead : List S45) : Nat → List ByteArray → S43 → Bool
  | 0, _, _ => false
  | n + 1, l, b => decide (b.f0.length ≤ 400) && decide (b.f1.length ≤ 60) && okSays tk b.f1 (okBinds pn (okW tk ahead (okBody tk pn ahead n)) l b.f0)
def Inner (w : World) (v : Value) (l : List ByteArray) (W0 : World) (g a : Nat) (W : World) : Prop :=
  w.heap.size + 2 ≤ g ∧ w.heap.size + 2 ≤ a ∧ g ≠ a ∧ W.heap[g]? = some (.cells #[v, .map (some a)] 55 (0, 0)) ∧ HfM ⟨a, l⟩ W ∧ Below (w.heap.size + 2) W0 W
theorem inner1 {w W0 w2 : World} {l : List ByteArray} (v : Value) (h0 : W0.heap.size = w.heap.size + 2) (hb : Below W0.drew.heap.size W0.drew w2) (hm : HfM ⟨W0.drew.heap.size, l⟩ w2) :
    Inner w v l W0 w2.heap.size (w.heap.size + 1 + 1) (w2.alloc (.cells #[v, .map (some (w.heap.size + 1 + 1))] 55)) := by
  have e : W0.drew.heap.size = w.heap.size + 1 + 1 := h0
  have hs : w.heap.size + 2 ≤ w2.heap.size := by have := hb.size; omega
  have ht := hm.lt
  refine ⟨hs, Nat.le_refl _, ?_, blk_new _ _, ?_, ?_⟩
  · simp only at ht; omega
  · rw [← e]; exact MapIs.alloc hm _
  · exact Below.alloc ((Below.drew (Below.refl (w.heap.size + 2) W0)).trans (hb.mono (by omega))) hs _
theorem inner2 {w W0 w2 : World} {l : List ByteArray} (v z0 z1 : Value) (h0 : W0.heap.size = w.heap.size + 2) (hb : Below (W0.drew.alloc (.cells #[z0, z1] 55)).heap.size (W0.drew.alloc (.cells #[z0, z1] 55)) w2) (hm : HfM ⟨(W0.drew.alloc (.cells #[z0, z1] 55)).heap.size, l⟩ w2) :
    Inner w v l W0 (w.heap.size + 1 + 1) (w.heap.size + 1 + 1 + 1) ((w2.setCell ⟨w.heap.size + 1 + 1, 0, none⟩ v).setCell ⟨w.heap.size + 1 + 1, 1, none⟩ (.map (some (w.heap.size + 1 + 1 + 1)))) := by
  have e0 : W0.drew.heap.size = w.heap.size + 1 + 1 := h0
  have e : (W0.drew.alloc (.cells #[z0, z1] 55)).heap.size = w.heap.size + 1 + 1 + 1 := by rw [World.size_alloc, e0]
  have hk : w2.heap[w.heap.size + 1 + 1]? = some (.cells #[z0, z1] 55 (0, 0)) := by
    have h := blk_below (blk_new W0.drew (.cells #[z0, z1] 55)) hb
    rwa [e0] at h
  have hB : Below (w.heap.size + 2) W0 w2 := (Below.alloc (Below.drew (Below.refl (w.heap.size + 2) W0)) (by omega) _).trans (hb.mono (by omega))
  refine ⟨Nat.le_refl _, by omega, by omega, ?_, ?_, Below.setCell (Below.setCell hB (Nat.le_refl _) _) (Nat.le_refl _) _⟩
  · exact blk_set (blk_set hk 0 _) 1 _
  · obtain ⟨es, clock, h1, h2⟩ := hm
    rw [e] at h1
    exact ⟨es, clock, (Below.heap_setCell _ _ _ _ (by simp)).trans ((Below.heap_setCell _ _ _ _ (by simp)).trans h1), h2⟩
theorem inner_below {w W0 wr : World} {v : Value} {l : List ByteArray} {g a : Nat} (h : Inner w v l W0 g a wr) (h0 : Below w.heap.size w W0) : Below w.heap.size w wr := h0.trans (h.2.2.2.2.2.mono (Nat.le_add_right _ 2))
theorem inner_step {w W0 wr W w3 : World} {v : Value} {l l2 : List ByteArray} {g a : Nat} (h : Inner w v l W0 g a wr) (h0 : w.heap.size + 2 ≤ W0.heap.size) (hb : Below wr.heap.size wr W) (hm : HfM ⟨a, l2⟩ w3) (hg : W.grownBy w3 (some a)) : Inner w v l2 W0 g a w3 := by
  obtain ⟨h1, h2, h3, h4, h5, h6⟩ := h
  have hs := Nat.le_trans h0 h6.size
  refine ⟨h1, h2, h3, blk_grown (blk_below h4 hb) hg (by simpa using h3), hm, Below.grown (h6.trans (hb.mono hs)) hg (Nat.le_trans hs hb.size) ?_⟩
  intro k hk
  injection hk with hk
  omega
theorem okBinds_yes {pn step} {l : List ByteArray} {b : S64} {bs : List S64} (h1 : pn b.f1 = true) (h2 : step l b = true) : okBinds pn step l (b :: bs) = okBinds pn step (b.f1.foldl nadd l) bs := by rw [okBinds, h1, h2]; rfl
theorem okBinds_no1 {pn step} {l : List ByteArray} {b : S64} {bs : List S64} (h1 : pn b.f1 = false) : okBinds pn step l (b :: bs) = none := by rw [okBinds, h1]; rfl
theorem okBinds_no2 {pn step} {l : List ByteArray} {b : S64} {bs : List S64} (h2 : step l b = false) : okBinds pn step l (b :: bs) = none := by rw [okBinds, h2, Bool.and_false]; rfl
theorem bcellC {W w1 : World} (hb : Below W.heap.size W w1) (b : Nat) : (b < W.heap.size → ∀ o, w1.cell? ⟨b, o, none⟩ = W.cell? ⟨b, o, none⟩) ∧ (b < W.heap.size → ∀ o, w1.frozen? ⟨b, o, none⟩ = W.frozen? ⟨b, o, none⟩) :=
  ⟨fun h o => hb.cell (p := ⟨b, o, none⟩) h, fun h o => hb.frozen (p := ⟨b, o, none⟩) h⟩
theorem cell2 (w : World) (o : Obj) (cs : Array Value) (t i : Nat) : ((w.alloc o).alloc (.cells cs t)).cell? ⟨w.heap.size + 1, i, none⟩ = cs[i]? := by
  have h := blk_new (w.alloc o) (.cells cs t)
  rw [World.size_alloc] at h
  exact blk_cell h i
section
variable {tk : List ByteArray → S78 → Bool} (htk : TkOk tk) {pn : List ByteArray → Bool} (hpn : PnOk pn) (h60 : ∀ l, pn l = true → l.length ≤ 60) {AA : Option Addr} {cA : Nat} {ahead : List S45} (h10 : ahead.length ≤ 10)
include htk hpn h60 h10
set_option maxHeartbeats 4000000 in
set_option maxRecDepth 100000 in
theorem body_calls : ∀ (n : Nat) (d : Int), d + n = 7 → n ≤ 6 → BodyOk (okBody tk pn ahead n) d AA cA ahead
  | 0, d, hd, _ => by
    intro m bd A0 A1 c0 c1 w _ _ _ _ _ _
    obtain rfl : d = 7 := by omega
    go_enter Try.func25, Try.ntmps25
    go_wp2
    go_ret
    exact ⟨rfl, ((Below.refl _ _).alloc (Nat.le_refl _) _).alloc (by simp) _⟩
  | n + 1, d, hd, hn => by
    intro m bd A0 A1 c0 c1 w hm ha hb0 lb0 hb1 lb1
    have ih := body_calls n (d + 1) (by omega) (by omega)
    have hd6 : decide (6 < d) = false := decide_eq_false (by omega)
    unfold okBody
    by_cases h400 : bd.f0.length ≤ 400
    case neg =>
      have t0 : decide ((400 : Int) < (bd.f0.length : Int)) = true := decide_eq_true (by omega)
      have t1 : decide (400 < bd.f0.length) = true := decide_eq_true (by omega)
      go_enter Try.func25, Try.ntmps25
      go_wp2
      go_ret
      exact ⟨by rw [decide_eq_false h400]; rfl, ((Below.refl _ _).alloc (Nat.le_refl _) _).alloc (by simp) _⟩
    have t0 : decide ((400 : Int) < (bd.f0.length : Int)) = false := decide_eq_false (by omega)
    have t1 : decide (400 < bd.f0.length) = false := decide_eq_false (by omega)
    by_cases h61 : bd.f1.length ≤ 60
    case neg =>
      have s0 : decide ((60 : Int) < (bd.f1.length : Int)) = true := decide_eq_true (by omega)
      have s1 : decide (60 < bd.f1.length) = true := decide_eq_true (by omega)
      go_enter Try.func25, Try.ntmps25
      go_wp2
      go_ret
      exact ⟨by rw [decide_eq_true h400, decide_eq_false h61]; rfl, ((Below.refl _ _).alloc (Nat.le_refl _) _).alloc (by simp) _⟩
    have s0 : decide ((60 : Int) < (bd.f1.length : Int)) = false := decide_eq_false (by omega)
    have s1 : decide (60 < bd.f1.length) = false := decide_eq_false (by omega)
    rw [decide_eq_true h400, decide_eq_true h61, Bool.true_and, Bool.true_and]
    have HM := Aside0.mk hm
    clear hm
    go_enter Try.func25, Try.ntmps25
    go_upto_region 3 with fail
    go_cut [7] from 24 (fun v7 wc => ∃ g a, v7 = .pointer (some ⟨g, 0, none⟩) ∧ Inner w (.slice AA ahead.length cA) m.l ((w.alloc (.cells #[.slice AA ahead.length cA, .map (some m.a)] 55)).alloc (.cells #[.slice A0 bd.f0.length c0, .slice A1 bd.f1.length c1] 43)) g a wc)
    case first =>
      go_region_with (go_at_call 40; refine (clone_calls m _ ?_).mono ?_; (show MapIs _ _ _); (repeat (first | exact HM.out | refine MapIs.drew ?_ | refine MapIs.alloc ?_ _)); rintro e w2 ⟨rfl, hm2, hb2⟩; have hb3 : Below (w.heap.size + 2) _ w2 := (by refine hb2.mono ?_; simp [World.drew]); obtain ⟨hc2, hf2⟩ := bcellN hb3; obtain ⟨hcB, hfB⟩ := bcellC hb2 (w.heap.size + 2); have hz : w.heap.size + 2 ≤ w2.heap.size := Nat.le_trans (by simp [World.drew]) hb2.size; have hz1 : w.heap.size + 1 < w2.heap.size := hz; have hz2 : w.heap.size < w2.heap.size := Nat.lt_of_succ_lt hz1; clear hb3 hz)
      all_goals (go_wp2_with fail; go_meet)
      all_goals first | exact ⟨_, _, rfl, inner1 _ (by simp) hb2 hm2⟩ | exact ⟨_, _, rfl, inner2 _ _ _ (by simp) hb2 hm2⟩
    case rest =>
      obtain ⟨g, a, rfl, HI0⟩ := hcut
      have HI0 := Aside0.mk HI0
      have HW := Aside0.mk (((Below.refl _ w).alloc (Nat.le_refl _) (.cells #[.slice AA ahead.length cA, .map (some m.a)] 55)).alloc (by simp) (.cells #[.slice A0 bd.f0.length c0, .slice A1 bd.f1.length c1] 43))
      have q0 : wc.cell? ⟨w.heap.size + 1, 0, none⟩ = some (.slice A0 bd.f0.length c0) := (HI0.out.2.2.2.2.2.cell (p := ⟨w.heap.size + 1, 0, none⟩) (by simp)).trans (cell2 _ _ _ _ _)
      have HA := Aside0.mk ha
      have HB0 := Aside0.mk hb0
      have HB1 := Aside0.mk hb1
      have IH := Aside0.mk ih
      clear ha hb0 hb1 ih
      have hn0 : bd.f0.length ≤ 400 := h400
      go_wp2
      go_loopg [33] (bd.f0.length + 1) (fun kq v33 w' => ∃ (j : Nat) (l' : List ByteArray), v33 = .int .i64 j ∧ Aside0 (kq + j = bd.f0.length + 1 ∧ j ≤ bd.f0.length) ∧ Aside0 (okBinds pn (okW tk ahead (okBody tk pn ahead n)) m.l bd.f0 = okBinds pn (okW tk ahead (okBody tk pn ahead n)) l' (bd.f0.drop j)) ∧ Aside0 (Inner w (.slice AA ahead.length cA) l' ((w.alloc (.cells #[.slice AA ahead.length cA, .map (some m.a)] 55)).alloc (.cells #[.slice A0 bd.f0.length c0, .slice A1 bd.f1.length c1] 43)) g a w'))
      case atStart => exact ⟨0, m.l, rfl, ⟨rfl, Nat.zero_le _⟩, ⟨rfl⟩, HI0⟩
      case round =>
        obtain ⟨j, l', rfl, HK, HF, HI⟩ := hrel
        have hBw := inner_below HI.out HW.out
        have hgb := HI.out.2.2.2.1
        have hgv : wr.cell? ⟨g, 0, none⟩ = some (.slice AA ahead.length cA) := (blk_cell hgb 0).trans rfl
        have hgm : wr.cell? ⟨g, 1, none⟩ = some (.map (some a)) := (blk_cell hgb 1).trans rfl
        have hgl : g < wr.heap.size := blk_lt hgb
        have hgl1 : g < wr.heap.size + 1 := Nat.lt_succ_of_lt hgl
        have q1 : wr.cell? ⟨w.heap.size + 1, 1, none⟩ = some (.slice A1 bd.f1.length c1) := (HI.out.2.2.2.2.2.cell (p := ⟨w.heap.size + 1, 1, none⟩) (by simp)).trans (cell2 _ _ _ _ _)
        have HBW := Aside0.mk hBw
        clear hBw hgb q0
        cases gk with
        | zero => exact absurd HK.out (by omega)
        | succ k1 =>
          by_cases hj : j < bd.f0.length
          · have d0 : decide ((j : Int) < (bd.f0.length : Int)) = true := decide_eq_true (by omega)
            have d1 : decide (j < bd.f0.length) = true := decide_eq_true hj
            have p0 : 0 ≤ (j : Int) := by omega
            have p1 : (j : Int) < (bd.f0.length : Int) := by omega
            obtain ⟨ad, B1, y1, B3, y3, B4, y4, B5, y5, B6, y6, B7, y7, e, x0, x1, x2, x3, x4, x5, x6, x7, _, i1, _, i3, m4, i4, m5, i5, m6, i6, m7, i7⟩ := at_T64 HB0.out (j : Int) p0 p1
            cases e
            replace x0 := pw_cell_below HBW.out x0
            replace x1 := pw_cell_below HBW.out x1
            replace x2 := pw_cell_below HBW.out x2
            replace x3 := pw_cell_below HBW.out x3
            replace x4 := pw_cell_below HBW.out x4
            replace x5 := pw_cell_below HBW.out x5
            replace x6 := pw_cell_below HBW.out x6
            replace x7 := pw_cell_below HBW.out x7
            simp only [Int.toNat_natCast] at x0 x1 x2 x3 x4 x5 x6 x7
            replace p0 := eq_true p0
            replace p1 := eq_true p1
            have HE0 : Aside0 (bd.f0.drop j = rd_T64 bd.f0 j :: bd.f0.drop (j + 1)) := ⟨by rw [List.drop_eq_getElem_cons hj]; simp [rd_T64, hj]⟩
            have HX := Aside0.mk ((Below.refl wr.heap.size wr).alloc (Nat.le_refl _) (.cells #[.int .i64 (rd_T64 bd.f0 j).f0, .slice B1 (rd_T64 bd.f0 j).f1.length y1, .string (rd_T64 bd.f0 j).f2, .slice B3 (rd_T64 bd.f0 j).f3.length y3, .slice B4 (rd_T64 bd.f0 j).f4.f0.length y4, .slice B5 (rd_T64 bd.f0 j).f4.f1.length y5, .slice B6 (rd_T64 bd.f0 j).f5.f0.length y6, .slice B7 (rd_T64 bd.f0 j).f5.f1.length y7] 64))
            have HP : Aside0 (∀ W, Below wr.heap.size wr W → Calls Try.prog 23 #[.slice B1 (rd_T64 bd.f0 j).f1.length y1] W fun e w' => e = .returned (.bool (pn (rd_T64 bd.f0 j).f1)) ∧ Drawn0 W w') := ⟨fun W hb => by
              obtain ⟨k, hk⟩ := hpn (rd_T64 bd.f0 j).f1
              exact impl_pureNames.calls k B1 y1 _ _ W (Kd.C_below i1 (below_step HBW.out hb)) (by assumption) hk⟩
            have HQ : Aside0 (∀ W, Below wr.heap.size wr W → Calls Try.prog 41 #[.agg #[.slice AA ahead.length cA, .map (some a)], .agg #[.int .i64 (rd_T64 bd.f0 j).f0, .slice B1 (rd_T64 bd.f0 j).f1.length y1, .string (rd_T64 bd.f0 j).f2, .slice B3 (rd_T64 bd.f0 j).f3.length y3, .slice B4 (rd_T64 bd.f0 j).f4.f0.length y4, .slice B5 (rd_T64 bd.f0 j).f4.f1.length y5, .slice B6 (rd_T64 bd.f0 j).f5.f0.length y6, .slice B7 (rd_T64 bd.f0 j).f5.f1.length y7], .int .i64 d] W fun e w' => e = .returned (.bool ((okW tk ahead (okBody tk pn ahead n)) l' (rd_T64 bd.f0 j))) ∧ Below W.heap.size W w') := ⟨fun W hb => by
              have hW := below_step HBW.out hb
              exact binding_calls htk ⟨by omega, by omega⟩ h10 IH.out ⟨a, l'⟩ (rd_T64 bd.f0 j) W (HfM.gd HI.out.2.2.2.2.1 hb) (Kd.C_below HA.out hW) (Kd.C_below i3 hW) (Kd.C_below i4 hW) m4 (Kd.C_below i5 hW) m5 (Kd.C_below i6 hW) m6 (Kd.C_below i7 hW) m7⟩
            have HD : Aside0 (pn (rd_T64 bd.f0 j).f1 = true → ∀ W, Below wr.heap.size wr W → Calls Try.prog 24 #[.agg #[.slice AA ahead.length cA, .map (some a)], .slice B1 (rd_T64 bd.f0 j).f1.length y1] W fun e w' => e = .returned (.tuple #[]) ∧ HfM ⟨a, (rd_T64 bd.f0 j).f1.foldl nadd l'⟩ w' ∧ W.grownBy w' (some a)) := ⟨fun hp W hb =>
              bind_calls ⟨a, l'⟩ _ B1 y1 _ W (HfM.gd HI.out.2.2.2.2.1 hb) (Kd.C_below i1 (below_step HBW.out hb)) (h60 _ hp)⟩
            clear i1 i3 i4 i5 i6 i7 m4 m5 m6 m7
            cases hp : pn (rd_T64 bd.f0 j).f1 with
            | false =>
              rw [hp] at HP
              have HV : Aside0 (okBinds pn (okW tk ahead (okBody tk pn ahead n)) m.l bd.f0 = none) := ⟨by rw [HF.out, HE0.out, okBinds_no1 hp]⟩
              clear HF HE0 hp HQ HD
              go_wp2_with (go_at_call 23; (with_reducible refine (HP.out _ HX.out).mono ?_); rintro e w2 ⟨rfl, nd, rfl⟩; replace HX := Aside0.mk (pw_below_drewN HX.out nd))
              go_ret
              exact ⟨by rw [HV.out]; rfl, below_step HBW.out HX.out⟩
            | true =>
              rw [hp] at HP
              replace HD := Aside0.mk (HD.out hp)
              cases hq : (okW tk ahead (okBody tk pn ahead n)) l' (rd_T64 bd.f0 j) with
              | false =>
                rw [hq] at HQ
                have HV : Aside0 (okBinds pn (okW tk ahead (okBody tk pn ahead n)) m.l bd.f0 = none) := ⟨by rw [HF.out, HE0.out, okBinds_no2 hq]⟩
                clear HF HE0 hp hq
                go_wp2_with (first | (go_at_call 23; (with_reducible refine (HP.out _ HX.out).mono ?_); rintro e w2 ⟨rfl, nd, rfl⟩; replace HX := Aside0.mk (pw_below_drewN HX.out nd)) | (go_at_call 41; (with_reducible refine (HQ.out _ HX.out).mono ?_); rintro e w2 ⟨rfl, hb2⟩; replace HX := Aside0.mk (below_step HX.out hb2)))
                go_ret
                exact ⟨by rw [HV.out]; rfl, below_step HBW.out HX.out⟩
              | true =>
                rw [hq] at HQ
                have HV : Aside0 (okBinds pn (okW tk ahead (okBody tk pn ahead n)) m.l bd.f0 = okBinds pn (okW tk ahead (okBody tk pn ahead n)) ((rd_T64 bd.f0 j).f1.foldl nadd l') (bd.f0.drop (j + 1))) := ⟨by rw [HF.out, HE0.out, okBinds_yes hp hq]⟩
                clear HF HE0 hp hq
                go_wp2_with (first | (go_at_call 23; (with_reducible refine (HP.out _ HX.out).mono ?_); rintro e w2 ⟨rfl, nd, rfl⟩; replace HX := Aside0.mk (pw_below_drewN HX.out nd)) | (go_at_call 41; (with_reducible refine (HQ.out _ HX.out).mono ?_); rintro e w2 ⟨rfl, hb2⟩; replace HX := Aside0.mk (below_step HX.out hb2); have hb3 : Below (wr.heap.size + 1) _ w2 := (by refine hb2.mono ?_; simp [World.drewN]); obtain ⟨hc2, hf2⟩ := bcellN hb3; clear hb3) | (go_at_call 24; (with_reducible refine (HD.out _ HX.out).mono ?_); rintro e w3 ⟨rfl, hm3, hg3⟩; have HS := Aside0.mk (inner_step HI.out (by simp) HX.out hm3 hg3); clear hm3 hg3))
                go_roundg k1
                case measure => omega
                case rel => exact ⟨j + 1, _, by first | simp | (rw [w64 _ (by omega)]; simp), ⟨by have := HK.out; omega, hj⟩, HV, HS⟩
          · have d0 : decide ((j : Int) < (bd.f0.length : Int)) = false := decide_eq_false (by omega)
            have d1 : decide (j < bd.f0.length) = false := decide_eq_false hj
            have HT : Aside0 (Calls Try.prog 42 #[.agg #[.slice AA ahead.length cA, .map (some a)], .slice A1 bd.f1.length c1] wr fun e w' => e = .returned (.bool (bd.f1.all (tk l'))) ∧ Below wr.heap.size wr w') := ⟨terms_calls tk htk ⟨a, l'⟩ _ A1 c1 _ wr HI.out.2.2.2.2.1 (Kd.C_below HB1.out HBW.out)⟩
            have HV : Aside0 (okBinds pn (okW tk ahead (okBody tk pn ahead n)) m.l bd.f0 = some l') := ⟨by rw [HF.out, List.drop_eq_nil_of_le (by omega), okBinds]⟩
            clear HF
            go_wp2_with (go_at_call 42; (with_reducible refine HT.out.mono ?_); rintro e w2 ⟨rfl, hb2⟩)
            go_ret
            exact ⟨by rw [HV.out]; rfl, below_step HBW.out hb2⟩
end
end Go.Proofs.Ytdgpegkgelciaaa.PA
end
section
namespace Go.Proofs.Ytdgpegkgelciaaa.PA
open Go.RowKit Go.MapKept Go.Proofs.YtdgpegkgelciaaaW.PrintWords Go.Proofs.YtdgpegkgelciaaaW.PrintLast Go.Proofs.YtdgpegkgelciaaaW.PrintMore
def PwOk (pw : ByteArray → Bool) : Prop := ∀ s, ∃ k, impl_pureName.f k s = some (pw s)
def okAt (tk : List ByteArray → S78 → Bool) (pn : List ByteArray → Bool) (pw : ByteArray → Bool) (l : List S45) (i : Nat) : Bool :=
  !(pfind (l.take i) (rd_T45 l i).f0).2 && pw (rd_T45 l i).f0 && pn (rd_T45 l i).f1 && okBody tk pn (l.take i) 6 ((rd_T45 l i).f1.foldl nadd []) (rd_T45 l i).f2
def okFrom (tk : List ByteArray → S78 → Bool) (pn : List ByteArray → Bool) (pw : ByteArray → Bool) (l : List S45) (i : Nat) : Bool := (List.range' i (l.length - i)).all (okAt tk pn pw l)
def okPure (tk : List ByteArray → S78 → Bool) (pn : List ByteArray → Bool) (pw : ByteArray → Bool) (l : List S45) : Bool := decide (l.length ≤ 10) && okFrom tk pn pw l 0
theorem okFrom_end {tk pn pw} {l : List S45} {i : Nat} (h : ¬ i < l.length) : okFrom tk pn pw l i = true := by
  unfold okFrom
  rw [show l.length - i = 0 by omega]
  rfl
theorem okFrom_step {tk pn pw} {l : List S45} {i : Nat} (h : i < l.length) : okFrom tk pn pw l i = (okAt tk pn pw l i && okFrom tk pn pw l (i + 1)) := by
  unfold okFrom
  rw [show l.length - i = (l.length - (i + 1)) + 1 by omega, List.range'_succ, List.all_cons]
theorem slice_h (A : Option Addr) (n c j : Nat) (h : j ≤ c) (W : World) : (Instr.slice 25 (.slice A n c) none (some (.int .i64 (j : Int))) none).run Try.prog W = .ok (.slice A j c) W := by
  obtain ⟨i0, hi0, _, hsz, _⟩ := info_parts info45
  have hel : Try.prog.elem 25 = 45 := by simp [Program.elem, Try.underlying25]
  have hu : Try.prog.underlying 25 = some (.slice (Try.prog.elem 25)) := by rw [hel]; exact Try.underlying25
  have ha : (A.map fun x => x.add 0) = A := by cases A <;> simp [Addr.add]
  rw [run_slice_h W 25 A n c hu .i64 j (by omega) (by omega), hel]
  simp [sizeOf, typeInfo, hi0, hsz, sliced, Result.andThen, ha]
theorem bind_after {wc w3 : World} {n : Nat} {v : Value} (hg : (((wc.drewN n).alloc (.map #[] 0)).alloc (.cells #[v, .map (some wc.heap.size)] 55)).grownBy w3 (some wc.heap.size)) : Below wc.heap.size wc w3 ∧ w3.heap[wc.heap.size + 1]? = some (.cells #[v, .map (some wc.heap.size)] 55 (0, 0)) := by
  have h1 : ((wc.drewN n).alloc (.map #[] 0)).heap.size = wc.heap.size + 1 := World.size_alloc _ _
  refine ⟨Below.grown (alN (alN (pw_below_drewN (Below.refl _ _) n) (Nat.le_refl _) _) (Nat.le_refl _) _) hg (by rw [World.size_alloc, h1]; omega) (fun k hk => by injection hk with hk; omega), ?_⟩
  have h := blk_grown (blk_new ((wc.drewN n).alloc (.map #[] 0)) (.cells #[v, .map (some wc.heap.size)] 55)) hg (by rw [h1]; simp)
  rwa [h1] at h
theorem size_drew (w : World) : w.drew.heap.size = w.heap.size := rfl
section
variable {tk : List ByteArray → S78 → Bool} (htk : TkOk tk) {pn : List ByteArray → Bool} (hpn : PnOk pn) (h60 : ∀ l, pn l = true → l.length ≤ 60) {pw : ByteArray → Bool} (hpw : PwOk pw)
include htk hpn h60 hpw
set_option maxHeartbeats 4000000 in
set_option maxRecDepth 100000 in
theorem pure_calls (A : Option Addr) (c : Nat) (l : List S45) (w : World) (hr : Kd.C k45 w A l.length l) (hc : l.length ≤ c) :
    Calls Try.prog 9 #[.slice A l.length c] w fun e w' => e = .returned (.bool (okPure tk pn pw l)) ∧ Below w.heap.size w w' := by
  have hu45 := Try.underlying45
  have hu43 := Try.underlying43
  have hu25 := Try.underlying25
  have hu55 := Try.underlying55
  have hmm := @run_makeMap_plain Try.prog
  unfold okPure
  by_cases h10 : l.length ≤ 10
  case neg =>
    have t0 : decide ((10 : Int) < (l.length : Int)) = true := decide_eq_true (by omega)
    have t1 : decide (10 < l.length) = true := decide_eq_true (by omega)
    go_enter Try.func9, Try.ntmps9
    go_wp2
    go_ret
    exact ⟨by rw [decide_eq_false h10]; rfl, Below.refl _ _⟩
  have t0 : decide ((10 : Int) < (l.length : Int)) = false := decide_eq_false (by omega)
  have t1 : decide (10 < l.length) = false := decide_eq_false (by omega)
  rw [decide_eq_true h10, Bool.true_and]
  have HR := Aside0.mk hr
  clear hr
  go_enter Try.func9, Try.ntmps9
  go_wp2
  go_loopg [13] (l.length + 1) (fun kq v13 w' => ∃ j : Nat, v13 = .int .i64 j ∧ Aside0 (kq + j = l.length + 1 ∧ j ≤ l.length) ∧ Aside0 (okFrom tk pn pw l 0 = okFrom tk pn pw l j) ∧ Aside0 (Below w.heap.size w w'))
  case atStart => exact ⟨0, rfl, ⟨rfl, Nat.zero_le _⟩, ⟨rfl⟩, ⟨Below.refl _ _⟩⟩
  case round =>
    obtain ⟨j, rfl, HK, HF, HB⟩ := hrel
    cases gk with
    | zero => exact absurd HK.out (by omega)
    | succ k1 =>
      by_cases hj : j < l.length
      · have d0 : decide ((j : Int) < (l.length : Int)) = true := decide_eq_true (by omega)
        have d1 : decide (j < l.length) = true := decide_eq_true hj
        have p0 : 0 ≤ (j : Int) := by omega
        have p1 : (j : Int) < (l.length : Int) := by omega
        have hjc : (j : Int) ≤ (c : Int) := by omega
        obtain ⟨ad, A1, c1, A2, c2, A3, c3, e, x0, x1, x2, x3, m1, i1, m2, i2, m3, i3⟩ := at_T45 HR.out (j : Int) p0 p1
        cases e
        replace x0 := pw_cell_below HB.out x0
        replace x1 := pw_cell_below HB.out x1
        replace x2 := pw_cell_below HB.out x2
        replace x3 := pw_cell_below HB.out x3
        simp only [Int.toNat_natCast] at x0 x1 x2 x3
        replace p0 := eq_true p0
        replace p1 := eq_true p1
        have hcut := slice_h (some ad) l.length c j (by omega)
        have hlt : (l.take j).length = j := by rw [List.length_take]; omega
        have hCt : Kd.C k45 w (some ad) j (l.take j) := by have h := Kd.C_take HR.out (m := j) (by omega); rwa [hlt] at h
        have HF1 : Aside0 (∀ W, Below w.heap.size w W → Calls Try.prog 21 #[.slice (some ad) j c, .string (rd_T45 l j).f0] W fun e w' => (∃ A1 c1 A2 c2 A3 c3, e = .returned (.tuple #[.agg #[.string (pfind (l.take j) (rd_T45 l j).f0).1.f0, .slice A1 (pfind (l.take j) (rd_T45 l j).f0).1.f1.length c1, .slice A2 (pfind (l.take j) (rd_T45 l j).f0).1.f2.f0.length c2, .slice A3 (pfind (l.take j) (rd_T45 l j).f0).1.f2.f1.length c3], .bool (pfind (l.take j) (rd_T45 l j).f0).2])) ∧ Below W.heap.size W w') := ⟨fun W hb => by
          have h := find_calls (some ad) c (l.take j) (rd_T45 l j).f0 W (by rw [hlt]; exact Kd.C_below hCt hb) (by omega)
          rwa [hlt] at h⟩
        clear hlt hCt
        have HX := Aside0.mk ((Below.refl wr.heap.size wr).alloc (Nat.le_refl _) (.cells #[.string (rd_T45 l j).f0, .slice A1 (rd_T45 l j).f1.length c1, .slice A2 (rd_T45 l j).f2.f0.length c2, .slice A3 (rd_T45 l j).f2.f1.length c3] 45))
        go_upto_region 6 with fail
        go_cut [5, 6, 13] from 13 to 54 (fun v5 v6 v13 wc => v6 = .bool (pfind (l.take j) (rd_T45 l j).f0).2 ∧ v13 = .int .i64 (j : Int) ∧ Aside0 (Below (wr.heap.size + 1) (wr.alloc (.cells #[.string (rd_T45 l j).f0, .slice A1 (rd_T45 l j).f1.length c1, .slice A2 (rd_T45 l j).f2.f0.length c2, .slice A3 (rd_T45 l j).f2.f1.length c3] 45)) wc))
        case first =>
          go_region_with (go_at_call 21; refine (HF1.out _ ?_).mono ?_; (first | exact Below.drew (below_step HB.out HX.out) | exact alN (Below.drew (below_step HB.out HX.out)) (Nat.le_refl _) _); rintro e w2 ⟨⟨X1, y1, X2, y2, X3, y3, rfl⟩, hb2⟩; have hb3 : Below (wr.heap.size + 1) _ w2 := (by refine hb2.mono ?_; simp [World.drew]); obtain ⟨hc2, hf2⟩ := bcellN hb3; obtain ⟨hcB, hfB⟩ := bcellC hb2 (wr.heap.size + 1); have hz : wr.heap.size < w2.heap.size := Nat.lt_of_lt_of_le (by simp only [size_drew, World.size_alloc]; omega) hb2.size; have HY := Aside0.mk hb3; clear hb3)
          all_goals (go_wp2_with fail; go_meet)
          all_goals (refine ⟨rfl, rfl, ⟨?_⟩⟩; have hy := HY.out; clear HY)
          all_goals repeat (first | exact (Below.drew (Below.refl _ _)).trans hy | exact (alN (Below.drew (Below.refl _ _)) (by simp) _).trans hy | refine Below.setCell ?_ (by simp) _ | refine alN ?_ (by simp) _)
        case rest =>
          obtain ⟨rfl, rfl, HC⟩ := hcut
          have hWr : Below w.heap.size w wc := below_step HB.out (HX.out.trans (HC.out.mono (Nat.le_succ _)))
          have hgl : wr.heap.size < wc.heap.size := Nat.lt_of_lt_of_le (by simp) HC.out.size
          have b0 : wc.cell? ⟨wr.heap.size, 0, none⟩ = some (.string (rd_T45 l j).f0) := (HC.out.cell (p := ⟨wr.heap.size, 0, none⟩) (by simp)).trans ((blk_cell (blk_new _ _) 0).trans rfl)
          have b1 : wc.cell? ⟨wr.heap.size, 1, none⟩ = some (.slice A1 (rd_T45 l j).f1.length c1) := (HC.out.cell (p := ⟨wr.heap.size, 1, none⟩) (by simp)).trans ((blk_cell (blk_new _ _) 1).trans rfl)
          have b2 : wc.cell? ⟨wr.heap.size, 2, none⟩ = some (.slice A2 (rd_T45 l j).f2.f0.length c2) := (HC.out.cell (p := ⟨wr.heap.size, 2, none⟩) (by simp)).trans ((blk_cell (blk_new _ _) 2).trans rfl)
          have b3 : wc.cell? ⟨wr.heap.size, 3, none⟩ = some (.slice A3 (rd_T45 l j).f2.f1.length c3) := (HC.out.cell (p := ⟨wr.heap.size, 3, none⟩) (by simp)).trans ((blk_cell (blk_new _ _) 3).trans rfl)
          have hgl1 : wr.heap.size < wc.heap.size + 1 := Nat.lt_succ_of_lt hgl
          have b4 : ∀ (n : Nat) (o1 o2 : Obj), (((wc.drewN n).alloc o1).alloc o2).cell? ⟨wr.heap.size, 1, none⟩ = some (.slice A1 (rd_T45 l j).f1.length c1) := fun n o1 o2 => pw_cell_below (alN (alN (pw_below_drewN (Below.refl _ _) n) (Nat.le_refl _) o1) (Nat.le_refl _) o2) b1
          have HW := Aside0.mk hWr
          clear hWr
          have HP : Aside0 (∀ W, Below wc.heap.size wc W → Calls Try.prog 23 #[.slice A1 (rd_T45 l j).f1.length c1] W fun e w' => e = .returned (.bool (pn (rd_T45 l j).f1)) ∧ Drawn0 W w') := ⟨fun W hb => by
            obtain ⟨k, hk⟩ := hpn (rd_T45 l j).f1
            exact impl_pureNames.calls k A1 c1 _ _ W (Kd.C_below i1 (below_step HW.out hb)) m1 hk⟩
          have HN : Aside0 (∀ W, Calls Try.prog 22 #[.string (rd_T45 l j).f0] W fun e w' => e = .returned (.bool (pw (rd_T45 l j).f0)) ∧ Drawn0 W w') := ⟨fun W => by
            obtain ⟨k, hk⟩ := hpw (rd_T45 l j).f0
            exact impl_pureName.calls k _ _ W hk⟩
          have HD : Aside0 (pn (rd_T45 l j).f1 = true → ∀ W a, Below w.heap.size w W → HfM ⟨a, []⟩ W → Calls Try.prog 24 #[.agg #[.slice (some ad) j c, .map (some a)], .slice A1 (rd_T45 l j).f1.length c1] W fun e w' => e = .returned (.tuple #[]) ∧ HfM ⟨a, (rd_T45 l j).f1.foldl nadd []⟩ w' ∧ W.grownBy w' (some a)) := ⟨fun hp W a hb hm =>
            bind_calls ⟨a, []⟩ _ A1 c1 _ W hm (Kd.C_below i1 hb) (h60 _ hp)⟩
          have HQ : Aside0 (∀ W a, Below w.heap.size w W → HfM ⟨a, (rd_T45 l j).f1.foldl nadd []⟩ W → Calls Try.prog 25 #[.agg #[.slice (some ad) j c, .map (some a)], .agg #[.slice A2 (rd_T45 l j).f2.f0.length c2, .slice A3 (rd_T45 l j).f2.f1.length c3], .int .i64 1] W fun e w' => e = .returned (.bool (okBody tk pn (l.take j) 6 ((rd_T45 l j).f1.foldl nadd []) (rd_T45 l j).f2)) ∧ Below W.heap.size W w') := ⟨fun W a hW hm => by
            have hlt : (l.take j).length = j := by rw [List.length_take]; omega
            have h := body_calls htk hpn h60 (AA := some ad) (cA := c) (ahead := l.take j) (by omega) 6 1 (by omega) (by omega) ⟨a, (rd_T45 l j).f1.foldl nadd []⟩ (rd_T45 l j).f2 A2 A3 c2 c3 W hm (Kd.C_below (Kd.C_take HR.out (by omega)) hW) (Kd.C_below i2 hW) m2 (Kd.C_below i3 hW) m3
            rwa [hlt] at h⟩
          clear i1 i2 i3 HX HC HF1
          cases hs : (pfind (l.take j) (rd_T45 l j).f0).2 with
          | true =>
            have HV : Aside0 (okFrom tk pn pw l 0 = false) := ⟨by rw [HF.out, okFrom_step hj, okAt, hs]; rfl⟩
            clear hs HF
            go_wp2
            go_ret
            exact ⟨by rw [HV.out]; rfl, by first | exact HW.out | exact pw_below_drewN HW.out _⟩
          | false =>
            cases hn : pw (rd_T45 l j).f0 with
            | false =>
              have HV : Aside0 (okFrom tk pn pw l 0 = false) := ⟨by rw [HF.out, okFrom_step hj, okAt, hs, hn]; rfl⟩
              rw [hn] at HN
              clear hs hn HF
              go_wp2_with (go_at_call 22; (with_reducible refine (HN.out _).mono ?_); rintro e w2 ⟨rfl, nd, rfl⟩)
              go_ret
              exact ⟨by rw [HV.out]; rfl, by first | exact HW.out | exact pw_below_drewN HW.out _⟩
            | true =>
              rw [hn] at HN
              cases hp : pn (rd_T45 l j).f1 with
              | false =>
                have HV : Aside0 (okFrom tk pn pw l 0 = false) := ⟨by rw [HF.out, okFrom_step hj, okAt, hs, hn, hp]; rfl⟩
                rw [hp] at HP
                clear hs hn hp HF
                go_wp2_with (first | (go_at_call 22; (with_reducible refine (HN.out _).mono ?_); rintro e w2 ⟨rfl, nd, rfl⟩) | (go_at_call 23; (refine (HP.out _ (pw_below_drewN (Below.refl _ _) _)).mono ?_); rintro e w2 ⟨rfl, nd, rfl⟩))
                go_ret
                exact ⟨by rw [HV.out]; rfl, by first | exact HW.out | exact pw_below_drewN HW.out _⟩
              | true =>
                rw [hp] at HP
                replace HD := Aside0.mk (HD.out hp)
                cases hq : okBody tk pn (l.take j) 6 ((rd_T45 l j).f1.foldl nadd []) (rd_T45 l j).f2 with
                | false =>
                  have HV : Aside0 (okFrom tk pn pw l 0 = false) := ⟨by rw [HF.out, okFrom_step hj, okAt, hs, hn, hp, hq]; rfl⟩
                  rw [hq] at HQ
                  clear hs hn hp hq HF
                  go_wp2_with (first | (go_at_call 22; (with_reducible refine (HN.out _).mono ?_); rintro e w2 ⟨rfl, nd, rfl⟩) | (go_at_call 23; (refine (HP.out _ (pw_below_drewN (Below.refl _ _) _)).mono ?_); rintro e w2 ⟨rfl, nd, rfl⟩) | (go_at_call 24; refine (HD.out _ _ ?_ ?_).mono ?_; exact alN (alN (pw_below_drewN HW.out _) (Nat.le_refl _) _) (Nat.le_refl _) _; exact MapIs.alloc (MapIs.made _) _; rintro e w3 ⟨rfl, hm3, hg3⟩; have HM3 := Aside0.mk hm3; obtain ⟨hB3, k7⟩ := bind_after hg3; obtain ⟨hc3, hf3⟩ := bcellN hB3; have z0 := (blk_cell k7 0).trans rfl; have z1 := (blk_cell k7 1).trans rfl; have HB3 := Aside0.mk hB3; clear hB3 k7 hg3 hm3) | (go_at_call 25; refine (HQ.out _ _ ?_ HM3.out).mono ?_; exact below_step HW.out HB3.out; rintro e w4 ⟨rfl, hb4⟩; replace HW := Aside0.mk (below_step (below_step HW.out HB3.out) hb4); clear hb4))
                  go_ret
                  exact ⟨by rw [HV.out]; rfl, HW.out⟩
                | true =>
                  have HV : Aside0 (okFrom tk pn pw l 0 = okFrom tk pn pw l (j + 1)) := ⟨by rw [HF.out, okFrom_step hj, okAt, hs, hn, hp, hq]; rfl⟩
                  rw [hq] at HQ
                  clear hs hn hp hq HF
                  go_wp2_with (first | (go_at_call 22; (with_reducible refine (HN.out _).mono ?_); rintro e w2 ⟨rfl, nd, rfl⟩) | (go_at_call 23; (refine (HP.out _ (pw_below_drewN (Below.refl _ _) _)).mono ?_); rintro e w2 ⟨rfl, nd, rfl⟩) | (go_at_call 24; refine (HD.out _ _ ?_ ?_).mono ?_; exact alN (alN (pw_below_drewN HW.out _) (Nat.le_refl _) _) (Nat.le_refl _) _; exact MapIs.alloc (MapIs.made _) _; rintro e w3 ⟨rfl, hm3, hg3⟩; have HM3 := Aside0.mk hm3; obtain ⟨hB3, k7⟩ := bind_after hg3; obtain ⟨hc3, hf3⟩ := bcellN hB3; have z0 := (blk_cell k7 0).trans rfl; have z1 := (blk_cell k7 1).trans rfl; have HB3 := Aside0.mk hB3; clear hB3 k7 hg3 hm3) | (go_at_call 25; refine (HQ.out _ _ ?_ HM3.out).mono ?_; exact below_step HW.out HB3.out; rintro e w4 ⟨rfl, hb4⟩; replace HW := Aside0.mk (below_step (below_step HW.out HB3.out) hb4); clear hb4))
                  go_roundg k1
                  case measure => omega
                  case rel => exact ⟨j + 1, by simp, ⟨by have := HK.out; omega, hj⟩, HV, HW⟩
      · have d0 : decide ((j : Int) < (l.length : Int)) = false := decide_eq_false (by omega)
        have d1 : decide (j < l.length) = false := decide_eq_false hj
        go_wp2
        go_ret
        exact ⟨by rw [HF.out, okFrom_end hj]; rfl, HB.out⟩
end
end Go.Proofs.Ytdgpegkgelciaaa.PA
end
section
namespace Go.Proofs.Ytdgpegkgelciaaa.PA
open Go.RowKit Go.Proofs.YtdgpegkgelciaaaW.PrintWords Go.Proofs.YtdgpegkgelciaaaW.PrintLast Go.Proofs.YtdgpegkgelciaaaW.PrintMore
theorem Ev.pos {α : Type} {c : Prop} [Decidable c] {f g : Nat → Option α} {r : α} (h : c) (k : Ev f r) : Ev (fun n => if c then f n else g n) r := by simpa only [if_pos h] using k
theorem Ev.neg {α : Type} {c : Prop} [Decidable c] {f g : Nat → Option α} {r : α} (h : ¬ c) (k : Ev g r) : Ev (fun n => if c then f n else g n) r := by simpa only [if_neg h] using k
theorem Ev.val {α : Type} {a r : α} (h : a = r) : Ev (fun _ => some a) r := h ▸ Ev.now a
theorem Ev.cast {α : Type} {g : Nat → Option α} {r r' : α} (k : Ev g r) (h : r = r') : Ev g r' := h ▸ k
theorem Ev.shift {α : Type} {g : Nat → Option α} {r : α} (k : Ev g r) : Ev (fun n => g (n + 1)) r := by
  obtain ⟨K, k⟩ := k
  exact ⟨K, fun n hn => k _ (by omega)⟩
theorem suc64 (i : Nat) (h : i ≤ 1000000000000) : wrap64 ((i : Int) + 1) = ((i + 1 : Nat) : Int) := by rw [w64 _ (by omega)]; omega
theorem all_end {p : Nat → Bool} {i n : Nat} (h : ¬ i < n) : (List.range' i (n - i)).all p = true := by
  rw [show n - i = 0 by omega]
  rfl
theorem all_step {p : Nat → Bool} {i n : Nat} (h : i < n) : (List.range' i (n - i)).all p = (p i && (List.range' (i + 1) (n - (i + 1))).all p) := by rw [show n - i = (n - (i + 1)) + 1 by omega, List.range'_succ, List.all_cons]
theorem pw_l0 (s : ByteArray) (hs : s.size ≤ 12) : ∀ d i : Nat, i + d = s.size → Ev (fun k => impl_pureName.l0 k s s.size i) (pwFrom s i)
  | 0, i, hi => by
    refine Ev.step (f := fun _ => some true) (fun k => by simp only [impl_pureName.l0]; rw [if_neg (by omega)]) (Ev.val ?_)
    rw [pwFrom, all_end (by omega)]
  | d + 1, i, hi => by
    refine Ev.step (f := fun k => if chP (bt s i) = true then impl_pureName.l0 k s s.size (i + 1 : Nat) else some false) (fun k => ?_) ?_
    · simp only [impl_pureName.l0]
      rw [if_pos (by omega), if_pos (by omega), if_pos (by omega), suc64 i (by omega)]
      generalize impl_pureName.l0 k s s.size (i + 1 : Nat) = L
      generalize bt s i = c
      simp only [chP, decide_eq_true_eq]
      repeat' split
      all_goals first | rfl | omega
    · rw [pwFrom, all_step (by omega)]
      cases h : chP (bt s i) with
      | true => exact Ev.pos rfl (by rw [Bool.true_and]; exact pw_l0 s hs d (i + 1) (by omega))
      | false => exact Ev.neg (by simp) (Ev.val (by simp))
theorem pw_ev (s : ByteArray) : Ev (fun k => impl_pureName.f k s) (pwP s) := by
  unfold pwP
  by_cases h1 : 1 ≤ s.size
  · by_cases h2 : s.size ≤ 12
    · refine Ev.congr (g := fun k => impl_pureName.f k s) (f := fun k => impl_pureName.j0 k s false) (fun k => by rw [impl_pureName.f, if_neg (by omega), decide_eq_false (by omega)]) ?_
      refine Ev.step (f := fun k => impl_pureName.l0 k s s.size (0 : Nat)) (fun k => by simp only [impl_pureName.j0]; rw [if_neg (by simp)]; rfl) ?_
      simpa [h1, h2] using pw_l0 s h2 s.size 0 (by omega)
    · refine Ev.congr (g := fun k => impl_pureName.f k s) (f := fun k => impl_pureName.j0 k s true) (fun k => by rw [impl_pureName.f, if_neg (by omega), decide_eq_true (by omega)]) ?_
      exact Ev.step (f := fun _ => some false) (fun k => by simp only [impl_pureName.j0]; rw [if_pos (by first | trivial | rfl)]) (Ev.val (by simp [h2]))
  · refine Ev.congr (g := fun k => impl_pureName.f k s) (f := fun k => impl_pureName.j0 k s true) (fun k => by rw [impl_pureName.f, if_pos (by omega)]) ?_
    exact Ev.step (f := fun _ => some false) (fun k => by simp only [impl_pureName.j0]; rw [if_pos (by first | trivial | rfl)]) (Ev.val (by simp [h1]))
theorem pwP_ok : PwOk pwP := fun s => (pw_ev s).rounds
theorem ba_tl {a b : ByteArray} : a.toList = b.toList ↔ a = b := by
  rw [ByteArray.toList_eq, ByteArray.toList_eq]
  exact ⟨fun h => by cases a; cases b; congr; exact Array.toList_inj.1 h, fun h => by rw [h]⟩
theorem drop_rd {l : List ByteArray} {i : Nat} (h : i < l.length) : l.drop i = rdOf ByteArray.empty l i :: l.drop (i + 1) := by
  rw [List.drop_eq_getElem_cons h]
  simp [rdOf, h]
theorem ix_l0 (l : List ByteArray) (x : ByteArray) (hl : l.length ≤ 1000) : ∀ d i : Nat, i + d = l.length → ∃ r : Int, Ev (fun k => slices_Index_string_string.l0 k l x l.length i) r ∧ decide (r ≥ 0) = nhas (l.drop i) x
  | 0, i, hi => by
    refine ⟨-1, Ev.step (f := fun _ => some (-1)) (fun k => by simp only [slices_Index_string_string.l0]; rw [if_neg (by omega)]) (Ev.now _), ?_⟩
    rw [List.drop_eq_nil_of_le (by omega)]
    rfl
  | d + 1, i, hi => by
    rw [drop_rd (show i < l.length by omega), nhas_cons]
    by_cases h : x = rdOf ByteArray.empty l i
    · refine ⟨(i : Int), Ev.step (f := fun _ => some (i : Int)) (fun k => by simp only [slices_Index_string_string.l0]; rw [if_pos (by omega), if_pos (by omega), if_pos (by omega), if_pos (ba_tl.2 h)]) (Ev.now _), ?_⟩
      rw [ba_beq.2 h, Bool.true_or]
      exact decide_eq_true (by omega)
    · obtain ⟨r, h1, h2⟩ := ix_l0 l x hl d (i + 1) (by omega)
      refine ⟨r, Ev.step (f := fun k => slices_Index_string_string.l0 k l x l.length (i + 1 : Nat)) (fun k => by simp only [slices_Index_string_string.l0]; rw [if_pos (by omega), if_pos (by omega), if_pos (by omega), if_neg (fun e => h (ba_tl.1 e)), suc64 i (by omega)]) h1, ?_⟩
      rw [h2, show (x == rdOf ByteArray.empty l i) = false from by rw [Bool.eq_false_iff]; exact fun e => h (ba_beq.1 e), Bool.false_or]
theorem has_ev (l : List ByteArray) (x : ByteArray) (hl : l.length ≤ 1000) : Ev (fun k => slices_Contains_string_string.f k l x) (nhas l x) := by
  obtain ⟨r, h1, h2⟩ := ix_l0 l x hl l.length 0 (by omega)
  rw [List.drop_zero] at h2
  exact Ev.bind (g := fun k => slices_Index_string_string.f k l x) (f := fun _ t => some (decide (t ≥ 0))) h1 (Ev.val h2)
theorem pn_l0 (l : List ByteArray) (hl : l.length ≤ 60) : ∀ d i : Nat, i + d = l.length → Ev (fun k => impl_pureNames.l0 k l l l.length i) (pnFrom l i)
  | 0, i, hi => by
    refine Ev.step (f := fun _ => some true) (fun k => by simp only [impl_pureNames.l0]; rw [if_neg (by omega)]) (Ev.val ?_)
    rw [pnFrom, all_end (by omega)]
  | d + 1, i, hi => by
    refine Ev.step (f := fun k => (impl_pureName.f k (rdOf ByteArray.empty l i)).bind fun t => (if t = true then ((slices_Contains_string_string.f k (l.take i) (rdOf ByteArray.empty l i)).bind fun u => (if u = true then some false else impl_pureNames.l0 k l l l.length (i + 1 : Nat))) else some false)) (fun k => ?_) ?_
    · simp only [impl_pureNames.l0]
      rw [if_pos (by omega), if_pos (by omega), if_pos (by omega), suc64 i (by omega)]
      simp only [if_pos (show (i : Int) ≤ (l.length : Int) by omega), Int.toNat_natCast]
    · rw [pnFrom, all_step (by omega)]
      refine Ev.bind (g := fun k => impl_pureName.f k (rdOf ByteArray.empty l i)) (f := fun k t => if t = true then ((slices_Contains_string_string.f k (l.take i) (rdOf ByteArray.empty l i)).bind fun u => (if u = true then some false else impl_pureNames.l0 k l l l.length (i + 1 : Nat))) else some false) (pw_ev _) ?_
      cases h : pwP (rdOf ByteArray.empty l i) with
      | false => exact Ev.neg (by simp) (Ev.val (by simp [pnAt, h]))
      | true =>
        refine Ev.pos rfl (Ev.bind (g := fun k => slices_Contains_string_string.f k (l.take i) (rdOf ByteArray.empty l i)) (f := fun k u => if u = true then some false else impl_pureNames.l0 k l l l.length (i + 1 : Nat)) (has_ev _ _ (by rw [List.length_take]; omega)) ?_)
        cases h2 : nhas (l.take i) (rdOf ByteArray.empty l i) with
        | true => exact Ev.pos rfl (Ev.val (by simp [pnAt, h, h2]))
        | false => exact Ev.neg (by simp) (by rw [pnAt, h, h2]; exact pn_l0 l hl d (i + 1) (by omega))
theorem pn_ev (l : List ByteArray) : Ev (fun k => impl_pureNames.f k l) (pnP l) := by
  unfold pnP
  by_cases h : l.length ≤ 60
  · refine Ev.congr (g := fun k => impl_pureNames.f k l) (f := fun k => impl_pureNames.l0 k l l l.length (0 : Nat)) (fun k => by rw [impl_pureNames.f, if_neg (by omega)]; rfl) ?_
    simpa [h] using pn_l0 l h l.length 0 (by omega)
  · exact Ev.congr (g := fun k => impl_pureNames.f k l) (f := fun _ => some false) (fun k => by rw [impl_pureNames.f, if_pos (by omega)]) (Ev.val (by simp [h]))
theorem pnP_ok : PnOk pnP := fun l => (pn_ev l).rounds
theorem pnP_60 (l : List ByteArray) (h : pnP l = true) : l.length ≤ 60 := by
  simp only [pnP, Bool.and_eq_true, decide_eq_true_eq] at h
  exact h.1
theorem pf_l0 (l : List Int) (hl : l.length ≤ 4) : ∀ d i : Nat, i + d = l.length → Ev (fun k => impl_pathForm.l0 k l l.length i) ((l.drop i).all bitP)
  | 0, i, hi => by
    refine Ev.step (f := fun _ => some true) (fun k => by simp only [impl_pathForm.l0]; rw [if_neg (by omega)]) (Ev.val ?_)
    rw [List.drop_eq_nil_of_le (by omega)]
    rfl
  | d + 1, i, hi => by
    have e : l.drop i = rd l i :: l.drop (i + 1) := by
      rw [List.drop_eq_getElem_cons (by omega)]
      simp [rd, show i < l.length by omega]
    refine Ev.step (f := fun k => if bitP (rd l i) = true then impl_pathForm.l0 k l l.length (i + 1 : Nat) else some false) (fun k => ?_) ?_
    · simp only [impl_pathForm.l0]
      rw [if_pos (by omega), if_pos (by omega), if_pos (by omega), suc64 i (by omega)]
      generalize impl_pathForm.l0 k l l.length (i + 1 : Nat) = L
      simp only [bitP, decide_eq_true_eq]
      repeat' split
      all_goals first | rfl | omega
    · rw [e, List.all_cons]
      cases h : bitP (rd l i) with
      | true => exact Ev.pos rfl (by rw [Bool.true_and]; exact pf_l0 l hl d (i + 1) (by omega))
      | false => exact Ev.neg (by simp) (Ev.val (by simp))
theorem path_ev (l : List Int) : Ev (fun k => impl_pathForm.f k l) (pathP l) := by
  unfold pathP
  by_cases h : l.length ≤ 4
  · refine Ev.congr (g := fun k => impl_pathForm.f k l) (f := fun k => impl_pathForm.l0 k l l.length (0 : Nat)) (fun k => by rw [impl_pathForm.f, if_neg (by omega)]; rfl) ?_
    simpa [h] using pf_l0 l h l.length 0 (by omega)
  · exact Ev.congr (g := fun k => impl_pathForm.f k l) (f := fun _ => some false) (fun k => by rw [impl_pathForm.f, if_pos (by omega)]) (Ev.val (by simp [h]))
theorem tk8_ok : TkOk tk8 := fun x l t A3 A4 c3 c4 w => termOk_calls (fun s => (pw_ev s).rounds) (fun l => (path_ev l).rounds) 8 (by omega) ⟨x, nhas l⟩ t A3 A4 c3 c4 w
end Go.Proofs.Ytdgpegkgelciaaa.PA
end
section
namespace Go.Proofs.Ytdgpegkgelciaaa.PA
open Go.RowKit Go.Proofs.YtdgpegkgelciaaaW.PrintWords Go.Proofs.YtdgpegkgelciaaaW.PrintLast Go.Proofs.YtdgpegkgelciaaaW.PrintMore
attribute [local go_sem] max2_int min2_int max_two min_two max_three min_three max_four min_four
set_option linter.unusedVariables false
set_option linter.unusedSimpArgs false
def impl_PureOk.f (l0 : List (S45)) : Option Bool := some (okPure tk8 pnP pwP l0)
theorem impl_PureOk.calls (A0 : Option Addr) (c0 : Nat) (l0 : List (S45)) (r : Bool) (w : World) (hr0 : Kd.C k45 w A0 l0.length l0) (hc0 : l0.length ≤ c0) (h : impl_PureOk.f l0 = some r) :
  Calls Try.prog 9 #[.slice A0 l0.length c0] w fun e w' => e = .returned (.bool r) ∧ Below w.heap.size w w' := by
 obtain rfl := Option.some.inj h
 exact pure_calls tk8_ok pnP_ok pnP_60 pwP_ok A0 c0 l0 w hr0 hc0
end Go.Proofs.Ytdgpegkgelciaaa.PA
end
section
namespace Go.Proofs.Ytdgpegkgelciaaa.PA
open Go.RowKit Go.Proofs.YtdgpegkgelciaaaW.PrintWords Go.Proofs.YtdgpegkgelciaaaW.PrintLast Go.Proofs.YtdgpegkgelciaaaW.PrintMore
attribute [local go_sem] max2_int min2_int max_two min_two max_three min_three max_four min_four
set_option linter.unusedVariables false
set_option linter.unusedSimpArgs false
mutual
def impl_termsSize.l0 : Nat → Int → List (S78) → Int → Int → Option (Int)
 | 0, _, _, _, _ => none
 | k + 1, x3, x8, x9, x10 => if x10 < x9 then (if 0 ≤ x10 then (if x10 < (x8.length : Int) then ((impl_termsSize.f k ((rd_T78 x8 x10).f4)).bind fun t562 => (impl_termsSize.l0 k (wrap64 (x3 + t562)) x8 x9 (wrap64 (x10 + 1)))) else (none)) else (none)) else (some x3)
def impl_termsSize.f : Nat → List (S78) → Option (Int)
 | 0, _ => none
 | k + 1, l0 => impl_termsSize.l0 k (l0.length : Int) l0 (l0.length : Int) 0
end
theorem impl_termsSize.mono_l : ∀ k, (∀ y0, LeO (impl_termsSize.f k y0) (impl_termsSize.f (k + 1) y0)) ∧ (∀ y0 y1 y2 y3, LeO (impl_termsSize.l0 k y0 y1 y2 y3) (impl_termsSize.l0 (k + 1) y0 y1 y2 y3))
 | 0 => ⟨fun _ r h => by simp [impl_termsSize.f] at h, fun _ _ _ _ r h => by simp [impl_termsSize.l0] at h⟩
 | k + 1 => by
  obtain ⟨ih0, ih1⟩ := impl_termsSize.mono_l k
  refine ⟨?_, ?_⟩
  ·intro y0
   unfold impl_termsSize.f
   repeat' first
   | (with_reducible exact ih0 _)
   | (with_reducible exact ih1 _ _ _ _)
   | (with_reducible exact LeO.refl _)
   | (with_reducible exact LeO.none _)
   | (with_reducible refine LeO.ite ?_ ?_)
   | (with_reducible refine LeO.bind ?_ (fun _ => ?_))
   | exact ih0 _
   | exact ih1 _ _ _ _
   | exact LeO.none _
   | refine LeO.ite ?_ ?_
   | refine LeO.bind ?_ (fun _ => ?_)
  ·intro y0 y1 y2 y3
   unfold impl_termsSize.l0
   repeat' first
   | (with_reducible exact ih0 _)
   | (with_reducible exact ih1 _ _ _ _)
   | (with_reducible exact LeO.refl _)
   | (with_reducible exact LeO.none _)
   | (with_reducible refine LeO.ite ?_ ?_)
   | (with_reducible refine LeO.bind ?_ (fun _ => ?_))
   | exact ih0 _
   | exact ih1 _ _ _ _
   | exact LeO.none _
   | refine LeO.ite ?_ ?_
   | refine LeO.bind ?_ (fun _ => ?_)
theorem impl_termsSize.mono : ∀ a0 k, LeO (impl_termsSize.f k a0) (impl_termsSize.f (k + 1) a0) := by
 intro a0 k
 obtain ⟨ih0, ih1⟩ := impl_termsSize.mono_l k
 exact ih0 a0
set_option maxHeartbeats 8000000 in
set_option maxRecDepth 100000 in
theorem impl_termsSize.calls (k : Nat) : ∀ (A0 : Option Addr) (c0 : Nat) (l0 : List (S78)) (r : Int) (w : World) (hr0 : Kd.C k78 w A0 l0.length l0) (hc0 : l0.length ≤ c0) (h : impl_termsSize.f k l0 = some r),
  Calls Try.prog 46 #[.slice A0 l0.length c0] w fun e w' => e = .returned (.int .i64 r) ∧ Below w.heap.size w w' := by
 induction k using Nat.strongRecOn with
 | _ k ih =>
 intro A0 c0 l0 r w hr0 hc0 h
 cases k with
 | zero => exact absurd h (by simp [impl_termsSize.f])
 | succ k =>
 simp only [impl_termsSize.f] at h
 have hu78 := Try.underlying78
 have HR0 := Aside0.mk hr0
 have HC0 := Aside0.mk hc0
 clear hr0 hc0
 have HB := Aside0.mk (Below.refl w.heap.size w)
 have H : (impl_termsSize.l0 k (l0.length : Int) l0 (l0.length : Int) 0) = some r := h
 clear h
 have H' := Aside0.mk H
 clear H
 go_enter Try.func46, Try.ntmps46
 go_wp2
 go_loopg [3, 10] k (fun kq v3 v10 w' => ∃ (x3_1 : Int) (x10_1 : Int), v3 = .int .i64 x3_1 ∧ v10 = .int .i64 x10_1 ∧ Aside0 (impl_termsSize.l0 kq x3_1 l0 (l0.length : Int) x10_1 = some r) ∧ Aside0 (kq ≤ k) ∧ Aside0 (Below w.heap.size w w'))
 case atStart => exact ⟨((l0.length : Int)), (0), y7, y7, H', ⟨Nat.le_refl _⟩, ⟨(y1 HB.out)⟩⟩
 case round =>
  clear H'
  obtain ⟨x3_1, x10_1, rfl, rfl, HA, HK1, HB⟩ := hrel
  cases gk with
  | zero => exact absurd HA.out (by simp [impl_termsSize.l0])
  | succ k1 =>
   have H := HA.out
   clear HA
   simp only [impl_termsSize.l0] at H
   by_cases c2 : x10_1 < (l0.length : Int)
   ·rw [if_pos c2] at H
    have c2b0 : decide (x10_1 < (l0.length : Int)) = true := decide_eq_true c2
    clear c2
    by_cases c3 : 0 ≤ x10_1
    ·rw [if_pos c3] at H
     have c3b0 : decide (0 ≤ x10_1) = true := decide_eq_true c3
     clear c3
     by_cases c4 : x10_1 < (l0.length : Int)
     ·rw [if_pos c4] at H
      have c4b0 : decide (x10_1 < (l0.length : Int)) = true := decide_eq_true c4
      clear c4
      obtain ⟨t562, A50, H⟩ := ob H
      have A5 := Aside0.mk A50
      clear A50
      have H' := Aside0.mk H
      clear H
      have p560 : 0 ≤ (x10_1 : Int) := of_decide_eq_true y4
      have q560 : x10_1 < (l0.length : Int) := of_decide_eq_true y4
      obtain ⟨ad560, A560_3, c560_3, A560_4, c560_4, e560, hx560_0, hx560_1, hx560_2, hx560_3, hx560_4, hl560_3, hi560_3, hl560_4, hi560_4⟩ := at_T78 HR0.out x10_1 p560 q560
      cases e560
      replace hx560_0 := (HB.out.cell (World.block_lt_of_cell? w _ hx560_0)).trans hx560_0
      replace hx560_1 := (HB.out.cell (World.block_lt_of_cell? w _ hx560_1)).trans hx560_1
      replace hx560_2 := (HB.out.cell (World.block_lt_of_cell? w _ hx560_2)).trans hx560_2
      replace hx560_3 := (HB.out.cell (World.block_lt_of_cell? w _ hx560_3)).trans hx560_3
      replace hx560_4 := (HB.out.cell (World.block_lt_of_cell? w _ hx560_4)).trans hx560_4
      have HR560_3 := Aside0.mk hi560_3
      have HC560_3 := Aside0.mk hl560_3
      clear hi560_3 hl560_3
      have HR560_4 := Aside0.mk hi560_4
      have HC560_4 := Aside0.mk hl560_4
      clear hi560_4 hl560_4
      replace p560 := eq_true p560
      replace q560 := eq_true q560
      go_wp2_with (first | ((with_reducible refine gate_dst (N := 5) rfl ?_); refine zbx 5 #[.int .i64 0, .int .i64 0, .string (⟨#[]⟩ : ByteArray), .slice none 0 0, .slice none 0 0] 78 ?_; intro gb561 hg w6 hbox hb; have BK561 := Aside0.mk hbox; have GW561 := Aside0.mk ((y9 hg HB.out : w.heap.size ≤ gb561)); have GE561 := Aside0.mk ((y9 hg HB.out : w.heap.size ≤ gb561)); replace HB := Aside0.mk (below_step (y1 HB.out) hb); clear hb hbox hg; have hcz7_0 := zh BK561; have hcz7_1 := zh1 BK561; have hcz7_2 := zh2 BK561; have hcz7_3 : w6.cell? ⟨gb561, 3, none⟩ = some (.slice none 0 0) := (blk_cell BK561.out 3).trans rfl; have hcz7_4 : w6.cell? ⟨gb561, 4, none⟩ = some (.slice none 0 0) := (blk_cell BK561.out 4).trans rfl; have hfz7_0 := zfr BK561 0; have hfz7_1 := zfr BK561 1; have hfz7_2 := zfr BK561 2; have hfz7_3 := zfr BK561 3; have hfz7_4 := zfr BK561 4) | ((with_reducible refine gate_callee (f := 46) rfl ?_); refine goesL_ (some 17) rfl rfl Try.func46 (by kernel_rfl) rfl #[.slice A560_4 ((rd_T78 l0 x10_1).f4).length c560_4] rfl y3 ?_; (with_reducible refine (ih k1 (y30 HK1.out) _ _ ((rd_T78 l0 x10_1).f4) t562 _ ?side1 ?side2 A5.out).mono ?_); (case side1 => exact y29 HR560_4.out HB.out GE561.out); (case side2 => exact HC560_4.out); rintro e w8 ⟨rfl, hb⟩; refine ⟨_, rfl, ?_⟩; replace BK561 := Aside0.mk (blk_below (g := gb561) (o := .cells #[.int .i64 ((rd_T78 l0 x10_1).f0), .int .i64 ((rd_T78 l0 x10_1).f1), .string ((rd_T78 l0 x10_1).f2), .slice A560_3 ((rd_T78 l0 x10_1).f3).length c560_3, .slice A560_4 ((rd_T78 l0 x10_1).f4).length c560_4] 78 (0, 0)) (by (with_reducible repeat (first | refine blk_drewN ?_ _ | refine blk_drew ?_ | refine blk_alloc ?_ _)); refine blk_put (cs := #[.int .i64 ((rd_T78 l0 x10_1).f0), .int .i64 ((rd_T78 l0 x10_1).f1), .string ((rd_T78 l0 x10_1).f2), .slice A560_3 ((rd_T78 l0 x10_1).f3).length c560_3, .slice none 0 0]) ?_ 4 _ rfl; (with_reducible repeat (first | refine blk_drewN ?_ _ | refine blk_drew ?_ | refine blk_alloc ?_ _)); refine blk_put (cs := #[.int .i64 ((rd_T78 l0 x10_1).f0), .int .i64 ((rd_T78 l0 x10_1).f1), .string ((rd_T78 l0 x10_1).f2), .slice none 0 0, .slice none 0 0]) ?_ 3 _ rfl; (with_reducible repeat (first | refine blk_drewN ?_ _ | refine blk_drew ?_ | refine blk_alloc ?_ _)); refine blk_put (cs := #[.int .i64 ((rd_T78 l0 x10_1).f0), .int .i64 ((rd_T78 l0 x10_1).f1), .string (⟨#[]⟩ : ByteArray), .slice none 0 0, .slice none 0 0]) ?_ 2 _ rfl; (with_reducible repeat (first | refine blk_drewN ?_ _ | refine blk_drew ?_ | refine blk_alloc ?_ _)); refine blk_put (cs := #[.int .i64 ((rd_T78 l0 x10_1).f0), .int .i64 0, .string (⟨#[]⟩ : ByteArray), .slice none 0 0, .slice none 0 0]) ?_ 1 _ rfl; (with_reducible repeat (first | refine blk_drewN ?_ _ | refine blk_drew ?_ | refine blk_alloc ?_ _)); apply blk_put (i := 0); (case h => exact y8 BK561.out); (case e => rfl)) hb); replace HB := Aside0.mk (below_step (y2 HB.out GE561.out) hb); (try clear hb); (try clear hb2); (try clear hk); (try clear hi)))
      go_roundg k1
      case measure => have := HK1.out; omega
      case rel => exact ⟨(wrap64 (x3_1 + t562)), (wrap64 (x10_1 + 1)), y7, y7, H', ⟨(y30 HK1.out)⟩, ⟨(y2 HB.out GE561.out)⟩⟩
     ·rw [if_neg c4] at H
      exact absurd H (by simp)
    ·rw [if_neg c3] at H
     exact absurd H (by simp)
   ·rw [if_neg c2] at H
    have c2b0 : decide (x10_1 < (l0.length : Int)) = false := decide_eq_false c2
    clear c2
    obtain rfl := Option.some.inj H
    go_wp2
    go_ret
    exact ⟨y6, (y1 HB.out)⟩
end Go.Proofs.Ytdgpegkgelciaaa.PA
end
section
namespace Go.Proofs.Ytdgpegkgelciaaa.PA
open Go.RowKit Go.Proofs.YtdgpegkgelciaaaW.PrintWords Go.Proofs.YtdgpegkgelciaaaW.PrintLast Go.Proofs.YtdgpegkgelciaaaW.PrintMore
attribute [local go_sem] max2_int min2_int max_two min_two max_three min_three max_four min_four
set_option linter.unusedVariables false
set_option linter.unusedSimpArgs false
mutual
def impl_bodyTerms.l0 : Nat → Int → List (S64) → Int → Int → Option (Int)
 | 0, _, _, _, _ => none
 | k + 1, x3, x10, x11, x12 => if x12 < x11 then (if 0 ≤ x12 then (if x12 < (x10.length : Int) then ((impl_termsSize.f k ((rd_T64 x10 x12).f3)).bind fun t567 => ((impl_bodyTerms.f k ((rd_T64 x10 x12).f4.f0) ((rd_T64 x10 x12).f4.f1)).bind fun t568 => ((impl_bodyTerms.f k ((rd_T64 x10 x12).f5.f0) ((rd_T64 x10 x12).f5.f1)).bind fun t569 => (impl_bodyTerms.l0 k (wrap64 (x3 + (wrap64 ((wrap64 (t567 + t568)) + t569)))) x10 x11 (wrap64 (x12 + 1)))))) else (none)) else (none)) else (some x3)
def impl_bodyTerms.f : Nat → List (S64) → List (S78) → Option (Int)
 | 0, _, _ => none
 | k + 1, l0_0, l0_1 => (impl_termsSize.f k l0_1).bind fun t564 => (impl_bodyTerms.l0 k t564 l0_0 (l0_0.length : Int) 0)
end
theorem impl_bodyTerms.mono_l : ∀ k, (∀ y0 y1, LeO (impl_bodyTerms.f k y0 y1) (impl_bodyTerms.f (k + 1) y0 y1)) ∧ (∀ y0 y1 y2 y3, LeO (impl_bodyTerms.l0 k y0 y1 y2 y3) (impl_bodyTerms.l0 (k + 1) y0 y1 y2 y3))
 | 0 => ⟨fun _ _ r h => by simp [impl_bodyTerms.f] at h, fun _ _ _ _ r h => by simp [impl_bodyTerms.l0] at h⟩
 | k + 1 => by
  obtain ⟨ih0, ih1⟩ := impl_bodyTerms.mono_l k
  refine ⟨?_, ?_⟩
  ·intro y0 y1
   unfold impl_bodyTerms.f
   repeat' first
   | (with_reducible exact ih0 _ _)
   | (with_reducible exact ih1 _ _ _ _)
   | (with_reducible exact impl_termsSize.mono _ _)
   | (with_reducible exact LeO.refl _)
   | (with_reducible exact LeO.none _)
   | (with_reducible refine LeO.ite ?_ ?_)
   | (with_reducible refine LeO.bind ?_ (fun _ => ?_))
   | exact ih0 _ _
   | exact ih1 _ _ _ _
   | exact impl_termsSize.mono _ _
   | exact LeO.none _
   | refine LeO.ite ?_ ?_
   | refine LeO.bind ?_ (fun _ => ?_)
  ·intro y0 y1 y2 y3
   unfold impl_bodyTerms.l0
   repeat' first
   | (with_reducible exact ih0 _ _)
   | (with_reducible exact ih1 _ _ _ _)
   | (with_reducible exact impl_termsSize.mono _ _)
   | (with_reducible exact LeO.refl _)
   | (with_reducible exact LeO.none _)
   | (with_reducible refine LeO.ite ?_ ?_)
   | (with_reducible refine LeO.bind ?_ (fun _ => ?_))
   | exact ih0 _ _
   | exact ih1 _ _ _ _
   | exact impl_termsSize.mono _ _
   | exact LeO.none _
   | refine LeO.ite ?_ ?_
   | refine LeO.bind ?_ (fun _ => ?_)
theorem impl_bodyTerms.mono : ∀ a0 a1 k, LeO (impl_bodyTerms.f k a0 a1) (impl_bodyTerms.f (k + 1) a0 a1) := by
 intro a0 a1 k
 obtain ⟨ih0, ih1⟩ := impl_bodyTerms.mono_l k
 exact ih0 a0 a1
def impl_bodyTerms.T5 : Bool × List (List Nat × List Nat) := (true, [([], []), ([], []), ([1], [1]), ([2], [2]), ([], []), ([4], [4]), ([5, 3], [5]), ([3, 6], [3, 6]), ([], []), ([8], [8]), ([9, 6], [9]), ([7, 10], [7, 10]), ([0, 11], [0, 11]), ([12, 10, 0, 1, 2, 3, 4, 5, 6, 7, 8, 9, 10, 11, 12], [0, 12])])
def impl_bodyTerms.B5 : List Nat := [0, 0, 2, 6, 0, 16, 62, 126, 0, 256, 894, 2046, 4095, 8191]
theorem impl_bodyTerms.tab5 : rtab .any (opsOf Try.f30 5) = impl_bodyTerms.T5 := by kernel_rfl
theorem impl_bodyTerms.bits5 : waitsOk impl_bodyTerms.T5.2 impl_bodyTerms.B5 = true := by kernel_rfl
set_option maxHeartbeats 8000000 in
set_option maxRecDepth 100000 in
theorem impl_bodyTerms.calls (k : Nat) : ∀ (A0_0 : Option Addr) (c0_0 : Nat) (l0_0 : List (S64)) (A0_1 : Option Addr) (c0_1 : Nat) (l0_1 : List (S78)) (r : Int) (w : World) (hr0_0 : Kd.C k64 w A0_0 l0_0.length l0_0) (hc0_0 : l0_0.length ≤ c0_0) (hr0_1 : Kd.C k78 w A0_1 l0_1.length l0_1) (hc0_1 : l0_1.length ≤ c0_1) (h : impl_bodyTerms.f k l0_0 l0_1 = some r),
  Calls Try.prog 30 #[.agg #[.slice A0_0 l0_0.length c0_0, .slice A0_1 l0_1.length c0_1]] w fun e w' => e = .returned (.int .i64 r) ∧ Below w.heap.size w w' := by
 induction k using Nat.strongRecOn with
 | _ k ih =>
 intro A0_0 c0_0 l0_0 A0_1 c0_1 l0_1 r w hr0_0 hc0_0 hr0_1 hc0_1 h
 cases k with
 | zero => exact absurd h (by simp [impl_bodyTerms.f])
 | succ k =>
 simp only [impl_bodyTerms.f] at h
 have hu43 := Try.underlying43
 have hu64 := Try.underlying64
 have HR0_0 := Aside0.mk hr0_0
 have HC0_0 := Aside0.mk hc0_0
 clear hr0_0 hc0_0
 have HR0_1 := Aside0.mk hr0_1
 have HC0_1 := Aside0.mk hc0_1
 clear hr0_1 hc0_1
 have HB := Aside0.mk (Below.refl w.heap.size w)
 have H : ((impl_termsSize.f k l0_1).bind fun t564 => (impl_bodyTerms.l0 k t564 l0_0 (l0_0.length : Int) 0)) = some r := h
 clear h
 obtain ⟨t564, A20, H⟩ := ob H
 have A2 := Aside0.mk A20
 clear A20
 have H' := Aside0.mk H
 clear H
 go_enter Try.func30, Try.ntmps30
 go_wp2_with (first | ((with_reducible refine gate_dst (N := 1) rfl ?_); refine zbx 1 #[.slice A0_0 l0_0.length c0_0, .slice A0_1 l0_1.length c0_1] 43 ?_; intro gb563 hg w3 hbox hb; have BK563 := Aside0.mk hbox; have GW563 := Aside0.mk ((y9 hg HB.out : w.heap.size ≤ gb563)); have GE563 := Aside0.mk ((y9 hg HB.out : w.heap.size ≤ gb563)); replace HB := Aside0.mk (below_step (y1 HB.out) hb); clear hb hbox hg; have hcz4_0 := zh BK563; have hcz4_1 := zh1 BK563; have hfz4_0 := zfr BK563 0; have hfz4_1 := zfr BK563 1) | ((with_reducible refine gate_callee (f := 46) rfl ?_); refine goesL_ (some 8) rfl rfl Try.func46 (by kernel_rfl) rfl #[.slice A0_1 l0_1.length c0_1] rfl y3 ?_; (with_reducible refine (impl_termsSize.calls k _ _ l0_1 t564 _ ?side1 ?side2 A2.out).mono ?_); (case side1 => exact y0 HR0_1.out HB.out); (case side2 => exact HC0_1.out); rintro e w5 ⟨rfl, hb⟩; refine ⟨_, rfl, ?_⟩; replace BK563 := zbb BK563 hb; replace HB := Aside0.mk (below_step (y2 HB.out GE563.out) hb); (try clear hb); (try clear hb2); (try clear hk); (try clear hi); have hcz6_0 := zh BK563; have hcz6_1 := zh1 BK563; have hfz6_0 := zfr BK563 0; have hfz6_1 := zfr BK563 1))
 go_loopg [3, 12] k (fun kq v3 v12 w' => ∃ (x3_1 : Int) (x12_1 : Int), v3 = .int .i64 x3_1 ∧ v12 = .int .i64 x12_1 ∧ Aside0 (impl_bodyTerms.l0 kq x3_1 l0_0 (l0_0.length : Int) x12_1 = some r) ∧ Aside0 (kq ≤ k) ∧ Aside0 (w'.heap[gb563]? = some (.cells #[(.slice A0_0 l0_0.length c0_0), (.slice A0_1 l0_1.length c0_1)] 43 (0, 0))) ∧ Aside0 (Below w.heap.size w w'))
 case atStart => exact ⟨(t564), (0), y7, y7, H', ⟨Nat.le_refl _⟩, ⟨(y8 BK563.out)⟩, ⟨(y2 HB.out GE563.out)⟩⟩
 case round =>
  clear H'
  try clear p2
  try clear c3
  try clear c4
  try clear hcz4_0
  try clear hcz4_1
  try clear hcz6_0
  try clear hcz6_1
  try clear hfz4_0
  try clear hfz4_1
  try clear hfz6_0
  try clear hfz6_1
  (try clear BK563)
  obtain ⟨x3_1, x12_1, rfl, rfl, HA, HK1, BK563, HB⟩ := hrel
  cases gk with
  | zero => exact absurd HA.out (by simp [impl_bodyTerms.l0])
  | succ k1 =>
   have H := HA.out
   clear HA
   simp only [impl_bodyTerms.l0] at H
   by_cases c7 : x12_1 < (l0_0.length : Int)
   ·rw [if_pos c7] at H
    have c7b0 : decide (x12_1 < (l0_0.length : Int)) = true := decide_eq_true c7
    clear c7
    by_cases c8 : 0 ≤ x12_1
    ·rw [if_pos c8] at H
     have c8b0 : decide (0 ≤ x12_1) = true := decide_eq_true c8
     clear c8
     by_cases c9 : x12_1 < (l0_0.length : Int)
     ·rw [if_pos c9] at H
      have c9b0 : decide (x12_1 < (l0_0.length : Int)) = true := decide_eq_true c9
      clear c9
      obtain ⟨t567, A100, H⟩ := ob H
      have A10 := Aside0.mk A100
      clear A100
      obtain ⟨t568, A110, H⟩ := ob H
      have A11 := Aside0.mk A110
      clear A110
      obtain ⟨t569, A120, H⟩ := ob H
      have A12 := Aside0.mk A120
      clear A120
      have H' := Aside0.mk H
      clear H
      have p565 : 0 ≤ (x12_1 : Int) := of_decide_eq_true y4
      have q565 : x12_1 < (l0_0.length : Int) := of_decide_eq_true y4
      obtain ⟨ad565, A565_1, c565_1, A565_3, c565_3, A565_4, c565_4, A565_5, c565_5, A565_6, c565_6, A565_7, c565_7, e565, hx565_0, hx565_1, hx565_2, hx565_3, hx565_4, hx565_5, hx565_6, hx565_7, hl565_1, hi565_1, hl565_3, hi565_3, hl565_4, hi565_4, hl565_5, hi565_5, hl565_6, hi565_6, hl565_7, hi565_7⟩ := at_T64 HR0_0.out x12_1 p565 q565
      cases e565
      replace hx565_0 := (HB.out.cell (World.block_lt_of_cell? w _ hx565_0)).trans hx565_0
      replace hx565_1 := (HB.out.cell (World.block_lt_of_cell? w _ hx565_1)).trans hx565_1
      replace hx565_2 := (HB.out.cell (World.block_lt_of_cell? w _ hx565_2)).trans hx565_2
      replace hx565_3 := (HB.out.cell (World.block_lt_of_cell? w _ hx565_3)).trans hx565_3
      replace hx565_4 := (HB.out.cell (World.block_lt_of_cell? w _ hx565_4)).trans hx565_4
      replace hx565_5 := (HB.out.cell (World.block_lt_of_cell? w _ hx565_5)).trans hx565_5
      replace hx565_6 := (HB.out.cell (World.block_lt_of_cell? w _ hx565_6)).trans hx565_6
      replace hx565_7 := (HB.out.cell (World.block_lt_of_cell? w _ hx565_7)).trans hx565_7
      have HR565_1 := Aside0.mk hi565_1
      have HC565_1 := Aside0.mk hl565_1
      clear hi565_1 hl565_1
      have HR565_3 := Aside0.mk hi565_3
      have HC565_3 := Aside0.mk hl565_3
      clear hi565_3 hl565_3
      have HR565_4 := Aside0.mk hi565_4
      have HC565_4 := Aside0.mk hl565_4
      clear hi565_4 hl565_4
      have HR565_5 := Aside0.mk hi565_5
      have HC565_5 := Aside0.mk hl565_5
      clear hi565_5 hl565_5
      have HR565_6 := Aside0.mk hi565_6
      have HC565_6 := Aside0.mk hl565_6
      clear hi565_6 hl565_6
      have HR565_7 := Aside0.mk hi565_7
      have HC565_7 := Aside0.mk hl565_7
      clear hi565_7 hl565_7
      replace p565 := eq_true p565
      replace q565 := eq_true q565
      try go_wp2_with (first | ((with_reducible refine gate_dst (N := 5) rfl ?_); refine zbx 5 #[.int .i64 0, .slice none 0 0, .string (⟨#[]⟩ : ByteArray), .slice none 0 0, .slice none 0 0, .slice none 0 0, .slice none 0 0, .slice none 0 0] 64 ?_; intro gb566 hg w13 hbox hb; have BK566 := Aside0.mk hbox; have GW566 := Aside0.mk ((y15 hg HB.out GE563.out : w.heap.size ≤ gb566)); have GE566 := Aside0.mk ((y15 hg HB.out GE563.out : w.heap.size ≤ gb566)); replace HB := Aside0.mk (below_step (y2 HB.out GE563.out) hb); have NB563_566 := zltn hg BK563; have NB566_563 := zgtn hg BK563; replace BK563 := zbb BK563 hb; clear hb hbox hg; have hnb14 := NB566_563.out; have hnc14 := NB563_566.out; have hcz15_0 := zh BK566; have hcz15_1 := zh1 BK566; have hcz15_2 := zh2 BK566; have hcz15_3 : w13.cell? ⟨gb566, 3, none⟩ = some (.slice none 0 0) := (blk_cell BK566.out 3).trans rfl; have hcz15_4 : w13.cell? ⟨gb566, 4, none⟩ = some (.slice none 0 0) := (blk_cell BK566.out 4).trans rfl; have hcz15_5 : w13.cell? ⟨gb566, 5, none⟩ = some (.slice none 0 0) := (blk_cell BK566.out 5).trans rfl; have hcz15_6 : w13.cell? ⟨gb566, 6, none⟩ = some (.slice none 0 0) := (blk_cell BK566.out 6).trans rfl; have hcz15_7 : w13.cell? ⟨gb566, 7, none⟩ = some (.slice none 0 0) := (blk_cell BK566.out 7).trans rfl; have hfz15_0 := zfr BK566 0; have hfz15_1 := zfr BK566 1; have hfz15_2 := zfr BK566 2; have hfz15_3 := zfr BK566 3; have hfz15_4 := zfr BK566 4; have hfz15_5 := zfr BK566 5; have hfz15_6 := zfr BK566 6; have hfz15_7 := zfr BK566 7))
      have n0_ : Aside0 (((((((((w13.setCell ⟨gb566, 0, none⟩ (.int .i64 ((rd_T64 l0_0 x12_1).f0))).setCell ⟨gb566, 1, none⟩ (.slice A565_1 ((rd_T64 l0_0 x12_1).f1).length c565_1)).setCell ⟨gb566, 2, none⟩ (.string ((rd_T64 l0_0 x12_1).f2))).setCell ⟨gb566, 3, none⟩ (.slice A565_3 ((rd_T64 l0_0 x12_1).f3).length c565_3)).setCell ⟨gb566, 4, none⟩ (.slice A565_4 ((rd_T64 l0_0 x12_1).f4.f0).length c565_4)).setCell ⟨gb566, 5, none⟩ (.slice A565_5 ((rd_T64 l0_0 x12_1).f4.f1).length c565_5)).setCell ⟨gb566, 6, none⟩ (.slice A565_6 ((rd_T64 l0_0 x12_1).f5.f0).length c565_6)).setCell ⟨gb566, 7, none⟩ (.slice A565_7 ((rd_T64 l0_0 x12_1).f5.f1).length c565_7)).heap[gb563]? = some (.cells #[.slice (some ad565) l0_0.length c0_0, .slice A0_1 l0_1.length c0_1] 43 (0, 0))) := ⟨(y19 NB563_566.out BK563.out)⟩
      have n1_ : Aside0 (((((((((w13.setCell ⟨gb566, 0, none⟩ (.int .i64 ((rd_T64 l0_0 x12_1).f0))).setCell ⟨gb566, 1, none⟩ (.slice A565_1 ((rd_T64 l0_0 x12_1).f1).length c565_1)).setCell ⟨gb566, 2, none⟩ (.string ((rd_T64 l0_0 x12_1).f2))).setCell ⟨gb566, 3, none⟩ (.slice A565_3 ((rd_T64 l0_0 x12_1).f3).length c565_3)).setCell ⟨gb566, 4, none⟩ (.slice A565_4 ((rd_T64 l0_0 x12_1).f4.f0).length c565_4)).setCell ⟨gb566, 5, none⟩ (.slice A565_5 ((rd_T64 l0_0 x12_1).f4.f1).length c565_5)).setCell ⟨gb566, 6, none⟩ (.slice A565_6 ((rd_T64 l0_0 x12_1).f5.f0).length c565_6)).setCell ⟨gb566, 7, none⟩ (.slice A565_7 ((rd_T64 l0_0 x12_1).f5.f1).length c565_7)).heap[gb566]? = some (.cells #[.int .i64 ((rd_T64 l0_0 x12_1).f0), .slice A565_1 ((rd_T64 l0_0 x12_1).f1).length c565_1, .string ((rd_T64 l0_0 x12_1).f2), .slice A565_3 ((rd_T64 l0_0 x12_1).f3).length c565_3, .slice A565_4 ((rd_T64 l0_0 x12_1).f4.f0).length c565_4, .slice A565_5 ((rd_T64 l0_0 x12_1).f4.f1).length c565_5, .slice A565_6 ((rd_T64 l0_0 x12_1).f5.f0).length c565_6, .slice A565_7 ((rd_T64 l0_0 x12_1).f5.f1).length c565_7] 64 (0, 0))) := ⟨(by (with_reducible repeat (first | refine blk_drewN ?_ _ | refine blk_drew ?_ | refine blk_alloc ?_ _)); refine blk_put (cs := #[.int .i64 ((rd_T64 l0_0 x12_1).f0), .slice A565_1 ((rd_T64 l0_0 x12_1).f1).length c565_1, .string ((rd_T64 l0_0 x12_1).f2), .slice A565_3 ((rd_T64 l0_0 x12_1).f3).length c565_3, .slice A565_4 ((rd_T64 l0_0 x12_1).f4.f0).length c565_4, .slice A565_5 ((rd_T64 l0_0 x12_1).f4.f1).length c565_5, .slice A565_6 ((rd_T64 l0_0 x12_1).f5.f0).length c565_6, .slice none 0 0]) ?_ 7 _ rfl; (with_reducible repeat (first | refine blk_drewN ?_ _ | refine blk_drew ?_ | refine blk_alloc ?_ _)); refine blk_put (cs := #[.int .i64 ((rd_T64 l0_0 x12_1).f0), .slice A565_1 ((rd_T64 l0_0 x12_1).f1).length c565_1, .string ((rd_T64 l0_0 x12_1).f2), .slice A565_3 ((rd_T64 l0_0 x12_1).f3).length c565_3, .slice A565_4 ((rd_T64 l0_0 x12_1).f4.f0).length c565_4, .slice A565_5 ((rd_T64 l0_0 x12_1).f4.f1).length c565_5, .slice none 0 0, .slice none 0 0]) ?_ 6 _ rfl; (with_reducible repeat (first | refine blk_drewN ?_ _ | refine blk_drew ?_ | refine blk_alloc ?_ _)); refine blk_put (cs := #[.int .i64 ((rd_T64 l0_0 x12_1).f0), .slice A565_1 ((rd_T64 l0_0 x12_1).f1).length c565_1, .string ((rd_T64 l0_0 x12_1).f2), .slice A565_3 ((rd_T64 l0_0 x12_1).f3).length c565_3, .slice A565_4 ((rd_T64 l0_0 x12_1).f4.f0).length c565_4, .slice none 0 0, .slice none 0 0, .slice none 0 0]) ?_ 5 _ rfl; (with_reducible repeat (first | refine blk_drewN ?_ _ | refine blk_drew ?_ | refine blk_alloc ?_ _)); refine blk_put (cs := #[.int .i64 ((rd_T64 l0_0 x12_1).f0), .slice A565_1 ((rd_T64 l0_0 x12_1).f1).length c565_1, .string ((rd_T64 l0_0 x12_1).f2), .slice A565_3 ((rd_T64 l0_0 x12_1).f3).length c565_3, .slice none 0 0, .slice none 0 0, .slice none 0 0, .slice none 0 0]) ?_ 4 _ rfl; (with_reducible repeat (first | refine blk_drewN ?_ _ | refine blk_drew ?_ | refine blk_alloc ?_ _)); refine blk_put (cs := #[.int .i64 ((rd_T64 l0_0 x12_1).f0), .slice A565_1 ((rd_T64 l0_0 x12_1).f1).length c565_1, .string ((rd_T64 l0_0 x12_1).f2), .slice none 0 0, .slice none 0 0, .slice none 0 0, .slice none 0 0, .slice none 0 0]) ?_ 3 _ rfl; (with_reducible repeat (first | refine blk_drewN ?_ _ | refine blk_drew ?_ | refine blk_alloc ?_ _)); refine blk_put (cs := #[.int .i64 ((rd_T64 l0_0 x12_1).f0), .slice A565_1 ((rd_T64 l0_0 x12_1).f1).length c565_1, .string (⟨#[]⟩ : ByteArray), .slice none 0 0, .slice none 0 0, .slice none 0 0, .slice none 0 0, .slice none 0 0]) ?_ 2 _ rfl; (with_reducible repeat (first | refine blk_drewN ?_ _ | refine blk_drew ?_ | refine blk_alloc ?_ _)); refine blk_put (cs := #[.int .i64 ((rd_T64 l0_0 x12_1).f0), .slice none 0 0, .string (⟨#[]⟩ : ByteArray), .slice none 0 0, .slice none 0 0, .slice none 0 0, .slice none 0 0, .slice none 0 0]) ?_ 1 _ rfl; (with_reducible repeat (first | refine blk_drewN ?_ _ | refine blk_drew ?_ | refine blk_alloc ?_ _)); refine blk_put (cs := #[.int .i64 0, .slice none 0 0, .string (⟨#[]⟩ : ByteArray), .slice none 0 0, .slice none 0 0, .slice none 0 0, .slice none 0 0, .slice none 0 0]) ?_ 0 _ rfl; (with_reducible repeat (first | refine blk_drewN ?_ _ | refine blk_drew ?_ | refine blk_alloc ?_ _)); exact BK566.out)⟩
      have n2_ : Aside0 (Below w.heap.size w ((((((((w13.setCell ⟨gb566, 0, none⟩ (.int .i64 ((rd_T64 l0_0 x12_1).f0))).setCell ⟨gb566, 1, none⟩ (.slice A565_1 ((rd_T64 l0_0 x12_1).f1).length c565_1)).setCell ⟨gb566, 2, none⟩ (.string ((rd_T64 l0_0 x12_1).f2))).setCell ⟨gb566, 3, none⟩ (.slice A565_3 ((rd_T64 l0_0 x12_1).f3).length c565_3)).setCell ⟨gb566, 4, none⟩ (.slice A565_4 ((rd_T64 l0_0 x12_1).f4.f0).length c565_4)).setCell ⟨gb566, 5, none⟩ (.slice A565_5 ((rd_T64 l0_0 x12_1).f4.f1).length c565_5)).setCell ⟨gb566, 6, none⟩ (.slice A565_6 ((rd_T64 l0_0 x12_1).f5.f0).length c565_6)).setCell ⟨gb566, 7, none⟩ (.slice A565_7 ((rd_T64 l0_0 x12_1).f5.f1).length c565_7))) := ⟨(y5 HB.out GE563.out GE566.out)⟩
      (try clear BK563)
      (try clear BK566)
      (try clear HB)
      generalize ((((((((w13.setCell ⟨gb566, 0, none⟩ (.int .i64 ((rd_T64 l0_0 x12_1).f0))).setCell ⟨gb566, 1, none⟩ (.slice A565_1 ((rd_T64 l0_0 x12_1).f1).length c565_1)).setCell ⟨gb566, 2, none⟩ (.string ((rd_T64 l0_0 x12_1).f2))).setCell ⟨gb566, 3, none⟩ (.slice A565_3 ((rd_T64 l0_0 x12_1).f3).length c565_3)).setCell ⟨gb566, 4, none⟩ (.slice A565_4 ((rd_T64 l0_0 x12_1).f4.f0).length c565_4)).setCell ⟨gb566, 5, none⟩ (.slice A565_5 ((rd_T64 l0_0 x12_1).f4.f1).length c565_5)).setCell ⟨gb566, 6, none⟩ (.slice A565_6 ((rd_T64 l0_0 x12_1).f5.f0).length c565_6)).setCell ⟨gb566, 7, none⟩ (.slice A565_7 ((rd_T64 l0_0 x12_1).f5.f1).length c565_7)) = w16 at n0_ n1_ n2_ ⊢
      have BK563 := n0_
      have BK566 := n1_
      have HB := n2_
      clear n0_ n1_ n2_
      replace BK563 := Aside0.mk (blk_drew BK563.out)
      replace BK566 := Aside0.mk (blk_drew BK566.out)
      replace HB := Aside0.mk (below_drew1 HB.out)
      refine start_ (n := 14) (S := fun w' => w'.cell? ⟨gb566, 0, none⟩ = some (.int .i64 ((rd_T64 l0_0 x12_1).f0)) ∧ w'.cell? ⟨gb566, 1, none⟩ = some (.slice A565_1 ((rd_T64 l0_0 x12_1).f1).length c565_1) ∧ w'.cell? ⟨gb566, 2, none⟩ = some (.string ((rd_T64 l0_0 x12_1).f2)) ∧ w'.cell? ⟨gb566, 3, none⟩ = some (.slice A565_3 ((rd_T64 l0_0 x12_1).f3).length c565_3) ∧ w'.cell? ⟨gb566, 4, none⟩ = some (.slice A565_4 ((rd_T64 l0_0 x12_1).f4.f0).length c565_4) ∧ w'.cell? ⟨gb566, 5, none⟩ = some (.slice A565_5 ((rd_T64 l0_0 x12_1).f4.f1).length c565_5) ∧ w'.cell? ⟨gb566, 6, none⟩ = some (.slice A565_6 ((rd_T64 l0_0 x12_1).f5.f0).length c565_6) ∧ w'.cell? ⟨gb566, 7, none⟩ = some (.slice A565_7 ((rd_T64 l0_0 x12_1).f5.f1).length c565_7)) (ds := []) #[false, false, false, false, false, false, false, false, false, false, false, false, false, false] (by kernel_rfl) rfl rfl ⟨(blk_cell BK566.out 0).trans rfl, (blk_cell BK566.out 1).trans rfl, (blk_cell BK566.out 2).trans rfl, (blk_cell BK566.out 3).trans rfl, (blk_cell BK566.out 4).trans rfl, (blk_cell BK566.out 5).trans rfl, (blk_cell BK566.out 6).trans rfl, (blk_cell BK566.out 7).trans rfl⟩ (fun hHeld => ?_); refine with_tabW impl_bodyTerms.tab5 impl_bodyTerms.bits5 (fun HT_ HW_ => ?_)
      generalize w16.drew = w17 at BK563 BK566 HB hHeld ⊢
      refine zp 0 (some 16) HT_ ?_
      refine zp 1 (some 17) HT_ ?_
      refine zp 4 (some 20) HT_ ?_
      refine zp 8 (some 24) HT_ ?_
      refine zt8 2 (some 18) HT_ HW_ hHeld ?_
      refine zt8 5 (some 21) HT_ HW_ hHeld ?_
      refine zt8 9 (some 25) HT_ HW_ hHeld ?_
      refine one_ (i := 3) (N := some 19) #[true, true, true, true, true, true, false, false, true, true, false, false, false, false] rfl rfl (one_of HT_.out (by kernel_rfl)) (by decide) (fun K hK => ?_)
      refine goes_ Try.func46 (by kernel_rfl) rfl #[.slice A565_3 ((rd_T64 l0_0 x12_1).f3).length c565_3] (by rfl) rfl rfl y3 ?_
      with_reducible refine (impl_termsSize.calls k1 _ _ ((rd_T64 l0_0 x12_1).f3) t567 _ ?side1 ?side2 A10.out).mono ?_
      (case side1 => exact y0 HR565_3.out HB.out)
      (case side2 => exact HC565_3.out)
      rintro e w18 ⟨rfl, hb⟩
      refine ⟨_, rfl, ?_⟩
      replace BK563 := zbb BK563 hb
      replace BK566 := zbb BK566 hb
      replace HB := Aside0.mk (below_step (y5 HB.out GE563.out GE566.out) hb)
      (try clear hb)
      (try clear hb2)
      (try clear hk)
      (try clear hi)
      refine hK.out _ _ ⟨(blk_cell BK566.out 0).trans rfl, (blk_cell BK566.out 1).trans rfl, (blk_cell BK566.out 2).trans rfl, (blk_cell BK566.out 3).trans rfl, (blk_cell BK566.out 4).trans rfl, (blk_cell BK566.out 5).trans rfl, (blk_cell BK566.out 6).trans rfl, (blk_cell BK566.out 7).trans rfl⟩ (fun hHeld => ?_)
      clear hK K
      refine norm_ (a' := ?_) ?_ ?_
      rotate_left
      ·show Act.put _ (some 19) _ = _
       simp only [Act.put, List.setIfInBounds_toArray, List.set_cons_zero, List.set_cons_succ, i64_w, i32_w]
       rfl
      refine one_ (i := 6) (N := some 22) #[true, true, true, true, true, true, true, false, true, true, false, false, false, false] rfl rfl (one_of HT_.out (by kernel_rfl)) (by decide) (fun K hK => ?_)
      refine goes_ Try.func30 (by kernel_rfl) rfl #[.agg #[.slice A565_4 ((rd_T64 l0_0 x12_1).f4.f0).length c565_4, .slice A565_5 ((rd_T64 l0_0 x12_1).f4.f1).length c565_5]] (by rfl) rfl rfl y3 ?_
      with_reducible refine (ih k1 (y30 HK1.out) _ _ ((rd_T64 l0_0 x12_1).f4.f0) _ _ ((rd_T64 l0_0 x12_1).f4.f1) t568 _ ?side1 ?side2 ?side3 ?side4 A11.out).mono ?_
      (case side1 => exact y0 HR565_4.out HB.out)
      (case side2 => exact HC565_4.out)
      (case side3 => exact y0 HR565_5.out HB.out)
      (case side4 => exact HC565_5.out)
      rintro e w19 ⟨rfl, hb⟩
      refine ⟨_, rfl, ?_⟩
      replace BK563 := zbb BK563 hb
      replace BK566 := zbb BK566 hb
      replace HB := Aside0.mk (below_step (y5 HB.out GE563.out GE566.out) hb)
      (try clear hb)
      (try clear hb2)
      (try clear hk)
      (try clear hi)
      refine hK.out _ _ ⟨(blk_cell BK566.out 0).trans rfl, (blk_cell BK566.out 1).trans rfl, (blk_cell BK566.out 2).trans rfl, (blk_cell BK566.out 3).trans rfl, (blk_cell BK566.out 4).trans rfl, (blk_cell BK566.out 5).trans rfl, (blk_cell BK566.out 6).trans rfl, (blk_cell BK566.out 7).trans rfl⟩ (fun hHeld => ?_)
      clear hK K
      refine norm_ (a' := ?_) ?_ ?_
      rotate_left
      ·show Act.put _ (some 22) _ = _
       simp only [Act.put, List.setIfInBounds_toArray, List.set_cons_zero, List.set_cons_succ, i64_w, i32_w]
       rfl
      refine zp 7 (some 23) HT_ ?_
      refine one_ (i := 10) (N := some 26) #[true, true, true, true, true, true, true, true, true, true, true, false, false, false] rfl rfl (one_of HT_.out (by kernel_rfl)) (by decide) (fun K hK => ?_)
      refine goes_ Try.func30 (by kernel_rfl) rfl #[.agg #[.slice A565_6 ((rd_T64 l0_0 x12_1).f5.f0).length c565_6, .slice A565_7 ((rd_T64 l0_0 x12_1).f5.f1).length c565_7]] (by rfl) rfl rfl y3 ?_
      with_reducible refine (ih k1 (y30 HK1.out) _ _ ((rd_T64 l0_0 x12_1).f5.f0) _ _ ((rd_T64 l0_0 x12_1).f5.f1) t569 _ ?side1 ?side2 ?side3 ?side4 A12.out).mono ?_
      (case side1 => exact y0 HR565_6.out HB.out)
      (case side2 => exact HC565_6.out)
      (case side3 => exact y0 HR565_7.out HB.out)
      (case side4 => exact HC565_7.out)
      rintro e w20 ⟨rfl, hb⟩
      refine ⟨_, rfl, ?_⟩
      replace BK563 := zbb BK563 hb
      replace BK566 := zbb BK566 hb
      replace HB := Aside0.mk (below_step (y5 HB.out GE563.out GE566.out) hb)
      (try clear hb)
      (try clear hb2)
      (try clear hk)
      (try clear hi)
      refine hK.out _ _ ⟨(blk_cell BK566.out 0).trans rfl, (blk_cell BK566.out 1).trans rfl, (blk_cell BK566.out 2).trans rfl, (blk_cell BK566.out 3).trans rfl, (blk_cell BK566.out 4).trans rfl, (blk_cell BK566.out 5).trans rfl, (blk_cell BK566.out 6).trans rfl, (blk_cell BK566.out 7).trans rfl⟩ (fun hHeld => ?_)
      clear hK K
      refine norm_ (a' := ?_) ?_ ?_
      rotate_left
      ·show Act.put _ (some 26) _ = _
       simp only [Act.put, List.setIfInBounds_toArray, List.set_cons_zero, List.set_cons_succ, i64_w, i32_w]
       rfl
      refine zp 11 (some 27) HT_ ?_
      refine zp 12 (some 28) HT_ ?_
      refine zp 13 (some 3) HT_ ?_
      refine done_ (done_of HT_.out (by kernel_rfl)) ?_
      try go_wp2
      go_roundg k1
      case measure => have := HK1.out; omega
      case rel => exact ⟨(wrap64 (x3_1 + (wrap64 ((wrap64 (t567 + t568)) + t569)))), (wrap64 (x12_1 + 1)), y7, y7, H', ⟨(y30 HK1.out)⟩, ⟨(y8 BK563.out)⟩, ⟨(y5 HB.out GE563.out GE566.out)⟩⟩
     ·rw [if_neg c9] at H
      exact absurd H (by simp)
    ·rw [if_neg c8] at H
     exact absurd H (by simp)
   ·rw [if_neg c7] at H
    have c7b0 : decide (x12_1 < (l0_0.length : Int)) = false := decide_eq_false c7
    clear c7
    obtain rfl := Option.some.inj H
    go_wp2
    go_ret
    exact ⟨y6, (y2 HB.out GE563.out)⟩
end Go.Proofs.Ytdgpegkgelciaaa.PA
end
section
namespace Go.Proofs.Ytdgpegkgelciaaa.PA
open Go.RowKit Go.Proofs.YtdgpegkgelciaaaW.PrintWords Go.Proofs.YtdgpegkgelciaaaW.PrintLast Go.Proofs.YtdgpegkgelciaaaW.PrintMore
attribute [local go_sem] max2_int min2_int max_two min_two max_three min_three max_four min_four
set_option linter.unusedVariables false
set_option linter.unusedSimpArgs false
def impl_SimpSize.l0 : Nat → Int → List (S45) → Int → Int → Option (Int)
 | 0, _, _, _, _ => none
 | k + 1, x3, x9, x10, x11 => if x11 < x10 then (if 0 ≤ x11 then (if x11 < (x9.length : Int) then ((impl_bodyTerms.f k ((rd_T45 x9 x11).f2.f0) ((rd_T45 x9 x11).f2.f1)).bind fun t573 => (impl_SimpSize.l0 k (wrap64 (x3 + t573)) x9 x10 (wrap64 (x11 + 1)))) else (none)) else (none)) else (some x3)
def impl_SimpSize.f (k : Nat) (l0 : List (S45)) : Option (Int) := (impl_PureOk.f l0).bind fun t570 => (if t570 = true then (impl_SimpSize.l0 k 0 l0 (l0.length : Int) 0) else (some (-1)))
theorem impl_SimpSize.mono_l : ∀ k, (∀ y0 y1 y2 y3, LeO (impl_SimpSize.l0 k y0 y1 y2 y3) (impl_SimpSize.l0 (k + 1) y0 y1 y2 y3))
 | 0 => fun _ _ _ _ r h => by simp [impl_SimpSize.l0] at h
 | k + 1 => by
  have ih0 := impl_SimpSize.mono_l k
  ·intro y0 y1 y2 y3
   unfold impl_SimpSize.l0
   repeat' first
   | (with_reducible exact ih0 _ _ _ _)
   | (with_reducible exact impl_bodyTerms.mono _ _ _)
   | (with_reducible exact LeO.refl _)
   | (with_reducible exact LeO.none _)
   | (with_reducible refine LeO.ite ?_ ?_)
   | (with_reducible refine LeO.bind ?_ (fun _ => ?_))
   | exact ih0 _ _ _ _
   | exact impl_bodyTerms.mono _ _ _
   | exact LeO.none _
   | refine LeO.ite ?_ ?_
   | refine LeO.bind ?_ (fun _ => ?_)
theorem impl_SimpSize.mono : ∀ a0 k, LeO (impl_SimpSize.f k a0) (impl_SimpSize.f (k + 1) a0) := by
 intro a0 k
 have ih0 := impl_SimpSize.mono_l k
 unfold impl_SimpSize.f
 repeat' first
   | (with_reducible exact ih0 _ _ _ _)
   | (with_reducible exact impl_bodyTerms.mono _ _ _)
   | (with_reducible exact LeO.refl _)
   | (with_reducible exact LeO.none _)
   | (with_reducible refine LeO.ite ?_ ?_)
   | (with_reducible refine LeO.bind ?_ (fun _ => ?_))
   | exact ih0 _ _ _ _
   | exact impl_bodyTerms.mono _ _ _
   | exact LeO.none _
   | refine LeO.ite ?_ ?_
   | refine LeO.bind ?_ (fun _ => ?_)
set_option maxHeartbeats 8000000 in
set_option maxRecDepth 100000 in
theorem impl_SimpSize.calls (k : Nat) (A0 : Option Addr) (c0 : Nat) (l0 : List (S45)) (r : Int) (w : World) (hr0 : Kd.C k45 w A0 l0.length l0) (hc0 : l0.length ≤ c0) (h : impl_SimpSize.f k l0 = some r) :
  Calls Try.prog 14 #[.slice A0 l0.length c0] w fun e w' => e = .returned (.int .i64 r) ∧ Below w.heap.size w w' := by
 have hu45 := Try.underlying45
 have hu43 := Try.underlying43
 have HR0 := Aside0.mk hr0
 have HC0 := Aside0.mk hc0
 clear hr0 hc0
 have HB := Aside0.mk (Below.refl w.heap.size w)
 have H : ((impl_PureOk.f l0).bind fun t570 => (if t570 = true then (impl_SimpSize.l0 k 0 l0 (l0.length : Int) 0) else (some (-1)))) = some r := h
 clear h
 obtain ⟨t570, A20, H⟩ := ob H
 have A2 := Aside0.mk A20
 clear A20
 have HZ3 := Aside0.mk H
 clear H
 go_enter Try.func14, Try.ntmps14
 go_upto_if 8 with (first | ((with_reducible refine gate_callee (f := 9) rfl ?_); refine goesL_ (some 7) rfl rfl Try.func9 (by kernel_rfl) rfl #[.slice A0 l0.length c0] rfl y3 ?_; (with_reducible refine (impl_PureOk.calls _ _ l0 t570 _ ?side1 ?side2 A2.out).mono ?_); (case side1 => exact y24 HR0.out); (case side2 => exact HC0.out); rintro e w4 ⟨rfl, hb⟩; refine ⟨_, rfl, ?_⟩; replace HB := Aside0.mk (below_step (y1 HB.out) hb); (try clear hb); (try clear hb2); (try clear hk); (try clear hi)))
 (try simp only [Act.put, List.setIfInBounds_toArray, List.set_cons_zero, List.set_cons_succ])
 have H := HZ3.out
 clear HZ3
 by_cases c5 : t570 = true
 ·subst c5
  rw [if_pos rfl] at H
  have H' := Aside0.mk H
  clear H
  go_wp2
  go_loopg [3, 11] k (fun kq v3 v11 w' => ∃ (x3_1 : Int) (x11_1 : Int), v3 = .int .i64 x3_1 ∧ v11 = .int .i64 x11_1 ∧ Aside0 (impl_SimpSize.l0 kq x3_1 l0 (l0.length : Int) x11_1 = some r) ∧ Aside0 (kq ≤ k) ∧ Aside0 (Below w.heap.size w w'))
  case atStart => exact ⟨(0), (0), y7, y7, H', ⟨Nat.le_refl _⟩, ⟨(y1 HB.out)⟩⟩
  case round =>
   clear H'
   try clear c1
   try clear p2
   try clear c5
   obtain ⟨x3_1, x11_1, rfl, rfl, HA, HK1, HB⟩ := hrel
   cases gk with
   | zero => exact absurd HA.out (by simp [impl_SimpSize.l0])
   | succ k1 =>
    have H := HA.out
    clear HA
    simp only [impl_SimpSize.l0] at H
    by_cases c6 : x11_1 < (l0.length : Int)
    ·rw [if_pos c6] at H
     have c6b0 : decide (x11_1 < (l0.length : Int)) = true := decide_eq_true c6
     clear c6
     (first | rw [c6b0] | (simp only [i64_w, i32_w]; rw [c6b0]) | skip)
     by_cases c7 : 0 ≤ x11_1
     ·rw [if_pos c7] at H
      have c7b0 : decide (0 ≤ x11_1) = true := decide_eq_true c7
      clear c7
      by_cases c8 : x11_1 < (l0.length : Int)
      ·rw [if_pos c8] at H
       have c8b0 : decide (x11_1 < (l0.length : Int)) = true := decide_eq_true c8
       clear c8
       obtain ⟨t573, A90, H⟩ := ob H
       have A9 := Aside0.mk A90
       clear A90
       have H' := Aside0.mk H
       clear H
       have p571 : 0 ≤ (x11_1 : Int) := of_decide_eq_true y4
       have q571 : x11_1 < (l0.length : Int) := of_decide_eq_true y4
       obtain ⟨ad571, A571_1, c571_1, A571_2, c571_2, A571_3, c571_3, e571, hx571_0, hx571_1, hx571_2, hx571_3, hl571_1, hi571_1, hl571_2, hi571_2, hl571_3, hi571_3⟩ := at_T45 HR0.out x11_1 p571 q571
       cases e571
       replace hx571_0 := (HB.out.cell (World.block_lt_of_cell? w _ hx571_0)).trans hx571_0
       replace hx571_1 := (HB.out.cell (World.block_lt_of_cell? w _ hx571_1)).trans hx571_1
       replace hx571_2 := (HB.out.cell (World.block_lt_of_cell? w _ hx571_2)).trans hx571_2
       replace hx571_3 := (HB.out.cell (World.block_lt_of_cell? w _ hx571_3)).trans hx571_3
       have HR571_1 := Aside0.mk hi571_1
       have HC571_1 := Aside0.mk hl571_1
       clear hi571_1 hl571_1
       have HR571_2 := Aside0.mk hi571_2
       have HC571_2 := Aside0.mk hl571_2
       clear hi571_2 hl571_2
       have HR571_3 := Aside0.mk hi571_3
       have HC571_3 := Aside0.mk hl571_3
       clear hi571_3 hl571_3
       replace p571 := eq_true p571
       replace q571 := eq_true q571
       go_wp2_with (first | ((with_reducible refine gate_dst (N := 5) rfl ?_); refine zbx 5 #[.string (⟨#[]⟩ : ByteArray), .slice none 0 0, .slice none 0 0, .slice none 0 0] 45 ?_; intro gb572 hg w10 hbox hb; have BK572 := Aside0.mk hbox; have GW572 := Aside0.mk ((y9 hg HB.out : w.heap.size ≤ gb572)); have GE572 := Aside0.mk ((y9 hg HB.out : w.heap.size ≤ gb572)); replace HB := Aside0.mk (below_step (y1 HB.out) hb); clear hb hbox hg; have hcz11_0 := zh BK572; have hcz11_1 := zh1 BK572; have hcz11_2 := zh2 BK572; have hcz11_3 : w10.cell? ⟨gb572, 3, none⟩ = some (.slice none 0 0) := (blk_cell BK572.out 3).trans rfl; have hfz11_0 := zfr BK572 0; have hfz11_1 := zfr BK572 1; have hfz11_2 := zfr BK572 2; have hfz11_3 := zfr BK572 3) | ((with_reducible refine gate_callee (f := 30) rfl ?_); refine goesL_ (some 18) rfl rfl Try.func30 (by kernel_rfl) rfl #[.agg #[.slice A571_2 ((rd_T45 l0 x11_1).f2.f0).length c571_2, .slice A571_3 ((rd_T45 l0 x11_1).f2.f1).length c571_3]] rfl y3 ?_; (with_reducible refine (impl_bodyTerms.calls k1 _ _ ((rd_T45 l0 x11_1).f2.f0) _ _ ((rd_T45 l0 x11_1).f2.f1) t573 _ ?side1 ?side2 ?side3 ?side4 A9.out).mono ?_); (case side1 => exact y29 HR571_2.out HB.out GE572.out); (case side2 => exact HC571_2.out); (case side3 => exact y29 HR571_3.out HB.out GE572.out); (case side4 => exact HC571_3.out); rintro e w12 ⟨rfl, hb⟩; refine ⟨_, rfl, ?_⟩; replace BK572 := Aside0.mk (blk_below (g := gb572) (o := .cells #[.string ((rd_T45 l0 x11_1).f0), .slice A571_1 ((rd_T45 l0 x11_1).f1).length c571_1, .slice A571_2 ((rd_T45 l0 x11_1).f2.f0).length c571_2, .slice A571_3 ((rd_T45 l0 x11_1).f2.f1).length c571_3] 45 (0, 0)) (by (with_reducible repeat (first | refine blk_drewN ?_ _ | refine blk_drew ?_ | refine blk_alloc ?_ _)); refine blk_put (cs := #[.string ((rd_T45 l0 x11_1).f0), .slice A571_1 ((rd_T45 l0 x11_1).f1).length c571_1, .slice A571_2 ((rd_T45 l0 x11_1).f2.f0).length c571_2, .slice none 0 0]) ?_ 3 _ rfl; (with_reducible repeat (first | refine blk_drewN ?_ _ | refine blk_drew ?_ | refine blk_alloc ?_ _)); refine blk_put (cs := #[.string ((rd_T45 l0 x11_1).f0), .slice A571_1 ((rd_T45 l0 x11_1).f1).length c571_1, .slice none 0 0, .slice none 0 0]) ?_ 2 _ rfl; (with_reducible repeat (first | refine blk_drewN ?_ _ | refine blk_drew ?_ | refine blk_alloc ?_ _)); refine blk_put (cs := #[.string ((rd_T45 l0 x11_1).f0), .slice none 0 0, .slice none 0 0, .slice none 0 0]) ?_ 1 _ rfl; (with_reducible repeat (first | refine blk_drewN ?_ _ | refine blk_drew ?_ | refine blk_alloc ?_ _)); apply blk_put (i := 0); (case h => exact y8 BK572.out); (case e => rfl)) hb); replace HB := Aside0.mk (below_step (y2 HB.out GE572.out) hb); (try clear hb); (try clear hb2); (try clear hk); (try clear hi)))
       go_roundg k1
       case measure => have := HK1.out; omega
       case rel => exact ⟨(wrap64 (x3_1 + t573)), (wrap64 (x11_1 + 1)), y7, y7, H', ⟨(y30 HK1.out)⟩, ⟨(y2 HB.out GE572.out)⟩⟩
      ·rw [if_neg c8] at H
       exact absurd H (by simp)
     ·rw [if_neg c7] at H
      exact absurd H (by simp)
    ·rw [if_neg c6] at H
     have c6b0 : decide (x11_1 < (l0.length : Int)) = false := decide_eq_false c6
     clear c6
     (first | rw [c6b0] | (simp only [i64_w, i32_w]; rw [c6b0]) | skip)
     obtain rfl := Option.some.inj H
     go_wp2
     go_ret
     exact ⟨y6, (y1 HB.out)⟩
 ·replace c5 := Bool.eq_false_iff.mpr c5
  subst c5
  rw [if_neg (show ¬ (false = true) by decide)] at H
  obtain rfl := Option.some.inj H
  go_wp2
  go_ret
  exact ⟨y6, (y1 HB.out)⟩
end Go.Proofs.Ytdgpegkgelciaaa.PA
end
section
namespace Go.Proofs.Ytdgpegkgelciaaa.PA
open Go.RowKit Go.Proofs.YtdgpegkgelciaaaW.PrintWords Go.Proofs.YtdgpegkgelciaaaW.PrintLast Go.Proofs.YtdgpegkgelciaaaW.PrintMore
attribute [local go_sem] max2_int min2_int max_two min_two max_three min_three max_four min_four
set_option linter.unusedVariables false
set_option linter.unusedSimpArgs false
def laws_FnExactSimpSize.f (k : Nat) (l0 : List (S37)) : Option (Bool) := (laws_szPureS.f k l0 1048576).bind fun t574 => (if t574 < 0 then (some true) else ((laws_toPureS.f k l0).bind fun t575 => ((spec_SimpSize.f k t575).bind fun t578 => ((laws_toPureS.f k l0).bind fun t579 => ((impl_SimpSize.f k t579).bind fun t582 => (if t582 = t578 then ((laws_toPureS.f k l0).bind fun t583 => ((laws_eqPureS.f k t579 t583).bind fun t586 => (if t586 = true then (some true) else (some false)))) else (some false)))))))
theorem laws_FnExactSimpSize.mono : ∀ a0 k, LeO (laws_FnExactSimpSize.f k a0) (laws_FnExactSimpSize.f (k + 1) a0) := by
 intro a0 k
 unfold laws_FnExactSimpSize.f
 repeat' first
   | (with_reducible exact impl_SimpSize.mono _ _)
   | (with_reducible exact laws_eqPureS.mono _ _ _)
   | (with_reducible exact laws_szPureS.mono _ _ _)
   | (with_reducible exact laws_toPureS.mono _ _)
   | (with_reducible exact spec_SimpSize.mono _ _)
   | (with_reducible exact LeO.refl _)
   | (with_reducible exact LeO.none _)
   | (with_reducible refine LeO.ite ?_ ?_)
   | (with_reducible refine LeO.bind ?_ (fun _ => ?_))
   | exact impl_SimpSize.mono _ _
   | exact laws_eqPureS.mono _ _ _
   | exact laws_szPureS.mono _ _ _
   | exact laws_toPureS.mono _ _
   | exact spec_SimpSize.mono _ _
   | exact LeO.none _
   | refine LeO.ite ?_ ?_
   | refine LeO.bind ?_ (fun _ => ?_)
set_option maxHeartbeats 8000000 in
set_option maxRecDepth 100000 in
theorem laws_FnExactSimpSize.calls (k : Nat) (A0 : Option Addr) (c0 : Nat) (l0 : List (S37)) (r : Bool) (w : World) (hr0 : Kd.C k37 w A0 l0.length l0) (hc0 : l0.length ≤ c0) (h : laws_FnExactSimpSize.f k l0 = some r) (hr_ : Aside0 (r = true)) :
  Calls Try.prog 5 #[.slice A0 l0.length c0] w fun e w' => e = .returned (.bool r) ∧ Below w.heap.size w w' := by
 have HR0 := Aside0.mk hr0
 have HC0 := Aside0.mk hc0
 clear hr0 hc0
 have HB := Aside0.mk (Below.refl w.heap.size w)
 have H : ((laws_szPureS.f k l0 1048576).bind fun t574 => (if t574 < 0 then (some true) else ((laws_toPureS.f k l0).bind fun t575 => ((spec_SimpSize.f k t575).bind fun t578 => ((laws_toPureS.f k l0).bind fun t579 => ((impl_SimpSize.f k t579).bind fun t582 => (if t582 = t578 then ((laws_toPureS.f k l0).bind fun t583 => ((laws_eqPureS.f k t579 t583).bind fun t586 => (if t586 = true then (some true) else (some false)))) else (some false)))))))) = some r := h
 clear h
 obtain ⟨t574, A20, H⟩ := ob H
 have A2 := Aside0.mk A20
 clear A20
 have HZ3 := Aside0.mk H
 clear H
 go_enter Try.func5, Try.ntmps5
 go_upto_if 11 with (first | ((with_reducible refine gate_callee (f := 6) rfl ?_); refine goesL_ (some 9) rfl rfl Try.func6 (by kernel_rfl) rfl #[.slice A0 l0.length c0, .int .i64 1048576] rfl y3 ?_; (with_reducible refine (laws_szPureS.calls k _ _ l0 1048576 t574 _ ?side1 ?side2 A2.out).mono ?_); (case side1 => exact y24 HR0.out); (case side2 => exact HC0.out); rintro e w4 ⟨rfl, hb⟩; refine ⟨_, rfl, ?_⟩; replace HB := Aside0.mk (below_step (y1 HB.out) hb); (try clear hb); (try clear hb2); (try clear hk); (try clear hi)))
 (try simp only [Act.put, List.setIfInBounds_toArray, List.set_cons_zero, List.set_cons_succ])
 have H := HZ3.out
 clear HZ3
 by_cases c5 : t574 < 0
 ·rw [if_pos c5] at H
  have c5b0 : decide (t574 < 0) = true := decide_eq_true c5
  clear c5
  (first | rw [c5b0] | (simp only [i64_w, i32_w]; rw [c5b0]) | skip)
  clear hr_
  obtain rfl := Option.some.inj H
  go_wp2
  go_ret
  exact ⟨y6, (y1 HB.out)⟩
 ·rw [if_neg c5] at H
  have c5b0 : decide (t574 < 0) = false := decide_eq_false c5
  clear c5
  (first | rw [c5b0] | (simp only [i64_w, i32_w]; rw [c5b0]) | skip)
  obtain ⟨t575, A60, H⟩ := ob H
  have A6 := Aside0.mk A60
  clear A60
  obtain ⟨t578, A70, H⟩ := ob H
  have A7 := Aside0.mk A70
  clear A70
  obtain ⟨t579, A80, H⟩ := ob H
  have A8 := Aside0.mk A80
  clear A80
  obtain ⟨t582, A90, H⟩ := ob H
  have A9 := Aside0.mk A90
  clear A90
  have HZ10 := Aside0.mk H
  clear H
  go_upto_if 21 with (first | ((with_reducible refine gate_callee (f := 8) rfl ?_); refine goesL_ (some 13) rfl rfl Try.func8 (by kernel_rfl) rfl #[.slice A0 l0.length c0] rfl y3 ?_; (with_reducible refine (laws_toPureS.calls k _ _ l0 t575 _ ?side1 ?side2 A6.out).mono ?_); (case side1 => exact y0 HR0.out HB.out); (case side2 => exact HC0.out); rintro e w11 ⟨v576, rfl, ho0, hb⟩; refine ⟨_, rfl, ?_⟩; have HO577 := Aside0.mk (Kd.R_lower ho0 (below_size (y1 HB.out))); replace HB := Aside0.mk (below_step (y1 HB.out) hb); (try clear hb); (try clear hb2); (try clear hk); (try clear hi); (try clear ho0); obtain ⟨Ao12, co12, eo12⟩ := Kd.R_slice HO577.out; subst eo12) | ((with_reducible refine gate_callee (f := 13) rfl ?_); refine goesL_ (some 14) rfl rfl Try.func13 (by kernel_rfl) rfl #[.slice Ao12 t575.length co12] rfl y3 ?_; (with_reducible refine (spec_SimpSize.calls k _ _ t575 t578 _ ?side1 ?side2 A7.out).mono ?_); (case side1 => exact y18 HO577.out); (case side2 => exact (Kd.R_reads' HO577.out).2.1); rintro e w13 ⟨rfl, hb⟩; refine ⟨_, rfl, ?_⟩; replace HO577 := Aside0.mk (Kd.R_below (y11 HO577.out) hb); replace HB := Aside0.mk (below_step (y1 HB.out) hb); (try clear hb); (try clear hb2); (try clear hk); (try clear hi)) | ((with_reducible refine gate_callee (f := 8) rfl ?_); refine goesL_ (some 16) rfl rfl Try.func8 (by kernel_rfl) rfl #[.slice A0 l0.length c0] rfl y3 ?_; (with_reducible refine (laws_toPureS.calls k _ _ l0 t579 _ ?side1 ?side2 A8.out).mono ?_); (case side1 => exact y0 HR0.out HB.out); (case side2 => exact HC0.out); rintro e w14 ⟨v580, rfl, ho0, hb⟩; refine ⟨_, rfl, ?_⟩; have HO581 := Aside0.mk (Kd.R_lower (Kd.R_new' ho0 (Kd.R_lt (y11 HO577.out))) (below_size (y1 HB.out))); replace HO577 := Aside0.mk (Kd.R_elder' (y11 HO577.out) (Kd.R_base ho0) hb); replace HB := Aside0.mk (below_step (y1 HB.out) hb); (try clear hb); (try clear hb2); (try clear hk); (try clear hi); (try clear ho0); obtain ⟨Ao15, co15, eo15⟩ := Kd.R_slice HO581.out; subst eo15) | ((with_reducible refine gate_callee (f := 14) rfl ?_); refine goesL_ (some 18) rfl rfl Try.func14 (by kernel_rfl) rfl #[.slice Ao15 t579.length co15] rfl y3 ?_; (with_reducible refine (impl_SimpSize.calls k _ _ t579 t582 _ ?side1 ?side2 A9.out).mono ?_); (case side1 => exact y18 HO581.out); (case side2 => exact (Kd.R_reads' HO581.out).2.1); rintro e w16 ⟨rfl, hb⟩; refine ⟨_, rfl, ?_⟩; replace HO577 := Aside0.mk (Kd.R_below (y11 HO577.out) hb); replace HO581 := Aside0.mk (Kd.R_below (y11 HO581.out) hb); replace HB := Aside0.mk (below_step (y1 HB.out) hb); (try clear hb); (try clear hb2); (try clear hk); (try clear hi)))
  (try simp only [Act.put, List.setIfInBounds_toArray, List.set_cons_zero, List.set_cons_succ])
  have H := HZ10.out
  clear HZ10
  by_cases c17 : t582 = t578
  ·rw [if_pos c17] at H
   have c17b0 : (t582 == t578) = true := beq_iff_eq.mpr c17
   have c17b1 : (t582 != t578) = false := bne_eq_false_iff_eq.mpr c17
   clear c17
   (first | rw [c17b0] | (simp only [i64_w, i32_w]; rw [c17b0]) | skip)
   obtain ⟨t583, A180, H⟩ := ob H
   have A18 := Aside0.mk A180
   clear A180
   obtain ⟨t586, A190, H⟩ := ob H
   have A19 := Aside0.mk A190
   clear A190
   have HZ20 := Aside0.mk H
   clear H
   go_upto_if 26 with (first | ((with_reducible refine gate_callee (f := 8) rfl ?_); refine goesL_ (some 24) rfl rfl Try.func8 (by kernel_rfl) rfl #[.slice A0 l0.length c0] rfl y3 ?_; (with_reducible refine (laws_toPureS.calls k _ _ l0 t583 _ ?side1 ?side2 A18.out).mono ?_); (case side1 => exact y0 HR0.out HB.out); (case side2 => exact HC0.out); rintro e w21 ⟨v584, rfl, ho0, hb⟩; refine ⟨_, rfl, ?_⟩; have HO585 := Aside0.mk (Kd.R_lower (Kd.R_new' (Kd.R_new' ho0 (Kd.R_lt (y11 HO577.out))) (Kd.R_lt (y11 HO581.out))) (below_size (y1 HB.out))); replace HO577 := Aside0.mk (Kd.R_elder' (y11 HO577.out) (Kd.R_base ho0) hb); replace HO581 := Aside0.mk (Kd.R_elder' (y11 HO581.out) (Kd.R_base ho0) hb); replace HB := Aside0.mk (below_step (y1 HB.out) hb); (try clear hb); (try clear hb2); (try clear hk); (try clear hi); (try clear ho0); obtain ⟨Ao22, co22, eo22⟩ := Kd.R_slice HO585.out; subst eo22) | ((with_reducible refine gate_callee (f := 10) rfl ?_); refine goesL_ (some 25) rfl rfl Try.func10 (by kernel_rfl) rfl #[.slice Ao15 t579.length co15, .slice Ao22 t583.length co22] rfl y3 ?_; (with_reducible refine (laws_eqPureS.calls k _ _ t579 _ _ t583 t586 _ ?side1 ?side2 ?side3 ?side4 A19.out).mono ?_); (case side1 => exact y18 HO581.out); (case side2 => exact (Kd.R_reads' HO581.out).2.1); (case side3 => exact y18 HO585.out); (case side4 => exact (Kd.R_reads' HO585.out).2.1); rintro e w23 ⟨rfl, hb⟩; refine ⟨_, rfl, ?_⟩; replace HO577 := Aside0.mk (Kd.R_below (y11 HO577.out) hb); replace HO581 := Aside0.mk (Kd.R_below (y11 HO581.out) hb); replace HO585 := Aside0.mk (Kd.R_below (y11 HO585.out) hb); replace HB := Aside0.mk (below_step (y1 HB.out) hb); (try clear hb); (try clear hb2); (try clear hk); (try clear hi)))
   (try simp only [Act.put, List.setIfInBounds_toArray, List.set_cons_zero, List.set_cons_succ])
   have H := HZ20.out
   clear HZ20
   by_cases c24 : t586 = true
   ·subst c24
    rw [if_pos rfl] at H
    clear hr_
    obtain rfl := Option.some.inj H
    go_wp2
    go_ret
    exact ⟨y6, (y1 HB.out)⟩
   ·replace c24 := Bool.eq_false_iff.mpr c24
    subst c24
    rw [if_neg (show ¬ (false = true) by decide)] at H
    exact absurd ((Option.some.inj H).trans hr_.out) (by decide)
  ·rw [if_neg c17] at H
   have c17b0 : (t582 == t578) = false := beq_eq_false_iff_ne.mpr c17
   have c17b1 : (t582 != t578) = true := bne_iff_ne.mpr c17
   (first | rw [c17b0] | (simp only [i64_w, i32_w]; rw [c17b0]) | skip)
   exact absurd ((Option.some.inj H).trans hr_.out) (by decide)
end Go.Proofs.Ytdgpegkgelciaaa.PA
end
section
namespace Go.Proofs.Ytdgpegkgelciaaa.OpenG
open Go.ChangeShapes Go.WideShapes Go.ChangeAt Go.RowKit Go.Deep Go.Proofs.Ytdgpegkgelciaaa.PA Go.Proofs.YtdgpegkgelciaaaW.PrintWords Go.Proofs.YtdgpegkgelciaaaW.PrintLast
section
variable {H : Type} (enc : TypeId × Value → H) (P : Program) (W : World)
def OpAt {α : Type} (m : Nat) (t : TypeId) (d : Kd α) (ok : α → Prop) : Prop := ∀ (cs : List Value) (x : DataW H × List MemPlace), DataW.trod enc P W 0 (fun _ => true) true m t cs = some x → ∃ y : α, d.K W y cs ∧ ok y
def OpSeg {α : Type} (n : Nat) (fs : List (Nat × TypeId)) (o : Nat) (d : Kd α) (ok : α → Prop) : Prop :=
  ∀ cs : List Value, (∀ f ∈ fs, ∃ x, DataW.trod enc P W 0 (fun _ => true) true n f.2 ((cs.drop f.1).take (P.cellsOf f.2)) = some x) → cs.length = o + d.sz → ∃ y : α, d.K W y (cs.drop o) ∧ ok y
end
section
variable {H : Type} {enc : TypeId × Value → H} {P : Program} {W : World} {α β : Type} {d : Kd α} {d' : Kd β} {ok : α → Prop} {ok' : β → Prop} {t e : TypeId} {m n o : Nat}
theorem opInt (hu : P.underlying t = some (.int .i64)) : OpAt enc P W m t (Kd.int .i64) (fun i => (Lit.int .i64 i).wf = true) := fun _ _ h => by
  obtain ⟨i, hi, _, hw⟩ := DataW.trod_int hu h
  exact ⟨i, hi, hw⟩
theorem opStr (hu : P.underlying t = some .string) : OpAt enc P W m t Kd.string (fun s => s.size ≤ 9223372036854775807) := fun _ _ h => by
  obtain ⟨s, hs, _, hz⟩ := DataW.trod_string hu h
  exact ⟨s, hs, hz⟩
theorem opImp {ok2 : α → Prop} (h : OpAt enc P W m t d ok) (hi : ∀ y, ok y → ok2 y) : OpAt enc P W m t d ok2 := fun cs x hx => by
  obtain ⟨y, h1, h2⟩ := h cs x hx
  exact ⟨y, h1, hi y h2⟩
theorem opKd {d2 : Kd α} (h : OpAt enc P W m t d ok) (hi : ∀ y cs, d.K W y cs → d2.K W y cs) : OpAt enc P W m t d2 ok := fun cs x hx => by
  obtain ⟨y, h1, h2⟩ := h cs x hx
  exact ⟨y, hi y cs h1, h2⟩
theorem opIso {f : β → α} (g : α → β) (hg : ∀ a, f (g a) = a) (h : OpAt enc P W m t d ok) : OpAt enc P W m t (Kd.iso d f) (fun b => ok (f b)) := fun cs x hx => by
  obtain ⟨y, h1, h2⟩ := h cs x hx
  refine ⟨g y, ?_, ?_⟩
  · show d.K W (f (g y)) cs
    rw [hg]; exact h1
  · show ok (f (g y))
    rw [hg]; exact h2
theorem opSlice [Inhabited α] (hu : P.underlying t = some (.slice e)) (hs : P.cellsOf e = d.sz) (h : ∀ n, n < m → OpAt enc P W n e d ok) :
    OpAt enc P W m t (Kd.slice e d) (fun l => l.length ≤ 9223372036854775807 ∧ ∀ x ∈ l, ok x) := fun cs x hx => by
  rcases DataW.trod_slice hu hx with ⟨hv, _⟩ | ⟨a, len, cap, elems, rest, n', rfl, hv, _, _, hlc, hcm, hel, hE, _, _⟩
  · exact ⟨[], ⟨none, 0, hv, Nat.le_refl 0, ⟨rfl, by simp, fun h => absurd h (by simp)⟩⟩, by simp, fun x hx => by cases hx⟩
  · have key : ∀ i, i < len → ∃ y : α, ∃ c, W.cells? 0 (a.add (i * d.sz)) d.sz = some c ∧ d.K W y c ∧ ok y := by
      intro i hi
      have e := hE i hi
      rw [List.getElem?_eq_getElem (by rw [hel]; exact hi), hs] at e
      obtain ⟨c, h1, h2⟩ := Option.bind_eq_some_iff.1 e
      obtain ⟨y, hy, hw⟩ := h n' (by omega) c _ h2
      exact ⟨y, c, h1, hy, hw⟩
    obtain ⟨f, hff⟩ := choose_lt key
    have hm : maxLen = 9223372036854775807 := by decide
    refine ⟨(List.range len).map f, ⟨some a, cap, ?_, ?_, ⟨?_, ?_, fun _ => ⟨a, rfl, fun j p hj => ?_⟩⟩⟩, ?_, ?_⟩
    · simpa using hv
    · simpa using hlc
    · simp
    · simp; omega
    · simp only [List.getElem?_map] at hj
      rcases Nat.lt_or_ge j len with hj' | hj'
      · rw [List.getElem?_range hj'] at hj
        simp at hj
        subst hj
        obtain ⟨c, h1, h2, _⟩ := hff j hj'
        obtain ⟨_, hcl, hcc⟩ := World.cells?_some h1
        refine ⟨c, hcl, h2, fun i u hu => ?_⟩
        have hi : i < d.sz := by
          rw [← hcl]
          exact (List.getElem?_eq_some_iff.1 hu).1
        have := hcc i hi
        rwa [hu, Go.Deep.add_add] at this
      · rw [List.getElem?_eq_none (by simpa using hj')] at hj
        cases hj
    · simp; omega
    · intro x hx
      obtain ⟨j, hj, rfl⟩ := List.mem_map.1 hx
      obtain ⟨c, _, _, h3⟩ := hff j (List.mem_range.1 hj)
      exact h3
theorem segOne (h : OpAt enc P W n t d ok) (hs : P.cellsOf t = d.sz) : OpSeg enc P W n [(o, t)] o d ok := fun cs hf hl => by
  obtain ⟨x, hx⟩ := hf _ List.mem_cons_self
  obtain ⟨y, h1, h2⟩ := h _ _ hx
  rw [hs, List.take_of_length_le (by rw [List.length_drop]; omega)] at h1
  exact ⟨y, h1, h2⟩
theorem segCons {fs : List (Nat × TypeId)} (h : OpAt enc P W n t d ok) (hs : P.cellsOf t = d.sz) (h' : OpSeg enc P W n fs (o + d.sz) d' ok') : OpSeg enc P W n ((o, t) :: fs) o (Kd.pair d d') (fun p => ok p.1 ∧ ok' p.2) := fun cs hf hl => by
  obtain ⟨x, hx⟩ := hf _ List.mem_cons_self
  obtain ⟨y, h1, h2⟩ := h _ _ hx
  obtain ⟨z, h3, h4⟩ := h' cs (fun g hg => hf g (List.mem_cons_of_mem _ hg)) (by rw [hl]; show o + (d.sz + d'.sz) = _; omega)
  rw [hs] at h1
  refine ⟨(y, z), ⟨_, _, ?_, h1, h3⟩, h2, h4⟩
  rw [← List.drop_drop, List.take_append_drop]
theorem segIso {fs : List (Nat × TypeId)} {f : β → α} (g : α → β) (hg : ∀ a, f (g a) = a) (h : OpSeg enc P W n fs o d ok) : OpSeg enc P W n fs o (Kd.iso d f) (fun b => ok (f b)) := fun cs hf hl => by
  obtain ⟨y, h1, h2⟩ := h cs hf hl
  refine ⟨g y, ?_, ?_⟩
  · show d.K W (f (g y)) (cs.drop o)
    rw [hg]; exact h1
  · show ok (f (g y))
    rw [hg]; exact h2
theorem opStruct {fs : Array Field} {gs : List (Nat × TypeId)} (hu : P.underlying t = some (.struct fs)) (hg : fs.toList.map (fun f => (f.offset, f.type)) = gs) (hs : P.cellsOf t = d.sz) (h : ∀ n, n + 1 = m → OpSeg enc P W n gs 0 d ok) : OpAt enc P W m t d ok := fun cs x hx => by
  obtain ⟨xs, n, hfu, _, hl, hlen, hf⟩ := DataW.trod_struct hu hx
  obtain ⟨y, h1, h2⟩ := h n hfu.symm cs (fun g hm => by
    rw [← hg] at hm
    obtain ⟨f, hm2, rfl⟩ := List.mem_map.1 hm
    obtain ⟨i, hi, e⟩ := List.getElem_of_mem hm2
    have e2 := hf i f (by rw [← e]; simp at hi; simp [hi])
    rw [List.getElem?_eq_getElem (by rw [hlen]; simpa using hi)] at e2
    exact ⟨_, e2⟩) (by omega)
  rw [List.drop_zero] at h1
  exact ⟨y, h1, h2⟩
end
end Go.Proofs.Ytdgpegkgelciaaa.OpenG
end
section
namespace Go.Proofs.Ytdgpegkgelciaaa.OpenU
open Go.ChangeShapes Go.WideShapes Go.ChangeAt Go.RowKit Go.Deep Go.Proofs.Ytdgpegkgelciaaa.PA Go.Proofs.Ytdgpegkgelciaaa.OpenG Go.Proofs.YtdgpegkgelciaaaW.PrintWords Go.Proofs.YtdgpegkgelciaaaW.PrintLast
inductive Ok96 : S96 → Prop
  | mk (t : S96) (h0 : (Lit.int .i64 t.f0).wf = true) (h1 : (Lit.int .i64 t.f1).wf = true) (h2 : t.f2.size ≤ 9223372036854775807) (h3 : t.f3.length ≤ 9223372036854775807) (h4 : ∀ x ∈ t.f3, (Lit.int .i64 x).wf = true) (h5 : t.f4.length ≤ 9223372036854775807) (h6 : ∀ x ∈ t.f4, Ok96 x) : Ok96 t
def OkTs (l : List S96) : Prop := l.length ≤ 9223372036854775807 ∧ ∀ x ∈ l, Ok96 x
def OkSs (l : List ByteArray) : Prop := l.length ≤ 9223372036854775807 ∧ ∀ x ∈ l, x.size ≤ 9223372036854775807
inductive Ok93 : S93 → Prop
  | mk (t : S93) (h0 : (Lit.int .i64 t.f0).wf = true) (h1 : OkSs t.f1) (h2 : t.f2.size ≤ 9223372036854775807) (h3 : OkTs t.f3) (h4 : t.f4.f0.length ≤ 9223372036854775807) (h5 : ∀ x ∈ t.f4.f0, Ok93 x) (h6 : OkTs t.f4.f1) (h7 : t.f5.f0.length ≤ 9223372036854775807) (h8 : ∀ x ∈ t.f5.f0, Ok93 x) (h9 : OkTs t.f5.f1) : Ok93 t
def OkBs (l : List S93) : Prop := l.length ≤ 9223372036854775807 ∧ ∀ x ∈ l, Ok93 x
def OkU (p : S37) : Prop := p.f0.size ≤ 9223372036854775807 ∧ OkSs p.f1 ∧ OkBs p.f2.f0 ∧ OkTs p.f2.f1
def OkUs (l : List S37) : Prop := l.length ≤ 9223372036854775807 ∧ ∀ x ∈ l, OkU x
instance : Inhabited S96 := ⟨z96⟩
instance : Inhabited S93 := ⟨z93⟩
instance : Inhabited S37 := ⟨z37⟩
section
variable {H : Type} {enc : TypeId × Value → H} {W : World}
theorem opI (m : Nat) : OpAt enc Try.prog W m 3 (Kd.int .i64) (fun i => (Lit.int .i64 i).wf = true) := opInt Try.underlying3
theorem opS (m : Nat) : OpAt enc Try.prog W m 9 Kd.string (fun s => s.size ≤ 9223372036854775807) := opStr Try.underlying9
theorem opSs (m : Nat) : OpAt enc Try.prog W m 31 (Kd.slice 9 Kd.string) OkSs := opSlice Try.underlying31 (by kernel_rfl) (fun k _ => opS k)
theorem opIs (m : Nat) : OpAt enc Try.prog W m 76 (Kd.slice 3 (Kd.int .i64)) (fun l => l.length ≤ 9223372036854775807 ∧ ∀ x ∈ l, (Lit.int .i64 x).wf = true) := opSlice Try.underlying76 (by kernel_rfl) (fun k _ => opI k)
theorem cells96 : Try.prog.cellsOf 96 = 5 := by kernel_rfl
theorem cells93 : Try.prog.cellsOf 93 = 8 := by kernel_rfl
theorem cells1 : Try.prog.cellsOf 3 = 1 ∧ Try.prog.cellsOf 9 = 1 ∧ Try.prog.cellsOf 31 = 1 ∧ Try.prog.cellsOf 76 = 1 ∧ Try.prog.cellsOf 33 = 1 ∧ Try.prog.cellsOf 32 = 1 ∧ Try.prog.cellsOf 35 = 2 := ⟨by kernel_rfl, by kernel_rfl, by kernel_rfl, by kernel_rfl, by kernel_rfl, by kernel_rfl, by kernel_rfl⟩
theorem opT : ∀ m : Nat, OpAt enc Try.prog W m 96 (Kd.upto F96 5 [3, 96] m) Ok96 := fun m => by
  induction m using Nat.strongRecOn with
  | _ m ih =>
    refine opStruct (gs := [(0, 3), (1, 3), (2, 9), (3, 76), (4, 33)]) Try.underlying96 (by kernel_rfl) (by rw [sz96, cells96]) (fun n hn => ?_)
    subst hn
    have hk : ∀ k, k < n → OpAt enc Try.prog W k 96 (Kd.upto F96 5 [3, 96] n) Ok96 := fun k hk => opKd (ih k (by omega)) (fun y cs h => Kd.upto_K_le mono96 sz96 (Nat.le_of_lt hk) h)
    have s4 := segOne (o := 4) (opSlice Try.underlying33 (by rw [sz96, cells96]) hk) cells1.2.2.2.2.1
    have s3 := segCons (o := 3) (opIs (enc := enc) (W := W) n) cells1.2.2.2.1 s4
    have s2 := segCons (o := 2) (opS (enc := enc) (W := W) n) cells1.2.1 s3
    have s1 := segCons (o := 1) (opI (enc := enc) (W := W) n) cells1.1 s2
    have s0 := segCons (o := 0) (opI (enc := enc) (W := W) n) cells1.1 s1
    have s := segIso (f := fun x : S96 => (x.f0, x.f1, x.f2, x.f3, x.f4)) (fun p => ⟨p.1, p.2.1, p.2.2.1, p.2.2.2.1, p.2.2.2.2⟩) (fun _ => rfl) s0
    intro cs hf hl
    obtain ⟨y, h1, h2, h3, h4, h5, h6⟩ := s cs hf hl
    exact ⟨y, h1, .mk y h2 h3 h4 h5.1 h5.2 h6.1 h6.2⟩
theorem opT' (m : Nat) : OpAt enc Try.prog W m 96 k96 Ok96 := opKd (opT m) (fun _ _ h => ⟨m, h⟩)
theorem opTs (m : Nat) : OpAt enc Try.prog W m 33 (Kd.slice 96 k96) OkTs := opSlice Try.underlying33 cells96 (fun k _ => opT' k)
theorem opY {d : Kd S93} (hd : d.sz = 8) (m : Nat) (hk : ∀ k, k < m → OpAt enc Try.prog W k 93 d Ok93) : OpAt enc Try.prog W m 35 (Kd.iso (Kd.pair (Kd.slice 93 d) (Kd.slice 96 k96)) (fun x : S35p S93 => (x.f0, x.f1))) (fun y => OkBs y.f0 ∧ OkTs y.f1) := by
  refine opStruct (gs := [(0, 32), (1, 33)]) Try.underlying35 (by kernel_rfl) cells1.2.2.2.2.2.2 (fun n hn => ?_)
  have s1 := segOne (o := 1) (opTs (enc := enc) (W := W) n) cells1.2.2.2.2.1
  have s0 := segCons (o := 0) (opSlice Try.underlying32 (by rw [hd, cells93]) (fun k h => hk k (by omega))) cells1.2.2.2.2.2.1 s1
  exact segIso (f := fun x : S35p S93 => (x.f0, x.f1)) (fun p => ⟨p.1, p.2⟩) (fun _ => rfl) s0
theorem opB : ∀ m : Nat, OpAt enc Try.prog W m 93 (Kd.upto F93 8 [3, 9, 93, 96] m) Ok93 := fun m => by
  induction m using Nat.strongRecOn with
  | _ m ih =>
    refine opStruct (gs := [(0, 3), (1, 31), (2, 9), (3, 33), (4, 35), (6, 35)]) Try.underlying93 (by kernel_rfl) (by rw [sz93, cells93]) (fun n hn => ?_)
    subst hn
    have hk : ∀ k, k < n → OpAt enc Try.prog W k 93 (Kd.upto F93 8 [3, 9, 93, 96] n) Ok93 := fun k hk => opKd (ih k (by omega)) (fun y cs h => Kd.upto_K_le mono93 sz93 (Nat.le_of_lt hk) h)
    have s5 := segOne (o := 6) (opY (sz93 n) n hk) cells1.2.2.2.2.2.2
    have s4 := segCons (o := 4) (opY (sz93 n) n hk) cells1.2.2.2.2.2.2 s5
    have s3 := segCons (o := 3) (opTs (enc := enc) (W := W) n) cells1.2.2.2.2.1 s4
    have s2 := segCons (o := 2) (opS (enc := enc) (W := W) n) cells1.2.1 s3
    have s1 := segCons (o := 1) (opSs (enc := enc) (W := W) n) cells1.2.2.1 s2
    have s0 := segCons (o := 0) (opI (enc := enc) (W := W) n) cells1.1 s1
    have s := segIso (f := fun x : S93 => (x.f0, x.f1, x.f2, x.f3, x.f4, x.f5)) (fun p => ⟨p.1, p.2.1, p.2.2.1, p.2.2.2.1, p.2.2.2.2.1, p.2.2.2.2.2⟩) (fun _ => rfl) s0
    intro cs hf hl
    obtain ⟨y, h1, h2, h3, h4, h5, h6, h7⟩ := s cs hf hl
    exact ⟨y, h1, .mk y h2 h3 h4 h5 h6.1.1 h6.1.2 h6.2 h7.1.1 h7.1.2 h7.2⟩
theorem opU (m : Nat) : OpAt enc Try.prog W m 37 k37 OkU := by
  refine opStruct (gs := [(0, 9), (1, 31), (2, 35)]) Try.underlying37 (by kernel_rfl) (by kernel_rfl) (fun n hn => ?_)
  have s2 := segOne (enc := enc) (W := W) (o := 2) (opY (d := k93) rfl n (fun k _ => opKd (opB k) (fun _ _ h => ⟨k, h⟩))) cells1.2.2.2.2.2.2
  have s1 := segCons (o := 1) (opSs (enc := enc) (W := W) n) cells1.2.2.1 s2
  have s0 := segCons (o := 0) (opS (enc := enc) (W := W) n) cells1.2.1 s1
  exact segIso (f := fun x : S37 => (x.f0, x.f1, x.f2)) (fun p => ⟨p.1, p.2.1, p.2.2⟩) (fun _ => rfl) s0
theorem argU {A : Option Addr} {n c : Nat} {d : DataW H} {ps : List MemPlace} (h : DataW.Trod enc Try.prog W 0 (fun _ => true) true 22 (.slice A n c) d ps) : ∃ l : List S37, n = l.length ∧ Kd.C k37 W A l.length l ∧ l.length ≤ c ∧ OkUs l := by
  obtain ⟨m, hm⟩ := h
  obtain ⟨l, ⟨A', c', e, hl, hC⟩, hB⟩ := opSlice (ok := OkU) (d := k37) Try.underlying22 (by kernel_rfl) (fun k _ => opU (enc := enc) (W := W) k) _ _ hm
  have e' : Value.slice A n c = .slice A' l.length c' := List.singleton_inj.1 e
  injection e' with e1 e2 e3
  subst e1 e2 e3
  exact ⟨l, rfl, hC, hl, hB⟩
end
end Go.Proofs.Ytdgpegkgelciaaa.OpenU
end
