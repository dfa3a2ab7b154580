-- Ythfflieeifakdaa's texts for the statement FnValSame, one behind the other (merge.py).
import Derived.Test.YthfflieeifakdaaQFnValSame0
import Derived.Test.YthfflieeifakdaaQFnValSame1
section
namespace Go.Proofs.Ythfflieeifakdaa.PA
open Go.RowKit Go.Proofs.YthfflieeifakdaaW.PrintWords Go.Proofs.YthfflieeifakdaaW.PrintLast Go.Proofs.YthfflieeifakdaaW.PrintMore
attribute [local go_sem] max2_int min2_int max_two min_two max_three min_three max_four min_four
set_option linter.unusedVariables false
set_option linter.unusedSimpArgs false
mutual
def spec_l1Of.j0 : Nat → Int → Bool → Int → List (S25) → Option ((List (S50)) × Bool)
 | 0, _, _, _, _ => none
 | k + 1, x1, x24, x234000, x234001 => if x24 = true then (some (([] : List (S50)), false)) else (spec_l1Of.l0 k x1 0 x234000 x234001 ([] : List (S50)))
def spec_l1Of.l0 : Nat → Int → Int → Int → List (S25) → List (S50) → Option ((List (S50)) × Bool)
 | 0, _, _, _, _, _ => none
 | k + 1, x1, x7, x234000, x234001, x236000 => if x7 < (x234001.length : Int) then (if 0 ≤ x7 then ((spec_l1Of.f k ((rd_T25 x234001 x7).f0) ((rd_T25 x234001 x7).f1) (wrap64 (x1 - 1))).bind fun bt237 => (if bt237.2 = true then (if x236000.length < 5864062014805 then (spec_l1Of.l0 k x1 (wrap64 (x7 + 1)) x234000 x234001 (x236000 ++ [(⟨bt237.1⟩ : S50)])) else (none)) else (some (x236000, false)))) else (none)) else (some (x236000, true))
def spec_l1Of.f : Nat → Int → List (S25) → Int → Option ((List (S50)) × Bool)
 | 0, _, _, _ => none
 | k + 1, a0_0, l0_1, a1 => if a1 < 1 then (spec_l1Of.j0 k a1 true a0_0 l0_1) else (if (l0_1.length : Int) = 0 then (spec_l1Of.j0 k a1 false a0_0 l0_1) else (spec_l1Of.j0 k a1 ((l0_1.length : Int) != 2) a0_0 l0_1))
end
theorem spec_l1Of.mono_l : ∀ k, (∀ y0 y1 y2, LeO (spec_l1Of.f k y0 y1 y2) (spec_l1Of.f (k + 1) y0 y1 y2)) ∧ (∀ y0 y1 y2 y3, LeO (spec_l1Of.j0 k y0 y1 y2 y3) (spec_l1Of.j0 (k + 1) y0 y1 y2 y3)) ∧ (∀ y0 y1 y2 y3 y4, LeO (spec_l1Of.l0 k y0 y1 y2 y3 y4) (spec_l1Of.l0 (k + 1) y0 y1 y2 y3 y4))
 | 0 => ⟨fun _ _ _ r h => by simp [spec_l1Of.f] at h, fun _ _ _ _ r h => by simp [spec_l1Of.j0] at h, fun _ _ _ _ _ r h => by simp [spec_l1Of.l0] at h⟩
 | k + 1 => by
  obtain ⟨ih0, ih1, ih2⟩ := spec_l1Of.mono_l k
  refine ⟨?_, ?_, ?_⟩
  ·intro y0 y1 y2
   unfold spec_l1Of.f
   repeat' first
   | (with_reducible exact ih0 _ _ _)
   | (with_reducible exact ih1 _ _ _ _)
   | (with_reducible exact ih2 _ _ _ _ _)
   | (with_reducible exact LeO.refl _)
   | (with_reducible exact LeO.none _)
   | (with_reducible refine LeO.ite ?_ ?_)
   | (with_reducible refine LeO.bind ?_ (fun _ => ?_))
   | exact ih0 _ _ _
   | exact ih1 _ _ _ _
   | exact ih2 _ _ _ _ _
   | exact LeO.none _
   | refine LeO.ite ?_ ?_
   | refine LeO.bind ?_ (fun _ => ?_)
  ·intro y0 y1 y2 y3
   unfold spec_l1Of.j0
   repeat' first
   | (with_reducible exact ih0 _ _ _)
   | (with_reducible exact ih1 _ _ _ _)
   | (with_reducible exact ih2 _ _ _ _ _)
   | (with_reducible exact LeO.refl _)
   | (with_reducible exact LeO.none _)
   | (with_reducible refine LeO.ite ?_ ?_)
   | (with_reducible refine LeO.bind ?_ (fun _ => ?_))
   | exact ih0 _ _ _
   | exact ih1 _ _ _ _
   | exact ih2 _ _ _ _ _
   | exact LeO.none _
   | refine LeO.ite ?_ ?_
   | refine LeO.bind ?_ (fun _ => ?_)
  ·intro y0 y1 y2 y3 y4
   unfold spec_l1Of.l0
   repeat' first
   | (with_reducible exact ih0 _ _ _)
   | (with_reducible exact ih1 _ _ _ _)
   | (with_reducible exact ih2 _ _ _ _ _)
   | (with_reducible exact LeO.refl _)
   | (with_reducible exact LeO.none _)
   | (with_reducible refine LeO.ite ?_ ?_)
   | (with_reducible refine LeO.bind ?_ (fun _ => ?_))
   | exact ih0 _ _ _
   | exact ih1 _ _ _ _
   | exact ih2 _ _ _ _ _
   | exact LeO.none _
   | refine LeO.ite ?_ ?_
   | refine LeO.bind ?_ (fun _ => ?_)
theorem spec_l1Of.mono : ∀ a0 a1 a2 k, LeO (spec_l1Of.f k a0 a1 a2) (spec_l1Of.f (k + 1) a0 a1 a2) := by
 intro a0 a1 a2 k
 obtain ⟨ih0, ih1, ih2⟩ := spec_l1Of.mono_l k
 exact ih0 a0 a1 a2
set_option maxHeartbeats 8000000 in
set_option maxRecDepth 100000 in
theorem spec_l1Of.calls (k : Nat) : ∀ (a0_0 : Int) (A0_1 : Option Addr) (c0_1 : Nat) (l0_1 : List (S25)) (a1 : Int) (r1 : List (S50)) (r2 : Bool) (w : World) (hr0_1 : Kd.C k25 w A0_1 l0_1.length l0_1) (hc0_1 : l0_1.length ≤ c0_1) (h : spec_l1Of.f k a0_0 l0_1 a1 = some (r1, r2)),
  Calls Try.prog 49 #[.agg #[.int .i64 a0_0, .slice A0_1 l0_1.length c0_1], .int .i64 a1] w fun e w' => ∃ v0_ : Value, e = .returned (.tuple #[.agg #[v0_], .bool r2]) ∧ Kd.R k50 50 w' w.heap.size (fun _ => True) v0_ r1 ∧ Below w.heap.size w w' := by
 induction k using Nat.strongRecOn with
 | _ k ih =>
 intro a0_0 A0_1 c0_1 l0_1 a1 r1 r2 w hr0_1 hc0_1 h
 cases k with
 | zero => exact absurd h (by simp [spec_l1Of.f])
 | succ k =>
 simp only [spec_l1Of.f] at h
 have hu25 := Try.underlying25
 have hu50 := Try.underlying50
 have HR0_1 := Aside0.mk hr0_1
 have HC0_1 := Aside0.mk hc0_1
 clear hr0_1 hc0_1
 have HB := Aside0.mk (Below.refl w.heap.size w)
 have H : (if a1 < 1 then (spec_l1Of.j0 k a1 true a0_0 l0_1) else (if (l0_1.length : Int) = 0 then (spec_l1Of.j0 k a1 false a0_0 l0_1) else (spec_l1Of.j0 k a1 ((l0_1.length : Int) != 2) a0_0 l0_1))) = some (r1, r2) := h
 clear h
 have HC3 := Aside0.mk H
 clear H
 go_enter Try.func49, Try.ntmps49
 go_upto_region 2 with (first | ((with_reducible refine gate_dst (N := 2) rfl ?_); (try (refine gate_guard (by rfl) ?_; dsimp only)); refine zbx 2 #[.int .i64 a0_0, .slice A0_1 l0_1.length c0_1] 25 ?_; intro gb233 hg w4 hbox hb; have BK233 := Aside0.mk hbox; have GW233 := Aside0.mk ((y9 hg HB.out : w.heap.size ≤ gb233)); have GE233 := Aside0.mk ((y9 hg HB.out : w.heap.size ≤ gb233)); replace HB := Aside0.mk (below_step (y5 HB.out) hb); clear hb hbox hg) | ((with_reducible refine gate_dst (N := 4) rfl ?_); (try (refine gate_guard (by rfl) ?_; dsimp only)); refine zbx 4 #[.slice none 0 0] 50 ?_; intro gb234 hg w5 hbox hb; have BK234 := Aside0.mk hbox; have GW234 := Aside0.mk ((y11 hg HB.out GE233.out : w.heap.size ≤ gb234)); have GE234 := Aside0.mk ((y11 hg HB.out GE233.out : w.heap.size ≤ gb234)); replace HB := Aside0.mk (below_step (y6 HB.out GE233.out) hb); have NB233_234 := zltn hg BK233; have NB234_233 := zgtn hg BK233; replace BK233 := zbb BK233 hb; clear hb hbox hg) | ((with_reducible refine gate_dst (N := 6) rfl ?_); (try (refine gate_guard (by rfl) ?_; dsimp only)); refine zbx 6 #[.slice none 0 0] 50 ?_; intro gb235 hg w6 hbox hb; have BK235 := Aside0.mk hbox; have GW235 := Aside0.mk ((y16 hg HB.out GE233.out GE234.out : w.heap.size ≤ gb235)); have GE235 := Aside0.mk ((y16 hg HB.out GE233.out GE234.out : w.heap.size ≤ gb235)); replace HB := Aside0.mk (below_step (y2 HB.out GE233.out GE234.out) hb); have NB233_235 := zltn hg BK233; have NB235_233 := zgtn hg BK233; replace BK233 := zbb BK233 hb; have NB234_235 := zltn hg BK234; have NB235_234 := zgtn hg BK234; replace BK234 := zbb BK234 hb; clear hb hbox hg; have hnb7 := NB235_233.out; have hnc7 := NB233_235.out; have hnb8 := NB235_234.out; have hnc8 := NB234_235.out; have hcz9_0 := zh BK235; have hfz9_0 := zfr BK235 0))
 (try simp only [Act.put, List.setIfInBounds_toArray, List.set_cons_zero, List.set_cons_succ])
 go_cut [24] (fun v24 wc => ∃ (kq : Nat) (x24_2 : Bool), v24 = .bool x24_2 ∧ Aside0 (spec_l1Of.j0 kq a1 x24_2 a0_0 l0_1 = some (r1, r2)) ∧ Aside0 (kq ≤ k) ∧ Aside0 (wc.heap[gb233]? = some (.cells #[.int .i64 a0_0, (.slice A0_1 l0_1.length c0_1)] 25 (0, 0))) ∧ Aside0 (wc.heap[gb234]? = some (.cells #[(.slice none 0 0)] 50 (0, 0))) ∧ Aside0 (wc.heap[gb235]? = some (.cells #[(.slice none 0 0)] 50 (0, 0))) ∧ Aside0 (Below w.heap.size w wc))
 case first =>
  have H := HC3.out
  clear HC3
  by_cases c10 : a1 < 1
  ·rw [if_pos c10] at H
   have c10b0 : decide (a1 < 1) = true := decide_eq_true c10
   clear c10
   (first | rw [c10b0] | (simp only [i64_w, i32_w]; rw [c10b0]) | skip)
   have H' := Aside0.mk H
   clear H
   go_wp2
   go_meet
   case rel => exact ⟨_, (true), y34, H', ⟨y46⟩, ⟨(y13 NB233_235.out BK233.out)⟩, ⟨(y13 NB234_235.out BK234.out)⟩, ⟨(by (with_reducible repeat (first | refine blk_drewN ?_ _ | refine blk_drew ?_ | refine blk_alloc ?_ _)); refine blk_put (cs := #[.slice none 0 0]) ?_ 0 _ rfl; (with_reducible repeat (first | refine blk_drewN ?_ _ | refine blk_drew ?_ | refine blk_alloc ?_ _)); exact BK235.out)⟩, ⟨(y4 HB.out GE233.out GE234.out GE235.out)⟩⟩
  ·rw [if_neg c10] at H
   have c10b0 : decide (a1 < 1) = false := decide_eq_false c10
   clear c10
   (first | rw [c10b0] | (simp only [i64_w, i32_w]; rw [c10b0]) | skip)
   by_cases c11 : (l0_1.length : Int) = 0
   ·rw [if_pos c11] at H
    have c11b0 : ((l0_1.length : Int) == 0) = true := beq_iff_eq.mpr c11
    have c11b1 : ((l0_1.length : Int) != 0) = false := bne_eq_false_iff_eq.mpr c11
    clear c11
    have H' := Aside0.mk H
    clear H
    have hnb12 := NB233_234.out
    have hnc12 := NB234_233.out
    have hnb13 := NB233_235.out
    have hnc13 := NB235_233.out
    have hcz14_0 := zh BK233
    have hcz14_1 := zh1 BK233
    have hfz14_0 := zfr BK233 0
    have hfz14_1 := zfr BK233 1
    go_wp2
    go_meet
    case rel => exact ⟨_, (false), y34, H', ⟨y46⟩, ⟨(y13 NB233_235.out BK233.out)⟩, ⟨(y13 NB234_235.out BK234.out)⟩, ⟨(by (with_reducible repeat (first | refine blk_drewN ?_ _ | refine blk_drew ?_ | refine blk_alloc ?_ _)); refine blk_put (cs := #[.slice none 0 0]) ?_ 0 _ rfl; (with_reducible repeat (first | refine blk_drewN ?_ _ | refine blk_drew ?_ | refine blk_alloc ?_ _)); exact BK235.out)⟩, ⟨(y4 HB.out GE233.out GE234.out GE235.out)⟩⟩
   ·rw [if_neg c11] at H
    have c11b0 : ((l0_1.length : Int) == 0) = false := beq_eq_false_iff_ne.mpr c11
    have c11b1 : ((l0_1.length : Int) != 0) = true := bne_iff_ne.mpr c11
    have c11b2 : ¬ (l0_1 = []) := fun h_ => c11 (by rw [h_]; rfl)
    have H' := Aside0.mk H
    clear H
    have hnb15 := NB233_234.out
    have hnc15 := NB234_233.out
    have hnb16 := NB233_235.out
    have hnc16 := NB235_233.out
    have hcz17_0 := zh BK233
    have hcz17_1 := zh1 BK233
    have hfz17_0 := zfr BK233 0
    have hfz17_1 := zfr BK233 1
    go_wp2
    go_meet
    case rel => exact ⟨_, (((l0_1.length : Int) != 2)), y34, H', ⟨y46⟩, ⟨(y13 NB233_235.out BK233.out)⟩, ⟨(y13 NB234_235.out BK234.out)⟩, ⟨(by (with_reducible repeat (first | refine blk_drewN ?_ _ | refine blk_drew ?_ | refine blk_alloc ?_ _)); refine blk_put (cs := #[.slice none 0 0]) ?_ 0 _ rfl; (with_reducible repeat (first | refine blk_drewN ?_ _ | refine blk_drew ?_ | refine blk_alloc ?_ _)); exact BK235.out)⟩, ⟨(y4 HB.out GE233.out GE234.out GE235.out)⟩⟩
 case rest =>
  clear HC3
  try clear c1
  try clear p2
  try clear c4
  try clear c7
  try clear c8
  try clear c10
  try clear c10b0
  try clear c11
  try clear c11b0
  try clear c11b1
  try clear c11b2
  try clear c12
  try clear c13
  try clear c15
  try clear c16
  try clear hcz14_0
  try clear hcz14_1
  try clear hcz17_0
  try clear hcz17_1
  try clear hcz9_0
  try clear hfz14_0
  try clear hfz14_1
  try clear hfz17_0
  try clear hfz17_1
  try clear hfz9_0
  obtain ⟨kq, x24_2, rfl, HA, HJ2, BK233, BK234, BK235, HB⟩ := hcut
  cases kq with
  | zero => exact absurd HA.out (by simp [spec_l1Of.j0])
  | succ kj2 =>
   have H := HA.out
   clear HA
   simp only [spec_l1Of.j0] at H
   by_cases c18 : x24_2 = true
   ·subst c18
    rw [if_pos rfl] at H
    simp only [Option.some.injEq, Prod.mk.injEq] at H
    obtain ⟨rfl, rfl⟩ := H
    have hnb19 := NB235_233.out
    have hnc19 := NB233_235.out
    have hnb20 := NB235_234.out
    have hnc20 := NB234_235.out
    have hcz21_0 := zh BK235
    have hfz21_0 := zfr BK235 0
    have hnb22 := NB234_233.out
    have hnc22 := NB233_234.out
    have hcz23_0 := zh BK234
    have hfz23_0 := zfr BK234 0
    go_wp2
    refine bodyPost_ret (results_ct rfl _ _ gb234 50 #[.slice none 0 0] (0, 0) _ rfl (by (with_reducible repeat (first | refine blk_drewN ?_ _ | refine blk_drew ?_ | refine blk_alloc ?_ _)); apply blk_put (i := 0); (case h => exact y0 BK234.out); (case e => rfl)) Try.underlying50 rfl (by kernel_rfl)) rfl ?_
    exact ⟨_, y19, y37, (y4 HB.out GE233.out GE234.out GE235.out)⟩
   ·replace c18 := Bool.eq_false_iff.mpr c18
    subst c18
    rw [if_neg (show ¬ (false = true) by decide)] at H
    have H' := Aside0.mk H
    clear H
    go_wp2
    go_loopg [7] kj2 (fun kq v7 w' => ∃ (x7_2 : Int) (x236000_2 : List (S50)) (u236000 : Value), v7 = .int .i64 x7_2 ∧ Aside0 (spec_l1Of.l0 kq a1 x7_2 a0_0 l0_1 x236000_2 = some (r1, r2)) ∧ Aside0 (kq ≤ kj2) ∧ Aside0 (Kd.R k50 50 w' w.heap.size (fun k_ => k_ ≠ gb234 ∧ k_ ≠ gb235) u236000 x236000_2) ∧ Aside0 (w'.heap[gb233]? = some (.cells #[.int .i64 a0_0, (.slice A0_1 l0_1.length c0_1)] 25 (0, 0))) ∧ Aside0 (w'.heap[gb234]? = some (.cells #[(.slice none 0 0)] 50 (0, 0))) ∧ Aside0 (w'.heap[gb235]? = some (.cells #[u236000] 50 (0, 0))) ∧ Aside0 (Below w.heap.size w w'))
    case atStart => exact ⟨(0), (([] : List (S50))), (.slice none 0 0), y34, H', ⟨Nat.le_refl _⟩, ⟨y37⟩, ⟨(y0 BK233.out)⟩, ⟨(y0 BK234.out)⟩, ⟨(y0 BK235.out)⟩, ⟨(y4 HB.out GE233.out GE234.out GE235.out)⟩⟩
    case round =>
     clear H'
     try clear c1
     try clear c2
     try clear p2
     try clear c4
     try clear c7
     try clear c8
     try clear c10
     try clear c10b0
     try clear c11
     try clear c11b0
     try clear c11b1
     try clear c11b2
     try clear c12
     try clear c13
     try clear c15
     try clear c16
     try clear c18
     try clear c19
     try clear c20
     try clear c22
     try clear hcz14_0
     try clear hcz14_1
     try clear hcz17_0
     try clear hcz17_1
     try clear hcz21_0
     try clear hcz23_0
     try clear hcz9_0
     try clear hfz14_0
     try clear hfz14_1
     try clear hfz17_0
     try clear hfz17_1
     try clear hfz21_0
     try clear hfz23_0
     try clear hfz9_0
     try clear p2
     (try clear BK233); (try clear BK234); (try clear BK235)
     obtain ⟨x7_2, x236000_2, u236000, rfl, HA, HK2, HO_236000, BK233, BK234, BK235, HB⟩ := hrel
     cases gk with
     | zero => exact absurd HA.out (by simp [spec_l1Of.l0])
     | succ k2 =>
      have H := HA.out
      clear HA
      simp only [spec_l1Of.l0] at H
      by_cases c24 : x7_2 < (l0_1.length : Int)
      ·rw [if_pos c24] at H
       have c24b0 : decide (x7_2 < (l0_1.length : Int)) = true := decide_eq_true c24
       clear c24
       by_cases c25 : 0 ≤ x7_2
       ·rw [if_pos c25] at H
        have c25b0 : decide (0 ≤ x7_2) = true := decide_eq_true c25
        clear c25
        obtain ⟨⟨t237, t240⟩, A260, H⟩ := ob H
        have A26 := Aside0.mk A260
        clear A260
        by_cases c27 : t240 = true
        ·subst c27
         rw [if_pos rfl] at H
         by_cases c28 : x236000_2.length < 5864062014805
         ·rw [if_pos c28] at H
          have LMc28 := Aside0.mk c28
          clear c28
          obtain ⟨y242, hy242⟩ : ∃ y_ : List (S50), y_ = (x236000_2 ++ [(⟨t237⟩ : S50)]) := ⟨_, rfl⟩
          replace H : (spec_l1Of.l0 k2 a1 (wrap64 (x7_2 + 1)) a0_0 l0_1 y242) = some (r1, r2) := by first | (rw [hy242]; with_reducible exact H) | (have H2_ := (Option.bind_some _ _).symm.trans H; rw [hy242]; with_reducible exact H2_) | (have H2_ := (Option.bind_some _ _).symm.trans H; with_reducible exact H2_) | with_reducible exact H | (rw [hy242]; exact H) | exact H
          have Ny242 := Aside0.mk hy242
          clear hy242
          have H' := Aside0.mk H
          clear H
          have hnb29 := NB233_234.out
          have hnc29 := NB234_233.out
          have hnb30 := NB233_235.out
          have hnc30 := NB235_233.out
          have hcz31_0 := zh BK233
          have hcz31_1 := zh1 BK233
          have hfz31_0 := zfr BK233 0
          have hfz31_1 := zfr BK233 1
          have p236 : 0 ≤ (x7_2 : Int) := of_decide_eq_true y23
          have q236 : x7_2 < (l0_1.length : Int) := of_decide_eq_true y23
          obtain ⟨ad236, A236_1, c236_1, e236, hx236_0, hx236_1, hl236_1, hi236_1⟩ := at_T25 HR0_1.out x7_2 p236 q236
          cases e236
          replace hx236_0 := (HB.out.cell (World.block_lt_of_cell? w _ hx236_0)).trans hx236_0
          replace hx236_1 := (HB.out.cell (World.block_lt_of_cell? w _ hx236_1)).trans hx236_1
          have HR236_1 := Aside0.mk hi236_1
          have HC236_1 := Aside0.mk hl236_1
          clear hi236_1 hl236_1
          replace p236 := eq_true p236
          replace q236 := eq_true q236
          go_wp2_with (first | ((with_reducible refine gate_callee (f := 49) rfl ?_); refine goesL_ (some 41) rfl rfl Try.func49 (by kernel_rfl) rfl #[.agg #[.int .i64 ((rd_T25 l0_1 x7_2).f0), .slice A236_1 ((rd_T25 l0_1 x7_2).f1).length c236_1], .int .i64 (wrap64 (a1 - 1))] rfl y8 ?_; (with_reducible refine (ih k2 (y87 HJ2.out HK2.out) ((rd_T25 l0_1 x7_2).f0) _ _ ((rd_T25 l0_1 x7_2).f1) (wrap64 (a1 - 1)) t237 true _ ?side1 ?side2 A26.out).mono ?_); (case side1 => exact y15 HR236_1.out HB.out); (case side2 => exact HC236_1.out); rintro e w32 ⟨v238, rfl, ho0, hb⟩; refine ⟨_, rfl, ?_⟩; have HO239 := Aside0.mk (Kd.R_lower (Kd.R_newB (Kd.R_newB (Kd.R_new' ho0 (Kd.R_lt (y12 HO_236000.out))) (g := gb234) (o := .cells #[.slice none 0 0] 50 (0, 0)) (y0 BK234.out)) (g := gb235) (o := .cells #[u236000] 50 (0, 0)) (y0 BK235.out)) (below_size (y4 HB.out GE233.out GE234.out GE235.out))); replace HO_236000 := Aside0.mk (Kd.R_elder' (y12 HO_236000.out) (Kd.R_base ho0) hb); replace BK233 := zbb BK233 hb; replace BK234 := zbb BK234 hb; replace BK235 := zbb BK235 hb; replace HB := Aside0.mk (below_step (y4 HB.out GE233.out GE234.out GE235.out) hb); (try clear hb); (try clear hb2); (try clear hk); (try clear hi); (try clear ho0)) | ((with_reducible refine gate_dst (N := 8) rfl ?_); (try (refine gate_guard (by rfl) ?_; dsimp only)); refine zbx 8 #[.slice none 0 0] 50 ?_; intro gb241 hg w33 hbox hb; replace HO_236000 := Aside0.mk (Kd.R_below (Kd.R_elderB (y12 HO_236000.out) gb241 (Nat.le_of_eq hg.symm)) hb); replace HO239 := Aside0.mk (Kd.R_below (Kd.R_elderB (y12 HO239.out) gb241 (Nat.le_of_eq hg.symm)) hb); have BK241 := Aside0.mk hbox; have GW241 := Aside0.mk ((y22 hg HB.out GE233.out GE234.out GE235.out : w.heap.size ≤ gb241)); have GE241 := Aside0.mk ((y22 hg HB.out GE233.out GE234.out GE235.out : w.heap.size ≤ gb241)); replace HB := Aside0.mk (below_step (y4 HB.out GE233.out GE234.out GE235.out) hb); have NB233_241 := zltn hg BK233; have NB241_233 := zgtn hg BK233; replace BK233 := zbb BK233 hb; have NB234_241 := zltn hg BK234; have NB241_234 := zgtn hg BK234; replace BK234 := zbb BK234 hb; have NB235_241 := zltn hg BK235; have NB241_235 := zgtn hg BK235; replace BK235 := zbb BK235 hb; clear hb hbox hg; obtain ⟨Ao34, co34, eo34⟩ := Kd.R_slice HO239.out; subst eo34; have hnb35 := NB241_233.out; have hnc35 := NB233_241.out; have hnb36 := NB241_234.out; have hnc36 := NB234_241.out; have hnb37 := NB241_235.out; have hnc37 := NB235_241.out; have hcz38_0 := zh BK241; have hfz38_0 := zfr BK241 0) | ((with_reducible refine gate_store (t := 50) (p := 8) rfl ?_); refine store_event (t := 50) (p := 8) (v := ?vo_w39) (w1 := (w33.setCell ⟨gb241, 0, none⟩ (.slice Ao34 t237.length co34))) ?hg ?ho ?hn ?hr ?_; (case ho => rfl); (case hg => rfl); (case hn => rfl); (case hr => first | (go_simp; done) | (go_simp; rfl)); intro w39 hw; have n0_ : Aside0 (Kd.R k50 50 w39 w.heap.size (fun k_ => some k_ ≠ (.slice Ao34 t237.length co34 : Value).ownBlock ∧ k_ ≠ gb234 ∧ k_ ≠ gb235 ∧ k_ ≠ gb241) u236000 x236000_2) := ⟨(by rw [hw]; exact (by (with_reducible repeat (first | apply Kd.R_alloc | apply Kd.R_drewN | apply Kd.R_drew)); exact Kd.R_mono (Kd.R_far (p := ⟨gb241, 0, none⟩) (Kd.R_mono HO_236000.out (fun k_ hk => (⟨hk, hk.2⟩ : _ ∧ k_ ≠ gb241))) (fun _ hk => hk.2) (.slice Ao34 t237.length co34)) (fun _ hk => ⟨hk.1.1.2, ⟨hk.1.1.1.1, ⟨hk.1.1.1.2, hk.1.2⟩⟩⟩)))⟩; have n1_ : Aside0 (Kd.R k50 50 w39 w.heap.size (fun k_ => some k_ ≠ (u236000 : Value).ownBlock ∧ k_ ≠ gb234 ∧ k_ ≠ gb235 ∧ k_ ≠ gb241) (.slice Ao34 t237.length co34) t237) := ⟨(by rw [hw]; exact (by (with_reducible repeat (first | apply Kd.R_alloc | apply Kd.R_drewN | apply Kd.R_drew)); exact Kd.R_mono (Kd.R_far (p := ⟨gb241, 0, none⟩) (Kd.R_mono HO239.out (fun k_ hk => (⟨hk, hk.2⟩ : _ ∧ k_ ≠ gb241))) (fun _ hk => hk.2) (.slice Ao34 t237.length co34)) (fun _ hk => ⟨hk.1.1.1.1.2, ⟨hk.1.1.1.2, ⟨hk.1.1.2, hk.1.2⟩⟩⟩)))⟩; have n2_ : Aside0 (w39.heap[gb233]? = some (.cells #[.int .i64 a0_0, .slice (some ad236) l0_1.length c0_1] 25 (0, 0))) := ⟨(by rw [hw]; exact (y13 NB233_241.out BK233.out))⟩; have n3_ : Aside0 (w39.heap[gb234]? = some (.cells #[.slice none 0 0] 50 (0, 0))) := ⟨(by rw [hw]; exact (y13 NB234_241.out BK234.out))⟩; have n4_ : Aside0 (w39.heap[gb235]? = some (.cells #[u236000] 50 (0, 0))) := ⟨(by rw [hw]; exact (y13 NB235_241.out BK235.out))⟩; have n5_ : Aside0 (w39.heap[gb241]? = some (.cells #[.slice Ao34 t237.length co34] 50 (0, 0))) := ⟨(by rw [hw]; exact (by (with_reducible repeat (first | refine blk_drewN ?_ _ | refine blk_drew ?_ | refine blk_alloc ?_ _)); apply blk_put (i := 0); (case h => exact y0 BK241.out); (case e => rfl)))⟩; have n6_ : Aside0 (Below w.heap.size w w39) := ⟨(by rw [hw]; exact (y7 HB.out GE233.out GE234.out GE235.out GE241.out))⟩; clear hw; clear HO_236000; clear HO239; clear BK233; clear BK234; clear BK235; clear BK241; clear HB; have HO_236000 := n0_; have HO239 := n1_; have BK233 := n2_; have BK234 := n3_; have BK235 := n4_; have BK241 := n5_; have HB := n6_; clear n0_ n1_ n2_ n3_ n4_ n5_ n6_; have hnb40 := NB235_234.out; have hnc40 := NB234_235.out; have hcz41_0 := zh BK235; have hfz41_0 := zfr BK235 0; have hcz42_0 := zh BK241; have hfz42_0 := zfr BK241 0) | ((with_reducible refine gate_builtin (b := .append) (xs := #[.tmp 48, .tmp 50]) rfl ?_); (try (refine gate_guard (by rfl) ?_; dsimp only)); at_builtin; refine Kd.R_append k50 (w0 := w) w.heap.size rfl (.tmp 48) (.tmp 50) 48 50 (.agg #[(.slice none 0 0)]) 24 rfl Try.underlying48 info50 rfl (by decide) (by omega) u236000 x236000_2 (⟨t237⟩ : S50) [.slice Ao34 t237.length co34] (fun k_ => k_ ≠ gb234 ∧ k_ ≠ gb235 ∧ k_ ≠ gb241) (fun k_ => ((fun k_ => k_ ≠ gb234 ∧ k_ ≠ gb235 ∧ k_ ≠ gb241)) k_ ∧ some k_ ≠ (u236000 : Value).ownBlock) rfl rfl ?aP (fun _ hk => hk) ?aF ?aO ?aB ?aS ?aL ?_; (case aP => exact k50_mkM _ _ _ (⟨t237⟩ : S50) (Kd.R_mono (HO239.out) (fun k_ hk => ⟨⟨hk.2.1, ⟨hk.2.2.1, hk.2.2.2⟩⟩, hk.1⟩))); (case aB => exact (y7 HB.out GE233.out GE234.out GE235.out GE241.out)); (case aF => exact (fun k_ hk => ⟨Kd.freshB (g := gb234) (o := .cells #[.slice none 0 0] 50 (0, 0)) (y0 BK234.out) k_ hk, Kd.freshB (g := gb235) (o := .cells #[u236000] 50 (0, 0)) (y0 BK235.out) k_ hk, Kd.freshB (g := gb241) (o := .cells #[.slice Ao34 t237.length co34] 50 (0, 0)) (y0 BK241.out) k_ hk⟩)); (case aO => exact (by (with_reducible repeat (first | apply Kd.R_alloc | apply Kd.R_drewN | apply Kd.R_drew)); exact Kd.R_mono HO_236000.out (fun _ hk => ⟨hk.2.1, ⟨hk.2.2.1, hk.2.2.2⟩⟩))); (case aS => exact (below_size (y7 HB.out GE233.out GE234.out GE235.out GE241.out))); (case aL => exact y57 LMc28.out); intro v243 w43 ho hb hg hat; rw [← Ny242.out] at ho; replace BK233 := Aside0.mk (blk_grown (g := gb233) (o := .cells #[.int .i64 a0_0, .slice (some ad236) l0_1.length c0_1] 25 (0, 0)) (y0 BK233.out) hg (Kd.R_ne HO_236000.out BK233.out (by decide))); replace BK234 := Aside0.mk (blk_grown (g := gb234) (o := .cells #[.slice none 0 0] 50 (0, 0)) (y0 BK234.out) hg (Kd.R_away HO_236000.out (fun _ hk => hk.2.1))); replace BK235 := Aside0.mk (blk_grown (g := gb235) (o := .cells #[u236000] 50 (0, 0)) (y0 BK235.out) hg (Kd.R_away HO_236000.out (fun _ hk => hk.2.2.1))); replace BK241 := Aside0.mk (blk_grown (g := gb241) (o := .cells #[.slice Ao34 t237.length co34] 50 (0, 0)) (y0 BK241.out) hg (Kd.R_away HO_236000.out (fun _ hk => hk.2.2.2))); replace HB := Aside0.mk (hb); have HO244 := Aside0.mk (ho); clear HO239 HO_236000; clear ho hb hg hat; obtain ⟨Ao44, co44, eo44⟩ := Kd.R_slice HO244.out; subst eo44; have hcz45_0 := zh BK235; have hfz45_0 := zfr BK235 0))
          go_roundg k2
          case measure => have := HJ2.out; have := HK2.out; omega
          case rel => exact ⟨(wrap64 (x7_2 + 1)), (y242), (.slice Ao44 y242.length co44), y34, H', ⟨(y87 HJ2.out HK2.out)⟩, ⟨(by (with_reducible repeat (first | apply Kd.R_alloc | apply Kd.R_drewN | apply Kd.R_drew)); exact Kd.R_mono (Kd.R_far (p := ⟨gb235, 0, none⟩) (Kd.R_mono HO244.out (fun k_ hk => (⟨hk, hk.2.1⟩ : _ ∧ k_ ≠ gb235))) (fun _ hk => hk.2) (.slice Ao44 y242.length co44)) (fun _ hk => ⟨hk.1.1, hk.1.2.1⟩))⟩, ⟨(y13 NB233_235.out BK233.out)⟩, ⟨(y13 NB234_235.out BK234.out)⟩, ⟨(by (with_reducible repeat (first | refine blk_drewN ?_ _ | refine blk_drew ?_ | refine blk_alloc ?_ _)); refine blk_put (cs := #[u236000]) ?_ 0 _ rfl; (with_reducible repeat (first | refine blk_drewN ?_ _ | refine blk_drew ?_ | refine blk_alloc ?_ _)); exact BK235.out)⟩, ⟨(y7 HB.out GE233.out GE234.out GE235.out GE241.out)⟩⟩
         ·rw [if_neg c28] at H
          exact absurd H (by simp)
        ·replace c27 := Bool.eq_false_iff.mpr c27
         subst c27
         rw [if_neg (show ¬ (false = true) by decide)] at H
         simp only [Option.some.injEq, Prod.mk.injEq] at H
         obtain ⟨rfl, rfl⟩ := H
         have hnb46 := NB233_234.out
         have hnc46 := NB234_233.out
         have hnb47 := NB233_235.out
         have hnc47 := NB235_233.out
         have hcz48_0 := zh BK233
         have hcz48_1 := zh1 BK233
         have hfz48_0 := zfr BK233 0
         have hfz48_1 := zfr BK233 1
         have p236 : 0 ≤ (x7_2 : Int) := of_decide_eq_true y23
         have q236 : x7_2 < (l0_1.length : Int) := of_decide_eq_true y23
         obtain ⟨ad236, A236_1, c236_1, e236, hx236_0, hx236_1, hl236_1, hi236_1⟩ := at_T25 HR0_1.out x7_2 p236 q236
         cases e236
         replace hx236_0 := (HB.out.cell (World.block_lt_of_cell? w _ hx236_0)).trans hx236_0
         replace hx236_1 := (HB.out.cell (World.block_lt_of_cell? w _ hx236_1)).trans hx236_1
         have HR236_1 := Aside0.mk hi236_1
         have HC236_1 := Aside0.mk hl236_1
         clear hi236_1 hl236_1
         replace p236 := eq_true p236
         replace q236 := eq_true q236
         go_wp2_with (first | ((with_reducible refine gate_callee (f := 49) rfl ?_); refine goesL_ (some 41) rfl rfl Try.func49 (by kernel_rfl) rfl #[.agg #[.int .i64 ((rd_T25 l0_1 x7_2).f0), .slice A236_1 ((rd_T25 l0_1 x7_2).f1).length c236_1], .int .i64 (wrap64 (a1 - 1))] rfl y8 ?_; (with_reducible refine (ih k2 (y87 HJ2.out HK2.out) ((rd_T25 l0_1 x7_2).f0) _ _ ((rd_T25 l0_1 x7_2).f1) (wrap64 (a1 - 1)) t237 false _ ?side1 ?side2 A26.out).mono ?_); (case side1 => exact y15 HR236_1.out HB.out); (case side2 => exact HC236_1.out); rintro e w49 ⟨v238, rfl, ho0, hb⟩; refine ⟨_, rfl, ?_⟩; have HO239 := Aside0.mk (Kd.R_lower (Kd.R_newB (Kd.R_newB (Kd.R_new' ho0 (Kd.R_lt (y12 HO_236000.out))) (g := gb234) (o := .cells #[.slice none 0 0] 50 (0, 0)) (y0 BK234.out)) (g := gb235) (o := .cells #[u236000] 50 (0, 0)) (y0 BK235.out)) (below_size (y4 HB.out GE233.out GE234.out GE235.out))); replace HO_236000 := Aside0.mk (Kd.R_elder' (y12 HO_236000.out) (Kd.R_base ho0) hb); replace BK233 := zbb BK233 hb; replace BK234 := zbb BK234 hb; replace BK235 := zbb BK235 hb; replace HB := Aside0.mk (below_step (y4 HB.out GE233.out GE234.out GE235.out) hb); (try clear hb); (try clear hb2); (try clear hk); (try clear hi); (try clear ho0)) | ((with_reducible refine gate_dst (N := 8) rfl ?_); (try (refine gate_guard (by rfl) ?_; dsimp only)); refine zbx 8 #[.slice none 0 0] 50 ?_; intro gb241 hg w50 hbox hb; replace HO_236000 := Aside0.mk (Kd.R_below (Kd.R_elderB (y12 HO_236000.out) gb241 (Nat.le_of_eq hg.symm)) hb); replace HO239 := Aside0.mk (Kd.R_below (Kd.R_elderB (y12 HO239.out) gb241 (Nat.le_of_eq hg.symm)) hb); have BK241 := Aside0.mk hbox; have GW241 := Aside0.mk ((y22 hg HB.out GE233.out GE234.out GE235.out : w.heap.size ≤ gb241)); have GE241 := Aside0.mk ((y22 hg HB.out GE233.out GE234.out GE235.out : w.heap.size ≤ gb241)); replace HB := Aside0.mk (below_step (y4 HB.out GE233.out GE234.out GE235.out) hb); have NB233_241 := zltn hg BK233; have NB241_233 := zgtn hg BK233; replace BK233 := zbb BK233 hb; have NB234_241 := zltn hg BK234; have NB241_234 := zgtn hg BK234; replace BK234 := zbb BK234 hb; have NB235_241 := zltn hg BK235; have NB241_235 := zgtn hg BK235; replace BK235 := zbb BK235 hb; clear hb hbox hg; obtain ⟨Ao51, co51, eo51⟩ := Kd.R_slice HO239.out; subst eo51; have hnb52 := NB241_233.out; have hnc52 := NB233_241.out; have hnb53 := NB241_234.out; have hnc53 := NB234_241.out; have hnb54 := NB241_235.out; have hnc54 := NB235_241.out; have hcz55_0 := zh BK241; have hfz55_0 := zfr BK241 0; have hnb56 := NB235_234.out; have hnc56 := NB234_235.out; have hcz57_0 := zh BK235; have hfz57_0 := zfr BK235 0; obtain ⟨Ao58, co58, eo58⟩ := Kd.R_slice HO_236000.out; subst eo58; have hcz59_0 := zh BK234; have hfz59_0 := zfr BK234 0))
         refine bodyPost_ret (results_ct rfl _ _ gb234 50 #[.slice Ao58 x236000_2.length co58] (0, 0) _ rfl (by (with_reducible repeat (first | refine blk_drewN ?_ _ | refine blk_drew ?_ | refine blk_alloc ?_ _)); refine blk_put (cs := #[.slice none 0 0]) ?_ 0 _ rfl; (with_reducible repeat (first | refine blk_drewN ?_ _ | refine blk_drew ?_ | refine blk_alloc ?_ _)); refine blk_far ?_ NB234_241.out _; (with_reducible repeat (first | refine blk_drewN ?_ _ | refine blk_drew ?_ | refine blk_alloc ?_ _)); exact BK234.out) Try.underlying50 rfl (by kernel_rfl)) rfl ?_
         exact ⟨_, y19, (by (with_reducible repeat (first | apply Kd.R_alloc | apply Kd.R_drewN | apply Kd.R_drew)); exact Kd.R_mono (Kd.R_far (p := ⟨gb234, 0, none⟩) (Kd.R_far (p := ⟨gb241, 0, none⟩) (Kd.R_mono (Kd.R_mono HO_236000.out (fun k_ hk => (⟨hk, hk.2⟩ : _ ∧ k_ ≠ gb241))) (fun k_ hk => (⟨hk, hk.1.1.1.1⟩ : _ ∧ k_ ≠ gb234))) (fun _ hk => hk.1.2) (.slice Ao51 t237.length co51)) (fun _ hk => hk.2) (.slice Ao58 x236000_2.length co58)) (fun _ hk => trivial)), (y7 HB.out GE233.out GE234.out GE235.out GE241.out)⟩
       ·rw [if_neg c25] at H
        exact absurd H (by simp)
      ·rw [if_neg c24] at H
       have c24b0 : decide (x7_2 < (l0_1.length : Int)) = false := decide_eq_false c24
       clear c24
       simp only [Option.some.injEq, Prod.mk.injEq] at H
       obtain ⟨rfl, rfl⟩ := H
       have hnb60 := NB233_234.out
       have hnc60 := NB234_233.out
       have hnb61 := NB233_235.out
       have hnc61 := NB235_233.out
       have hcz62_0 := zh BK233
       have hcz62_1 := zh1 BK233
       have hfz62_0 := zfr BK233 0
       have hfz62_1 := zfr BK233 1
       have hnb63 := NB235_234.out
       have hnc63 := NB234_235.out
       have hcz64_0 := zh BK235
       have hfz64_0 := zfr BK235 0
       obtain ⟨Ao65, co65, eo65⟩ := Kd.R_slice HO_236000.out
       subst eo65
       have hcz66_0 := zh BK234
       have hfz66_0 := zfr BK234 0
       go_wp2
       refine bodyPost_ret (results_ct rfl _ _ gb234 50 #[.slice Ao65 x236000_2.length co65] (0, 0) _ rfl (by (with_reducible repeat (first | refine blk_drewN ?_ _ | refine blk_drew ?_ | refine blk_alloc ?_ _)); apply blk_put (i := 0); (case h => exact y0 BK234.out); (case e => rfl)) Try.underlying50 rfl (by kernel_rfl)) rfl ?_
       exact ⟨_, y19, (by (with_reducible repeat (first | apply Kd.R_alloc | apply Kd.R_drewN | apply Kd.R_drew)); exact Kd.R_mono (Kd.R_far (p := ⟨gb234, 0, none⟩) (Kd.R_mono HO_236000.out (fun k_ hk => (⟨hk, hk.1⟩ : _ ∧ k_ ≠ gb234))) (fun _ hk => hk.2) (.slice Ao65 x236000_2.length co65)) (fun _ hk => trivial)), (y4 HB.out GE233.out GE234.out GE235.out)⟩
end Go.Proofs.Ythfflieeifakdaa.PA
end
section
namespace Go.Proofs.Ythfflieeifakdaa.PA
open Go.RowKit Go.Proofs.YthfflieeifakdaaW.PrintWords Go.Proofs.YthfflieeifakdaaW.PrintLast Go.Proofs.YthfflieeifakdaaW.PrintMore
attribute [local go_sem] max2_int min2_int max_two min_two max_three min_three max_four min_four
set_option linter.unusedVariables false
set_option linter.unusedSimpArgs false
def spec_l1Any.f (k : Nat) (a0_0 : Int) (l0_1 : List (S25)) : Option (Bool) := (spec_l1Of.f k a0_0 l0_1 4).bind fun bt246 => (if bt246.2 = true then ((spec_ValOk.f k bt246.1 a0_0 l0_1).bind fun t251 => (some t251)) else (some false))
theorem spec_l1Any.mono : ∀ a0 a1 k, LeO (spec_l1Any.f k a0 a1) (spec_l1Any.f (k + 1) a0 a1) := by
 intro a0 a1 k
 unfold spec_l1Any.f
 repeat' first
   | (with_reducible exact spec_ValOk.mono _ _ _ _)
   | (with_reducible exact spec_l1Of.mono _ _ _ _)
   | (with_reducible exact LeO.refl _)
   | (with_reducible exact LeO.none _)
   | (with_reducible refine LeO.ite ?_ ?_)
   | (with_reducible refine LeO.bind ?_ (fun _ => ?_))
   | exact spec_ValOk.mono _ _ _ _
   | exact spec_l1Of.mono _ _ _ _
   | exact LeO.none _
   | refine LeO.ite ?_ ?_
   | refine LeO.bind ?_ (fun _ => ?_)
set_option maxHeartbeats 8000000 in
set_option maxRecDepth 100000 in
theorem spec_l1Any.calls (k : Nat) (a0_0 : Int) (A0_1 : Option Addr) (c0_1 : Nat) (l0_1 : List (S25)) (r : Bool) (w : World) (hr0_1 : Kd.C k25 w A0_1 l0_1.length l0_1) (hc0_1 : l0_1.length ≤ c0_1) (h : spec_l1Any.f k a0_0 l0_1 = some r) :
  Calls Try.prog 35 #[.agg #[.int .i64 a0_0, .slice A0_1 l0_1.length c0_1]] w fun e w' => e = .returned (.bool r) ∧ Below w.heap.size w w' := by
 have hu25 := Try.underlying25
 have hu50 := Try.underlying50
 have HR0_1 := Aside0.mk hr0_1
 have HC0_1 := Aside0.mk hc0_1
 clear hr0_1 hc0_1
 have HB := Aside0.mk (Below.refl w.heap.size w)
 have H : ((spec_l1Of.f k a0_0 l0_1 4).bind fun bt246 => (if bt246.2 = true then ((spec_ValOk.f k bt246.1 a0_0 l0_1).bind fun t251 => (some t251)) else (some false))) = some r := h
 clear h
 obtain ⟨⟨t246, t249⟩, A20, H⟩ := ob H
 have A2 := Aside0.mk A20
 clear A20
 by_cases c3 : t249 = true
 ·subst c3
  rw [if_pos rfl] at H
  obtain ⟨t251, A40, H⟩ := ob H
  have A4 := Aside0.mk A40
  clear A40
  obtain rfl := Option.some.inj H
  go_enter Try.func35, Try.ntmps35
  go_wp2_with (first | ((with_reducible refine gate_dst (N := 1) rfl ?_); refine zbx 1 #[.int .i64 a0_0, .slice A0_1 l0_1.length c0_1] 25 ?_; intro gb245 hg w5 hbox hb; have BK245 := Aside0.mk hbox; have GW245 := Aside0.mk ((y9 hg HB.out : w.heap.size ≤ gb245)); have GE245 := Aside0.mk ((y9 hg HB.out : w.heap.size ≤ gb245)); replace HB := Aside0.mk (below_step (y5 HB.out) hb); clear hb hbox hg; have hcz6_0 := zh BK245; have hcz6_1 := zh1 BK245; have hfz6_0 := zfr BK245 0; have hfz6_1 := zfr BK245 1) | ((with_reducible refine gate_callee (f := 49) rfl ?_); refine goesL_ (some 7) rfl rfl Try.func49 (by kernel_rfl) rfl #[.agg #[.int .i64 a0_0, .slice A0_1 l0_1.length c0_1], .int .i64 4] rfl y8 ?_; (with_reducible refine (spec_l1Of.calls k a0_0 _ _ l0_1 4 t246 true _ ?side1 ?side2 A2.out).mono ?_); (case side1 => exact y15 HR0_1.out HB.out); (case side2 => exact HC0_1.out); rintro e w7 ⟨v247, rfl, ho0, hb⟩; refine ⟨_, rfl, ?_⟩; have HO248 := Aside0.mk (Kd.R_lower ho0 (below_size (y6 HB.out GE245.out))); replace BK245 := zbb BK245 hb; replace HB := Aside0.mk (below_step (y6 HB.out GE245.out) hb); (try clear hb); (try clear hb2); (try clear hk); (try clear hi); (try clear ho0)) | ((with_reducible refine gate_dst (N := 3) rfl ?_); refine zbx 3 #[.slice none 0 0] 50 ?_; intro gb250 hg w8 hbox hb; replace HO248 := Aside0.mk (Kd.R_below (Kd.R_elderB (y12 HO248.out) gb250 (Nat.le_of_eq hg.symm)) hb); have BK250 := Aside0.mk hbox; have GW250 := Aside0.mk ((y11 hg HB.out GE245.out : w.heap.size ≤ gb250)); have GE250 := Aside0.mk ((y11 hg HB.out GE245.out : w.heap.size ≤ gb250)); replace HB := Aside0.mk (below_step (y6 HB.out GE245.out) hb); have NB245_250 := zltn hg BK245; have NB250_245 := zgtn hg BK245; replace BK245 := zbb BK245 hb; clear hb hbox hg; obtain ⟨Ao9, co9, eo9⟩ := Kd.R_slice HO248.out; subst eo9; have hnb10 := NB250_245.out; have hnc10 := NB245_250.out; have hcz11_0 := zh BK250; have hfz11_0 := zfr BK250 0; have hcz12_0 := zh BK245; have hcz12_1 := zh1 BK245; have hfz12_0 := zfr BK245 0; have hfz12_1 := zfr BK245 1) | (go_at_call 29; (with_reducible refine (spec_ValOk.calls k _ _ t246 a0_0 _ _ l0_1 t251 _ ?side1 ?side2 ?side3 ?side4 A4.out).mono ?_); (case side1 => refine (Kd.R_reads' (e := 50) (base := w.heap.size) (ok := fun k_ => (True ∧ k_ ≠ gb250)) (n := t246.length) (c := co9) ?_).2.2; exact (by (with_reducible repeat (first | apply Kd.R_alloc | apply Kd.R_drewN | apply Kd.R_drew)); exact (Kd.R_mono (Kd.R_far (p := ⟨gb250, 0, none⟩) (Kd.R_mono HO248.out (fun k_ hk => (⟨hk, hk.2⟩ : _ ∧ k_ ≠ gb250))) (fun _ hk => hk.2) (.slice Ao9 t246.length co9)) (fun _ h_ => h_.1)))); (case side2 => exact (Kd.R_reads' HO248.out).2.1); (case side3 => exact y79 HR0_1.out HB.out GE245.out GE250.out); (case side4 => exact HC0_1.out); rintro e w13 ⟨rfl, hb⟩; replace HO248 := Aside0.mk (Kd.R_below (by (with_reducible repeat (first | apply Kd.R_alloc | apply Kd.R_drewN | apply Kd.R_drew)); exact (Kd.R_mono (Kd.R_far (p := ⟨gb250, 0, none⟩) (Kd.R_mono HO248.out (fun k_ hk => (⟨hk, hk.2⟩ : _ ∧ k_ ≠ gb250))) (fun _ hk => hk.2) (.slice Ao9 t246.length co9)) (fun _ h_ => h_.1))) hb); replace BK245 := zbf BK245 NB245_250 hb; replace BK250 := Aside0.mk (blk_below (g := gb250) (o := .cells #[.slice Ao9 t246.length co9] 50 (0, 0)) (by (with_reducible repeat (first | refine blk_drewN ?_ _ | refine blk_drew ?_ | refine blk_alloc ?_ _)); apply blk_put (i := 0); (case h => exact y0 BK250.out); (case e => rfl)) hb); replace HB := Aside0.mk (below_step (y2 HB.out GE245.out GE250.out) hb); (try clear hb); (try clear hb2); (try clear hk); (try clear hi)))
  go_ret
  exact ⟨y19, (y2 HB.out GE245.out GE250.out)⟩
 ·replace c3 := Bool.eq_false_iff.mpr c3
  subst c3
  rw [if_neg (show ¬ (false = true) by decide)] at H
  obtain rfl := Option.some.inj H
  go_enter Try.func35, Try.ntmps35
  go_wp2_with (first | ((with_reducible refine gate_dst (N := 1) rfl ?_); refine zbx 1 #[.int .i64 a0_0, .slice A0_1 l0_1.length c0_1] 25 ?_; intro gb245 hg w14 hbox hb; have BK245 := Aside0.mk hbox; have GW245 := Aside0.mk ((y9 hg HB.out : w.heap.size ≤ gb245)); have GE245 := Aside0.mk ((y9 hg HB.out : w.heap.size ≤ gb245)); replace HB := Aside0.mk (below_step (y5 HB.out) hb); clear hb hbox hg; have hcz15_0 := zh BK245; have hcz15_1 := zh1 BK245; have hfz15_0 := zfr BK245 0; have hfz15_1 := zfr BK245 1) | ((with_reducible refine gate_callee (f := 49) rfl ?_); refine goesL_ (some 7) rfl rfl Try.func49 (by kernel_rfl) rfl #[.agg #[.int .i64 a0_0, .slice A0_1 l0_1.length c0_1], .int .i64 4] rfl y8 ?_; (with_reducible refine (spec_l1Of.calls k a0_0 _ _ l0_1 4 t246 false _ ?side1 ?side2 A2.out).mono ?_); (case side1 => exact y15 HR0_1.out HB.out); (case side2 => exact HC0_1.out); rintro e w16 ⟨v247, rfl, ho0, hb⟩; refine ⟨_, rfl, ?_⟩; have HO248 := Aside0.mk (Kd.R_lower ho0 (below_size (y6 HB.out GE245.out))); replace BK245 := zbb BK245 hb; replace HB := Aside0.mk (below_step (y6 HB.out GE245.out) hb); (try clear hb); (try clear hb2); (try clear hk); (try clear hi); (try clear ho0)) | ((with_reducible refine gate_dst (N := 3) rfl ?_); refine zbx 3 #[.slice none 0 0] 50 ?_; intro gb250 hg w17 hbox hb; replace HO248 := Aside0.mk (Kd.R_below (Kd.R_elderB (y12 HO248.out) gb250 (Nat.le_of_eq hg.symm)) hb); have BK250 := Aside0.mk hbox; have GW250 := Aside0.mk ((y11 hg HB.out GE245.out : w.heap.size ≤ gb250)); have GE250 := Aside0.mk ((y11 hg HB.out GE245.out : w.heap.size ≤ gb250)); replace HB := Aside0.mk (below_step (y6 HB.out GE245.out) hb); have NB245_250 := zltn hg BK245; have NB250_245 := zgtn hg BK245; replace BK245 := zbb BK245 hb; clear hb hbox hg; obtain ⟨Ao18, co18, eo18⟩ := Kd.R_slice HO248.out; subst eo18; have hnb19 := NB250_245.out; have hnc19 := NB245_250.out; have hcz20_0 := zh BK250; have hfz20_0 := zfr BK250 0))
  go_ret
  exact ⟨y19, (y2 HB.out GE245.out GE250.out)⟩
end Go.Proofs.Ythfflieeifakdaa.PA
end
section
namespace Go.Proofs.Ythfflieeifakdaa.PA
open Go.RowKit Go.Proofs.YthfflieeifakdaaW.PrintWords Go.Proofs.YthfflieeifakdaaW.PrintLast Go.Proofs.YthfflieeifakdaaW.PrintMore
attribute [local go_sem] max2_int min2_int max_two min_two max_three min_three max_four min_four
set_option linter.unusedVariables false
set_option linter.unusedSimpArgs false
mutual
def spec_l1Anew.l0 : Nat → Int → Int → List (S25) → Int → List (S25) → Option (Int × (List (S25)))
 | 0, _, _, _, _, _ => none
 | k + 1, x4, x253000, x253001, x255000, x255001 => if x4 < (x253001.length : Int) then (if 0 ≤ x4 then ((spec_l1Anew.f k ((rd_T25 x253001 x4).f0) ((rd_T25 x253001 x4).f1)).bind fun bt256 => (if x255001.length < 4398046511104 then (spec_l1Anew.l0 k (wrap64 (x4 + 1)) x253000 x253001 x255000 (x255001 ++ [(⟨bt256.1, bt256.2⟩ : S25)])) else (none))) else (none)) else (some (x255000, x255001))
def spec_l1Anew.f : Nat → Int → List (S25) → Option (Int × (List (S25)))
 | 0, _, _ => none
 | k + 1, a0_0, l0_1 => spec_l1Anew.l0 k 0 a0_0 l0_1 a0_0 ([] : List (S25))
end
theorem spec_l1Anew.mono_l : ∀ k, (∀ y0 y1, LeO (spec_l1Anew.f k y0 y1) (spec_l1Anew.f (k + 1) y0 y1)) ∧ (∀ y0 y1 y2 y3 y4, LeO (spec_l1Anew.l0 k y0 y1 y2 y3 y4) (spec_l1Anew.l0 (k + 1) y0 y1 y2 y3 y4))
 | 0 => ⟨fun _ _ r h => by simp [spec_l1Anew.f] at h, fun _ _ _ _ _ r h => by simp [spec_l1Anew.l0] at h⟩
 | k + 1 => by
  obtain ⟨ih0, ih1⟩ := spec_l1Anew.mono_l k
  refine ⟨?_, ?_⟩
  ·intro y0 y1
   unfold spec_l1Anew.f
   repeat' first
   | (with_reducible exact ih0 _ _)
   | (with_reducible exact ih1 _ _ _ _ _)
   | (with_reducible exact LeO.refl _)
   | (with_reducible exact LeO.none _)
   | (with_reducible refine LeO.ite ?_ ?_)
   | (with_reducible refine LeO.bind ?_ (fun _ => ?_))
   | exact ih0 _ _
   | exact ih1 _ _ _ _ _
   | exact LeO.none _
   | refine LeO.ite ?_ ?_
   | refine LeO.bind ?_ (fun _ => ?_)
  ·intro y0 y1 y2 y3 y4
   unfold spec_l1Anew.l0
   repeat' first
   | (with_reducible exact ih0 _ _)
   | (with_reducible exact ih1 _ _ _ _ _)
   | (with_reducible exact LeO.refl _)
   | (with_reducible exact LeO.none _)
   | (with_reducible refine LeO.ite ?_ ?_)
   | (with_reducible refine LeO.bind ?_ (fun _ => ?_))
   | exact ih0 _ _
   | exact ih1 _ _ _ _ _
   | exact LeO.none _
   | refine LeO.ite ?_ ?_
   | refine LeO.bind ?_ (fun _ => ?_)
theorem spec_l1Anew.mono : ∀ a0 a1 k, LeO (spec_l1Anew.f k a0 a1) (spec_l1Anew.f (k + 1) a0 a1) := by
 intro a0 a1 k
 obtain ⟨ih0, ih1⟩ := spec_l1Anew.mono_l k
 exact ih0 a0 a1
def spec_l1Anew.T5 : Bool × List (List Nat × List Nat) := (true, [([], []), ([0], [0]), ([], []), ([2], [2]), ([], []), ([3, 4], [3, 4]), ([5], [5]), ([6], [6]), ([7], [7]), ([1, 8, 7], [1, 8]), ([0, 1, 2, 3, 4, 5, 6, 7, 8, 9], []), ([10, 9, 9, 0, 1, 2, 3, 4, 5, 6, 7, 8, 9], [9, 10])])
def spec_l1Anew.B5 : List Nat := [0, 1, 0, 4, 0, 28, 60, 124, 252, 511, 1023, 2047]
theorem spec_l1Anew.tab5 : rtab .any (opsOf Try.f37 5) = spec_l1Anew.T5 := by kernel_rfl
theorem spec_l1Anew.bits5 : waitsOk spec_l1Anew.T5.2 spec_l1Anew.B5 = true := by kernel_rfl
set_option maxHeartbeats 8000000 in
set_option maxRecDepth 100000 in
theorem spec_l1Anew.calls (k : Nat) : ∀ (a0_0 : Int) (A0_1 : Option Addr) (c0_1 : Nat) (l0_1 : List (S25)) (r1 : Int) (r2 : List (S25)) (w : World) (hr0_1 : Kd.C k25 w A0_1 l0_1.length l0_1) (hc0_1 : l0_1.length ≤ c0_1) (h : spec_l1Anew.f k a0_0 l0_1 = some (r1, r2)),
  Calls Try.prog 37 #[.agg #[.int .i64 a0_0, .slice A0_1 l0_1.length c0_1]] w fun e w' => ∃ v1_ : Value, e = .returned (.agg #[.int .i64 r1, v1_]) ∧ Kd.R k25 25 w' w.heap.size (fun _ => True) v1_ r2 ∧ Below w.heap.size w w' := by
 induction k using Nat.strongRecOn with
 | _ k ih =>
 intro a0_0 A0_1 c0_1 l0_1 r1 r2 w hr0_1 hc0_1 h
 cases k with
 | zero => exact absurd h (by simp [spec_l1Anew.f])
 | succ k =>
 simp only [spec_l1Anew.f] at h
 have hu25 := Try.underlying25
 have HR0_1 := Aside0.mk hr0_1
 have HC0_1 := Aside0.mk hc0_1
 clear hr0_1 hc0_1
 have HB := Aside0.mk (Below.refl w.heap.size w)
 have H : (spec_l1Anew.l0 k 0 a0_0 l0_1 a0_0 ([] : List (S25))) = some (r1, r2) := h
 clear h
 have H' := Aside0.mk H
 clear H
 go_enter Try.func37, Try.ntmps37
 go_wp2_with (first | ((with_reducible refine gate_dst (N := 1) rfl ?_); refine zbx 1 #[.int .i64 a0_0, .slice A0_1 l0_1.length c0_1] 25 ?_; intro gb252 hg w2 hbox hb; have BK252 := Aside0.mk hbox; have GW252 := Aside0.mk ((y9 hg HB.out : w.heap.size ≤ gb252)); have GE252 := Aside0.mk ((y9 hg HB.out : w.heap.size ≤ gb252)); replace HB := Aside0.mk (below_step (y5 HB.out) hb); clear hb hbox hg) | ((with_reducible refine gate_dst (N := 2) rfl ?_); refine zbx 2 #[.int .i64 0, .slice none 0 0] 25 ?_; intro gb253 hg w3 hbox hb; have BK253 := Aside0.mk hbox; have GW253 := Aside0.mk ((y11 hg HB.out GE252.out : w.heap.size ≤ gb253)); have GE253 := Aside0.mk ((y11 hg HB.out GE252.out : w.heap.size ≤ gb253)); replace HB := Aside0.mk (below_step (y6 HB.out GE252.out) hb); have NB252_253 := zltn hg BK252; have NB253_252 := zgtn hg BK252; replace BK252 := zbb BK252 hb; clear hb hbox hg; have hnb4 := NB252_253.out; have hnc4 := NB253_252.out; have hcz5_0 := zh BK252; have hcz5_1 := zh1 BK252; have hfz5_0 := zfr BK252 0; have hfz5_1 := zfr BK252 1) | ((with_reducible refine gate_dst (N := 3) rfl ?_); refine zbx 3 #[.int .i64 0, .slice none 0 0] 25 ?_; intro gb254 hg w6 hbox hb; have BK254 := Aside0.mk hbox; have GW254 := Aside0.mk ((y16 hg HB.out GE252.out GE253.out : w.heap.size ≤ gb254)); have GE254 := Aside0.mk ((y16 hg HB.out GE252.out GE253.out : w.heap.size ≤ gb254)); replace HB := Aside0.mk (below_step (y2 HB.out GE252.out GE253.out) hb); have NB252_254 := zltn hg BK252; have NB254_252 := zgtn hg BK252; replace BK252 := zbb BK252 hb; have NB253_254 := zltn hg BK253; have NB254_253 := zgtn hg BK253; replace BK253 := zbb BK253 hb; clear hb hbox hg; have hnb7 := NB254_252.out; have hnc7 := NB252_254.out; have hnb8 := NB254_253.out; have hnc8 := NB253_254.out; have hcz9_0 := zh BK254; have hcz9_1 := zh1 BK254; have hfz9_0 := zfr BK254 0; have hfz9_1 := zfr BK254 1))
 go_loopg [4] k (fun kq v4 w' => ∃ (x4_1 : Int) (x255001_1 : List (S25)) (u255001 : Value), v4 = .int .i64 x4_1 ∧ Aside0 (spec_l1Anew.l0 kq x4_1 a0_0 l0_1 a0_0 x255001_1 = some (r1, r2)) ∧ Aside0 (kq ≤ k) ∧ Aside0 (Kd.R k25 25 w' w.heap.size (fun k_ => k_ ≠ gb252 ∧ k_ ≠ gb253 ∧ k_ ≠ gb254) u255001 x255001_1) ∧ Aside0 (w'.heap[gb252]? = some (.cells #[.int .i64 a0_0, (.slice A0_1 l0_1.length c0_1)] 25 (0, 0))) ∧ Aside0 (w'.heap[gb253]? = some (.cells #[.int .i64 0, (.slice none 0 0)] 25 (0, 0))) ∧ Aside0 (w'.heap[gb254]? = some (.cells #[.int .i64 a0_0, u255001] 25 (0, 0))) ∧ Aside0 (Below w.heap.size w w'))
 case atStart => exact ⟨(0), (([] : List (S25))), (.slice none 0 0), y34, H', ⟨Nat.le_refl _⟩, ⟨y37⟩, ⟨(y1 NB252_254.out BK252.out)⟩, ⟨(y1 NB253_254.out BK253.out)⟩, ⟨(by (with_reducible repeat (first | refine blk_drewN ?_ _ | refine blk_drew ?_ | refine blk_alloc ?_ _)); refine blk_put (cs := #[.int .i64 a0_0, .slice none 0 0]) ?_ 1 _ rfl; (with_reducible repeat (first | refine blk_drewN ?_ _ | refine blk_drew ?_ | refine blk_alloc ?_ _)); refine blk_put (cs := #[.int .i64 0, .slice none 0 0]) ?_ 0 _ rfl; (with_reducible repeat (first | refine blk_drewN ?_ _ | refine blk_drew ?_ | refine blk_alloc ?_ _)); exact BK254.out)⟩, ⟨(y4 HB.out GE252.out GE253.out GE254.out)⟩⟩
 case round =>
  clear H'
  try clear p2
  try clear c3
  try clear c4
  try clear c7
  try clear c8
  try clear hcz5_0
  try clear hcz5_1
  try clear hcz9_0
  try clear hcz9_1
  try clear hfz5_0
  try clear hfz5_1
  try clear hfz9_0
  try clear hfz9_1
  (try clear BK252); (try clear BK253); (try clear BK254)
  obtain ⟨x4_1, x255001_1, u255001, rfl, HA, HK1, HO_255001, BK252, BK253, BK254, HB⟩ := hrel
  cases gk with
  | zero => exact absurd HA.out (by simp [spec_l1Anew.l0])
  | succ k1 =>
   have H := HA.out
   clear HA
   simp only [spec_l1Anew.l0] at H
   by_cases c10 : x4_1 < (l0_1.length : Int)
   ·rw [if_pos c10] at H
    have c10b0 : decide (x4_1 < (l0_1.length : Int)) = true := decide_eq_true c10
    clear c10
    by_cases c11 : 0 ≤ x4_1
    ·rw [if_pos c11] at H
     have c11b0 : decide (0 ≤ x4_1) = true := decide_eq_true c11
     clear c11
     obtain ⟨⟨t256, t257⟩, A120, H⟩ := ob H
     have A12 := Aside0.mk A120
     clear A120
     by_cases c13 : x255001_1.length < 4398046511104
     ·rw [if_pos c13] at H
      have LMc13 := Aside0.mk c13
      clear c13
      obtain ⟨y260, hy260⟩ : ∃ y_ : List (S25), y_ = (x255001_1 ++ [(⟨t256, t257⟩ : S25)]) := ⟨_, rfl⟩
      replace H : (spec_l1Anew.l0 k1 (wrap64 (x4_1 + 1)) a0_0 l0_1 a0_0 y260) = some (r1, r2) := by first | (rw [hy260]; with_reducible exact H) | (have H2_ := (Option.bind_some _ _).symm.trans H; rw [hy260]; with_reducible exact H2_) | (have H2_ := (Option.bind_some _ _).symm.trans H; with_reducible exact H2_) | with_reducible exact H | (rw [hy260]; exact H) | exact H
      have Ny260 := Aside0.mk hy260
      clear hy260
      have H' := Aside0.mk H
      clear H
      have hnb14 := NB252_253.out
      have hnc14 := NB253_252.out
      have hnb15 := NB252_254.out
      have hnc15 := NB254_252.out
      have hcz16_0 := zh BK252
      have hcz16_1 := zh1 BK252
      have hfz16_0 := zfr BK252 0
      have hfz16_1 := zfr BK252 1
      try go_wp2
      replace HO_255001 := Aside0.mk (Kd.R_drew HO_255001.out)
      replace BK252 := Aside0.mk (blk_drew BK252.out)
      replace BK253 := Aside0.mk (blk_drew BK253.out)
      replace BK254 := Aside0.mk (blk_drew BK254.out)
      replace HB := Aside0.mk (below_drew1 HB.out)
      have p255 : 0 ≤ (x4_1 : Int) := of_decide_eq_true y23
      have q255 : x4_1 < (l0_1.length : Int) := of_decide_eq_true y23
      obtain ⟨ad255, A255_1, c255_1, e255, hx255_0, hx255_1, hl255_1, hi255_1⟩ := at_T25 HR0_1.out x4_1 p255 q255
      have hw255_1 := hx255_1
      have hw255_0 := hx255_0
      cases e255
      replace hx255_0 := (HB.out.cell (World.block_lt_of_cell? w _ hx255_0)).trans hx255_0
      replace hx255_1 := (HB.out.cell (World.block_lt_of_cell? w _ hx255_1)).trans hx255_1
      have HR255_1 := Aside0.mk hi255_1
      have HC255_1 := Aside0.mk hl255_1
      clear hi255_1 hl255_1
      replace p255 := eq_true p255
      replace q255 := eq_true q255
      refine start_ (n := 12) (S := fun w' => w'.cell? ⟨gb254, 0, none⟩ = some (.int .i64 a0_0) ∧ w'.cell? ⟨gb254, 1, none⟩ = some (u255001) ∧ w'.cell? ⟨gb252, 0, none⟩ = some (.int .i64 a0_0) ∧ w'.cell? ⟨gb252, 1, none⟩ = some (.slice (some ad255) l0_1.length c0_1) ∧ w'.cell? (ad255.add ((x4_1).toNat * 2)) = some (.int .i64 ((rd_T25 l0_1 x4_1).f0)) ∧ w'.cell? ⟨(ad255.add ((x4_1).toNat * 2)).block, (ad255.add ((x4_1).toNat * 2)).off + 1, none⟩ = some (.slice A255_1 ((rd_T25 l0_1 x4_1).f1).length c255_1)) (ds := [11]) #[false, false, false, false, false, false, false, false, false, false, false, false] (by kernel_rfl) rfl rfl ⟨(blk_cell BK254.out 0).trans rfl, (blk_cell BK254.out 1).trans rfl, (blk_cell BK252.out 0).trans rfl, (blk_cell BK252.out 1).trans rfl, ((HB.out.cell (World.block_lt_of_cell? w _ hw255_0)).trans hw255_0), ((HB.out.cell (World.block_lt_of_cell? w _ hw255_1)).trans hw255_1)⟩ (fun hHeld => ?_); refine with_tabW spec_l1Anew.tab5 spec_l1Anew.bits5 (fun HT_ HW_ => ?_)
      generalize wr.drew = w17 at HO_255001 BK252 BK253 BK254 HB HR255_1 hx255_0 hx255_1 hHeld ⊢
      refine zp 0 (some 15) HT_ ?_
      refine zp 2 (some 17) HT_ ?_
      refine zp 4 (some 19) HT_ ?_
      refine zt6 1 (some 16) HT_ HW_ hHeld ?_
      refine zt6 3 (some 18) HT_ HW_ hHeld ?_
      refine zp 5 (some 20) HT_ ?_
      refine zt6 6 (some 21) HT_ HW_ hHeld ?_
      refine one_ (i := 7) (N := some 22) #[true, true, true, true, true, true, true, true, false, false, false, false] rfl rfl (one_of HT_.out (by kernel_rfl)) (by decide) (fun K hK => ?_)
      refine goes_ Try.func37 (by kernel_rfl) rfl #[.agg #[.int .i64 ((rd_T25 l0_1 x4_1).f0), .slice A255_1 ((rd_T25 l0_1 x4_1).f1).length c255_1]] (by rfl) rfl rfl y8 ?_
      with_reducible refine (ih k1 (y57 HK1.out) ((rd_T25 l0_1 x4_1).f0) _ _ ((rd_T25 l0_1 x4_1).f1) t256 t257 _ ?side1 ?side2 A12.out).mono ?_
      (case side1 => exact y15 HR255_1.out HB.out)
      (case side2 => exact HC255_1.out)
      rintro e w18 ⟨v258, rfl, ho0, hb⟩
      refine ⟨_, rfl, ?_⟩
      have HO259 := Aside0.mk (Kd.R_lower (Kd.R_newB (Kd.R_newB (Kd.R_newB (Kd.R_new' ho0 (Kd.R_lt (y12 HO_255001.out))) (g := gb252) (o := .cells #[.int .i64 a0_0, .slice (some ad255) l0_1.length c0_1] 25 (0, 0)) (y0 BK252.out)) (g := gb253) (o := .cells #[.int .i64 0, .slice none 0 0] 25 (0, 0)) (y0 BK253.out)) (g := gb254) (o := .cells #[.int .i64 a0_0, u255001] 25 (0, 0)) (y0 BK254.out)) (below_size (y4 HB.out GE252.out GE253.out GE254.out)))
      replace HO_255001 := Aside0.mk (Kd.R_elder' (y12 HO_255001.out) (Kd.R_base ho0) hb)
      replace BK252 := zbb BK252 hb
      replace BK253 := zbb BK253 hb
      replace BK254 := zbb BK254 hb
      replace HB := Aside0.mk (below_step (y4 HB.out GE252.out GE253.out GE254.out) hb)
      (try clear hb)
      (try clear hb2)
      (try clear hk)
      (try clear hi)
      (try clear ho0)
      obtain ⟨Ao20, co20, eo20⟩ := Kd.R_slice HO259.out
      (first | subst eo20 | (injection eo20 with f1_ f2_ f3_; have f4_ := f1_.symm; have f5_ := f3_.symm; clear f1_ f2_ f3_; subst f4_; subst f5_))
      refine hK.out _ _ ⟨(blk_cell BK254.out 0).trans rfl, (blk_cell BK254.out 1).trans rfl, (blk_cell BK252.out 0).trans rfl, (blk_cell BK252.out 1).trans rfl, ((HB.out.cell (World.block_lt_of_cell? w _ hw255_0)).trans hw255_0), ((HB.out.cell (World.block_lt_of_cell? w _ hw255_1)).trans hw255_1)⟩ (fun hHeld => ?_)
      clear hK K
      refine norm_ (a' := ?_) ?_ ?_
      rotate_left
      ·show Act.put _ (some 22) _ = _
       simp only [Act.put, List.setIfInBounds_toArray, List.set_cons_zero, List.set_cons_succ, i64_w, i32_w]
       rfl
      refine one_ (i := 8) (N := some 23) #[true, true, true, true, true, true, true, true, true, false, false, false] rfl rfl (one_of HT_.out (by kernel_rfl)) (by decide) (fun K hK => ?_)
      refine value_ (w1 := ?_) (v := ?_) (by rfl) rfl ?_ ?_
      rotate_left 2
      ·go_simp
       constructor
       ·rfl
       ·rfl
      refine hK.out _ _ ⟨(blk_cell (blk_alloc BK254.out _) 0).trans rfl, (blk_cell (blk_alloc BK254.out _) 1).trans rfl, (blk_cell (blk_alloc BK252.out _) 0).trans rfl, (blk_cell (blk_alloc BK252.out _) 1).trans rfl, (World.cell?_alloc_lt _ _ _ (World.block_lt_of_cell? _ _ (((HB.out.cell (World.block_lt_of_cell? w _ hw255_0)).trans hw255_0)))).trans (((HB.out.cell (World.block_lt_of_cell? w _ hw255_0)).trans hw255_0)), (World.cell?_alloc_lt _ _ _ (World.block_lt_of_cell? _ _ (((HB.out.cell (World.block_lt_of_cell? w _ hw255_1)).trans hw255_1)))).trans (((HB.out.cell (World.block_lt_of_cell? w _ hw255_1)).trans hw255_1))⟩ (fun hHeld => ?_)
      clear hK K
      refine norm_ (a' := ?_) ?_ ?_
      rotate_left
      ·show Act.put _ (some 23) _ = _
       simp only [Act.put, List.setIfInBounds_toArray, List.set_cons_zero, List.set_cons_succ, i64_w, i32_w]
       rfl
      refine one_ (i := 9) (N := some 24) #[true, true, true, true, true, true, true, true, true, true, false, false] rfl rfl (one_of HT_.out (by kernel_rfl)) (by decide) (fun K hK => ?_)
      refine Kd.R_append_step k25 (w0 := w) w.heap.size (by rfl) (.tmp 16) (.tmp 23) 23 25 (.agg #[(.int .i64 0), (.slice none 0 0)]) 32 rfl Try.underlying23 info25 rfl (by decide) (by omega) u255001 x255001_1 (⟨t256, t257⟩ : S25) [.int .i64 t256, .slice Ao20 t257.length co20] (fun k_ => k_ ≠ gb252 ∧ k_ ≠ gb253 ∧ k_ ≠ gb254) (fun k_ => ((fun k_ => k_ ≠ gb252 ∧ k_ ≠ gb253 ∧ k_ ≠ gb254)) k_ ∧ some k_ ≠ (u255001 : Value).ownBlock) rfl rfl ?aP (fun _ hk => hk) ?aF ?aO ?aB ?aS ?aL ?_
      (case aP => exact k25_mkM _ _ _ (⟨t256, t257⟩ : S25) (Kd.R_mono (HO259.out) (fun k_ hk => ⟨⟨hk.1.1.2, ⟨hk.1.2, hk.2⟩⟩, hk.1.1.1.2⟩)))
      (case aB => exact y78 HB.out GE252.out GE253.out GE254.out)
      (case aF => exact (fun k_ hk => ⟨Kd.freshB (g := gb252) (o := .cells #[.int .i64 a0_0, .slice (some ad255) l0_1.length c0_1] 25 (0, 0)) (y0 BK252.out) k_ hk, Kd.freshB (g := gb253) (o := .cells #[.int .i64 0, .slice none 0 0] 25 (0, 0)) (y0 BK253.out) k_ hk, Kd.freshB (g := gb254) (o := .cells #[.int .i64 a0_0, u255001] 25 (0, 0)) (y0 BK254.out) k_ hk⟩))
      (case aO => exact y91 HO_255001.out)
      (case aS => exact y73 HB.out GE252.out GE253.out GE254.out)
      (case aL => exact y57 LMc13.out)
      intro v261 w19 ho hb hg hat
      rw [← Ny260.out] at ho
      replace BK252 := Aside0.mk (blk_grown (g := gb252) (o := .cells #[.int .i64 a0_0, .slice (some ad255) l0_1.length c0_1] 25 (0, 0)) (y0 BK252.out) hg (Kd.R_away HO_255001.out (fun _ hk => hk.1.1)))
      replace BK253 := Aside0.mk (blk_grown (g := gb253) (o := .cells #[.int .i64 0, .slice none 0 0] 25 (0, 0)) (y0 BK253.out) hg (Kd.R_away HO_255001.out (fun _ hk => hk.1.2.1)))
      replace BK254 := Aside0.mk (blk_grown (g := gb254) (o := .cells #[.int .i64 a0_0, u255001] 25 (0, 0)) (y0 BK254.out) hg (Kd.R_away HO_255001.out (fun _ hk => hk.1.2.2)))
      replace HB := Aside0.mk (hb)
      have HO262 := Aside0.mk (ho)
      clear HO259 HO_255001
      clear ho hb hg hat
      obtain ⟨Ao21, co21, eo21⟩ := Kd.R_slice HO262.out
      (first | subst eo21 | (injection eo21 with f1_ f2_ f3_; have f4_ := f1_.symm; have f5_ := f3_.symm; clear f1_ f2_ f3_; subst f4_; subst f5_))
      refine hK.out _ _ ⟨(blk_cell BK254.out 0).trans rfl, (blk_cell BK254.out 1).trans rfl, (blk_cell BK252.out 0).trans rfl, (blk_cell BK252.out 1).trans rfl, ((HB.out.cell (World.block_lt_of_cell? w _ hw255_0)).trans hw255_0), ((HB.out.cell (World.block_lt_of_cell? w _ hw255_1)).trans hw255_1)⟩ (fun hHeld => ?_)
      clear hK K
      refine norm_ (a' := ?_) ?_ ?_
      rotate_left
      ·show Act.put _ (some 24) _ = _
       simp only [Act.put, List.setIfInBounds_toArray, List.set_cons_zero, List.set_cons_succ, i64_w, i32_w]
       rfl
      refine zp 10 (some 25) HT_ ?_
      refine last_ (i := 11) (N := none) #[true, true, true, true, true, true, true, true, true, true, true, true] rfl rfl (one_of HT_.out (by kernel_rfl)) (by decide) (fun K hK => ?_)
      have hs22 : w19.cell? ⟨gb254, 1, none⟩ = some (u255001) := (blk_cell BK254.out 1).trans rfl
      have hfs22 := zfr BK254 1
      have hns22_0 := NB252_254.out
      have hns22_1 := NB253_254.out
      have hms22_0 := NB254_252.out
      have hms22_1 := NB254_253.out
      refine skip_ (w1 := ?_) (by rfl) rfl ?_ ?_
      rotate_left
      ·go_simp
       rfl
      refine hK.out _ _ ?_
      clear hK K
      refine done_ (done_of HT_.out (by kernel_rfl)) ?_
      try go_wp2
      go_roundg k1
      case measure => have := HK1.out; omega
      case rel => exact ⟨(wrap64 (x4_1 + 1)), (y260), (.slice Ao21 y260.length co21), y34, H', ⟨(y57 HK1.out)⟩, ⟨(by (with_reducible repeat (first | apply Kd.R_alloc | apply Kd.R_drewN | apply Kd.R_drew)); exact Kd.R_mono (Kd.R_far (p := ⟨gb254, 1, none⟩) (Kd.R_mono HO262.out (fun k_ hk => (⟨hk, hk.2.2⟩ : _ ∧ k_ ≠ gb254))) (fun _ hk => hk.2) (.slice Ao21 y260.length co21)) (fun _ hk => ⟨hk.1.1, ⟨hk.1.2.1, hk.1.2.2⟩⟩))⟩, ⟨(y13 NB252_254.out BK252.out)⟩, ⟨(y13 NB253_254.out BK253.out)⟩, ⟨(by (with_reducible repeat (first | refine blk_drewN ?_ _ | refine blk_drew ?_ | refine blk_alloc ?_ _)); refine blk_put (cs := #[.int .i64 a0_0, u255001]) ?_ 1 _ rfl; (with_reducible repeat (first | refine blk_drewN ?_ _ | refine blk_drew ?_ | refine blk_alloc ?_ _)); exact BK254.out)⟩, ⟨(y4 HB.out GE252.out GE253.out GE254.out)⟩⟩
     ·rw [if_neg c13] at H
      exact absurd H (by simp)
    ·rw [if_neg c11] at H
     exact absurd H (by simp)
   ·rw [if_neg c10] at H
    have c10b0 : decide (x4_1 < (l0_1.length : Int)) = false := decide_eq_false c10
    clear c10
    simp only [Option.some.injEq, Prod.mk.injEq] at H
    obtain ⟨rfl, rfl⟩ := H
    have hnb23 := NB252_253.out
    have hnc23 := NB253_252.out
    have hnb24 := NB252_254.out
    have hnc24 := NB254_252.out
    have hcz25_0 := zh BK252
    have hcz25_1 := zh1 BK252
    have hfz25_0 := zfr BK252 0
    have hfz25_1 := zfr BK252 1
    have hnb26 := NB254_253.out
    have hnc26 := NB253_254.out
    have hcz27_0 := zh BK254
    have hcz27_1 := zh1 BK254
    have hfz27_0 := zfr BK254 0
    have hfz27_1 := zfr BK254 1
    have hcz28_0 := zh BK253
    have hcz28_1 := zh1 BK253
    have hfz28_0 := zfr BK253 0
    have hfz28_1 := zfr BK253 1
    obtain ⟨Ao29, co29, eo29⟩ := Kd.R_slice HO_255001.out
    subst eo29
    go_wp2
    refine bodyPost_ret (results_cell_row rfl _ _ gb253 25 #[.int .i64 a0_0, .slice Ao29 x255001_1.length co29] (0, 0) _ rfl (by (with_reducible repeat (first | refine blk_drewN ?_ _ | refine blk_drew ?_ | refine blk_alloc ?_ _)); refine blk_put (cs := #[.int .i64 a0_0, .slice none 0 0]) ?_ 1 _ rfl; (with_reducible repeat (first | refine blk_drewN ?_ _ | refine blk_drew ?_ | refine blk_alloc ?_ _)); apply blk_put (i := 0); (case h => exact y0 BK253.out); (case e => rfl)) Try.underlying25 rfl (by kernel_rfl)) rfl ?_
    exact ⟨_, y19, (by (with_reducible repeat (first | apply Kd.R_alloc | apply Kd.R_drewN | apply Kd.R_drew)); exact Kd.R_mono (Kd.R_far (p := ⟨gb253, 1, none⟩) (Kd.R_far (p := ⟨gb253, 0, none⟩) (Kd.R_mono HO_255001.out (fun k_ hk => (⟨hk, hk.2.1⟩ : _ ∧ k_ ≠ gb253))) (fun _ hk => hk.2) (.int .i64 a0_0)) (fun _ hk => hk.2) (.slice Ao29 x255001_1.length co29)) (fun _ hk => trivial)), (y4 HB.out GE252.out GE253.out GE254.out)⟩
end Go.Proofs.Ythfflieeifakdaa.PA
end
section
namespace Go.Proofs.Ythfflieeifakdaa.PA
open Go.RowKit Go.Proofs.YthfflieeifakdaaW.PrintWords Go.Proofs.YthfflieeifakdaaW.PrintLast Go.Proofs.YthfflieeifakdaaW.PrintMore
attribute [local go_sem] max2_int min2_int max_two min_two max_three min_three max_four min_four
set_option linter.unusedVariables false
set_option linter.unusedSimpArgs false
def spec_ValAt.l0 : Nat → List Int → Int → Int → List (S25) → Option (Int × (List (S25)) × Bool)
 | 0, _, _, _, _ => none
 | k + 1, x1, x6, x264000, x264001 => if x6 < (x1.length : Int) then (if 0 ≤ x6 then ((spec_l6In.f (rd x1 x6) 0 (wrap64 ((x264001.length : Int) - 1))).bind fun t267 => (if t267 = true then (if 0 ≤ (rd x1 x6) then (if (rd x1 x6) < (x264001.length : Int) then (spec_ValAt.l0 k x1 (wrap64 (x6 + 1)) ((rd_T25 x264001 (rd x1 x6)).f0) ((rd_T25 x264001 (rd x1 x6)).f1)) else (none)) else (none)) else (some (0, ([] : List (S25)), false)))) else (none)) else ((spec_l1Anew.f k x264000 x264001).bind fun bt270 => (some (bt270.1, bt270.2, true)))
def spec_ValAt.f (k : Nat) (a0_0 : Int) (l0_1 : List (S25)) (l1 : List Int) : Option (Int × (List (S25)) × Bool) := (spec_l1Any.f k a0_0 l0_1).bind fun t265 => (if t265 = true then (spec_ValAt.l0 k l1 0 a0_0 l0_1) else (some (0, ([] : List (S25)), false)))
theorem spec_ValAt.mono_l : ∀ k, (∀ y0 y1 y2 y3, LeO (spec_ValAt.l0 k y0 y1 y2 y3) (spec_ValAt.l0 (k + 1) y0 y1 y2 y3))
 | 0 => fun _ _ _ _ r h => by simp [spec_ValAt.l0] at h
 | k + 1 => by
  have ih0 := spec_ValAt.mono_l k
  ·intro y0 y1 y2 y3
   unfold spec_ValAt.l0
   repeat' first
   | (with_reducible exact ih0 _ _ _ _)
   | (with_reducible exact spec_l1Anew.mono _ _ _)
   | (with_reducible exact spec_l1Any.mono _ _ _)
   | (with_reducible exact LeO.refl _)
   | (with_reducible exact LeO.none _)
   | (with_reducible refine LeO.ite ?_ ?_)
   | (with_reducible refine LeO.bind ?_ (fun _ => ?_))
   | exact ih0 _ _ _ _
   | exact spec_l1Anew.mono _ _ _
   | exact spec_l1Any.mono _ _ _
   | exact LeO.none _
   | refine LeO.ite ?_ ?_
   | refine LeO.bind ?_ (fun _ => ?_)
theorem spec_ValAt.mono : ∀ a0 a1 a2 k, LeO (spec_ValAt.f k a0 a1 a2) (spec_ValAt.f (k + 1) a0 a1 a2) := by
 intro a0 a1 a2 k
 have ih0 := spec_ValAt.mono_l k
 unfold spec_ValAt.f
 repeat' first
   | (with_reducible exact ih0 _ _ _ _)
   | (with_reducible exact spec_l1Anew.mono _ _ _)
   | (with_reducible exact spec_l1Any.mono _ _ _)
   | (with_reducible exact LeO.refl _)
   | (with_reducible exact LeO.none _)
   | (with_reducible refine LeO.ite ?_ ?_)
   | (with_reducible refine LeO.bind ?_ (fun _ => ?_))
   | exact ih0 _ _ _ _
   | exact spec_l1Anew.mono _ _ _
   | exact spec_l1Any.mono _ _ _
   | exact LeO.none _
   | refine LeO.ite ?_ ?_
   | refine LeO.bind ?_ (fun _ => ?_)
def spec_ValAt.T6 : Bool × List (List Nat × List Nat) := (true, [([], []), ([], []), ([0, 1], [0, 1]), ([2], [2]), ([], []), ([4], [4]), ([5], [5]), ([6], [6]), ([3, 7], [3, 7]), ([8], [8])])
def spec_ValAt.B6 : List Nat := [0, 0, 3, 7, 0, 16, 48, 112, 255, 511]
theorem spec_ValAt.tab6 : rtab .any (opsOf Try.f13 6) = spec_ValAt.T6 := by kernel_rfl
theorem spec_ValAt.bits6 : waitsOk spec_ValAt.T6.2 spec_ValAt.B6 = true := by kernel_rfl
def spec_ValAt.T8 : Bool × List (List Nat × List Nat) := (true, [([], []), ([0], [0]), ([], []), ([], []), ([2, 3], [2, 3]), ([4], [4]), ([1, 5], [1, 5]), ([6], [6]), ([7, 0, 1, 2, 3, 4, 5, 6, 7], [7])])
def spec_ValAt.B8 : List Nat := [0, 1, 0, 0, 12, 28, 63, 127, 255]
theorem spec_ValAt.tab8 : rtab .any (opsOf Try.f13 8) = spec_ValAt.T8 := by kernel_rfl
theorem spec_ValAt.bits8 : waitsOk spec_ValAt.T8.2 spec_ValAt.B8 = true := by kernel_rfl
set_option maxHeartbeats 8000000 in
set_option maxRecDepth 100000 in
theorem spec_ValAt.calls (k : Nat) (a0_0 : Int) (P0_1_ : Nat → Prop) (A0_1 : Option Addr) (c0_1 : Nat) (l0_1 : List (S25)) (A1 : Option Addr) (c1 : Nat) (l1 : List Int) (r1 : Int) (r2 : List (S25)) (r3 : Bool) (w : World) (hs0_1 : Kd.V k25 25 w w.heap.size (fun k_ => P0_1_ k_) (.slice A0_1 l0_1.length c0_1) l0_1) (hr1 : Kd.C (Kd.int .i64) w A1 l1.length l1) (hc1 : l1.length ≤ c1) (h : spec_ValAt.f k a0_0 l0_1 l1 = some (r1, r2, r3)) :
  Calls Try.prog 13 #[.agg #[.int .i64 a0_0, .slice A0_1 l0_1.length c0_1], .slice A1 l1.length c1] w fun e w' => ∃ v1_ : Value, e = .returned (.tuple #[.agg #[.int .i64 r1, v1_], .bool r3]) ∧ Kd.R k25 25 w' w.heap.size (fun k_ => (w.heap.size ≤ k_)) v1_ r2 ∧ Below w.heap.size w w' := by
 have hu25 := Try.underlying25
 have HO0_1 := Aside0.mk (show Kd.V k25 25 w w.heap.size (fun k_ => (P0_1_ k_ ∨ w.heap.size ≤ k_)) (.slice A0_1 l0_1.length c0_1) l0_1 from Kd.V_mono hs0_1 (fun k_ hk => .inl hk))
 have HR1 := Aside0.mk hr1
 have HC1 := Aside0.mk hc1
 clear hr1 hc1
 have HB := Aside0.mk (Below.refl w.heap.size w)
 have H : ((spec_l1Any.f k a0_0 l0_1).bind fun t265 => (if t265 = true then (spec_ValAt.l0 k l1 0 a0_0 l0_1) else (some (0, ([] : List (S25)), false)))) = some (r1, r2, r3) := h
 clear h
 obtain ⟨t265, A30, H⟩ := ob H
 have A3 := Aside0.mk A30
 clear A30
 by_cases c4 : t265 = true
 ·subst c4
  rw [if_pos rfl] at H
  have H' := Aside0.mk H
  clear H
  go_enter Try.func13, Try.ntmps13
  go_wp2_with (first | ((with_reducible refine gate_dst (N := 2) rfl ?_); refine zbx 2 #[.int .i64 a0_0, .slice A0_1 l0_1.length c0_1] 25 ?_; intro gb263 hg w5 hbox hb; replace HO0_1 := Aside0.mk (Kd.V_below (Kd.V_elderB (y10 HO0_1.out) gb263 (Nat.le_of_eq hg.symm)) hb); have BK263 := Aside0.mk hbox; have GW263 := Aside0.mk ((y9 hg HB.out : w.heap.size ≤ gb263)); have GE263 := Aside0.mk ((y9 hg HB.out : w.heap.size ≤ gb263)); replace HB := Aside0.mk (below_step (y5 HB.out) hb); clear hb hbox hg) | ((with_reducible refine gate_dst (N := 4) rfl ?_); refine zbx 4 #[.int .i64 0, .slice none 0 0] 25 ?_; intro gb264 hg w6 hbox hb; replace HO0_1 := Aside0.mk (Kd.V_below (Kd.V_elderB (y10 HO0_1.out) gb264 (Nat.le_of_eq hg.symm)) hb); have BK264 := Aside0.mk hbox; have GW264 := Aside0.mk ((y11 hg HB.out GE263.out : w.heap.size ≤ gb264)); have GE264 := Aside0.mk ((y11 hg HB.out GE263.out : w.heap.size ≤ gb264)); replace HB := Aside0.mk (below_step (y6 HB.out GE263.out) hb); have NB263_264 := zltn hg BK263; have NB264_263 := zgtn hg BK263; replace BK263 := zbb BK263 hb; clear hb hbox hg; have hnb7 := NB263_264.out; have hnc7 := NB264_263.out; have hcz8_0 := zh BK263; have hcz8_1 := zh1 BK263; have hfz8_0 := zfr BK263 0; have hfz8_1 := zfr BK263 1) | ((with_reducible refine gate_callee (f := 35) rfl ?_); refine goesL_ (some 8) rfl rfl Try.func35 (by kernel_rfl) rfl #[.agg #[.int .i64 a0_0, .slice A0_1 l0_1.length c0_1]] rfl y8 ?_; (with_reducible refine (spec_l1Any.calls k a0_0 _ _ l0_1 true _ ?side1 ?side2 A3.out).mono ?_); (case side1 => exact y35 HO0_1.out); (case side2 => exact (Kd.V_reads' HO0_1.out).2.1); rintro e w9 ⟨rfl, hb⟩; refine ⟨_, rfl, ?_⟩; replace HO0_1 := Aside0.mk (Kd.V_below (y10 HO0_1.out) hb); replace BK263 := zbb BK263 hb; replace BK264 := zbb BK264 hb; replace HB := Aside0.mk (below_step (y2 HB.out GE263.out GE264.out) hb); (try clear hb); (try clear hb2); (try clear hk); (try clear hi)))
  go_loopg [6] k (fun kq v6 w' => ∃ (x6_1 : Int) (x264000_1 : Int) (x264001_1 : List (S25)) (x265000_1 : Int) (u264001 : Value), v6 = .int .i64 x6_1 ∧ Aside0 (spec_ValAt.l0 kq l1 x6_1 x264000_1 x264001_1 = some (r1, r2, r3)) ∧ Aside0 (kq ≤ k) ∧ Aside0 (Kd.V k25 25 w' w.heap.size (fun k_ => (P0_1_ k_ ∨ w.heap.size ≤ k_) ∧ k_ ≠ gb263 ∧ k_ ≠ gb264) u264001 x264001_1) ∧ Aside0 (w'.heap[gb263]? = some (.cells #[.int .i64 x264000_1, u264001] 25 (0, 0))) ∧ Aside0 (w'.heap[gb264]? = some (.cells #[.int .i64 x265000_1, (.slice none 0 0)] 25 (0, 0))) ∧ Aside0 (Below w.heap.size w w'))
  case atStart => exact ⟨(0), (a0_0), (l0_1), (0), (.slice A0_1 l0_1.length c0_1), y34, H', ⟨Nat.le_refl _⟩, ⟨(y74 HO0_1.out)⟩, ⟨(y0 BK263.out)⟩, ⟨(y0 BK264.out)⟩, ⟨(y2 HB.out GE263.out GE264.out)⟩⟩
  case round =>
   clear H'
   try clear c1
   try clear p2
   try clear c3
   try clear c4
   try clear c7
   try clear hcz8_0
   try clear hcz8_1
   try clear hfz8_0
   try clear hfz8_1
   (try clear BK263); (try clear BK264)
   obtain ⟨x6_1, x264000_1, x264001_1, x265000_1, u264001, rfl, HA, HK1, HO_264001, BK263, BK264, HB⟩ := hrel
   cases gk with
   | zero => exact absurd HA.out (by simp [spec_ValAt.l0])
   | succ k1 =>
    have H := HA.out
    clear HA
    simp only [spec_ValAt.l0] at H
    by_cases c10 : x6_1 < (l1.length : Int)
    ·rw [if_pos c10] at H
     have c10b0 : decide (x6_1 < (l1.length : Int)) = true := decide_eq_true c10
     clear c10
     by_cases c11 : 0 ≤ x6_1
     ·rw [if_pos c11] at H
      have c11b0 : decide (0 ≤ x6_1) = true := decide_eq_true c11
      clear c11
      obtain ⟨t267, A120, H⟩ := ob H
      have A12 := Aside0.mk A120
      clear A120
      by_cases c13 : t267 = true
      ·subst c13
       rw [if_pos rfl] at H
       by_cases c14 : 0 ≤ (rd l1 x6_1)
       ·rw [if_pos c14] at H
        have c14b0 : decide (0 ≤ (rd l1 x6_1)) = true := decide_eq_true c14
        clear c14
        by_cases c15 : (rd l1 x6_1) < (x264001_1.length : Int)
        ·rw [if_pos c15] at H
         have c15b0 : decide ((rd l1 x6_1) < (x264001_1.length : Int)) = true := decide_eq_true c15
         clear c15
         have H' := Aside0.mk H
         clear H
         try go_wp2
         replace HO_264001 := Aside0.mk (Kd.V_drew HO_264001.out)
         replace BK263 := Aside0.mk (blk_drew BK263.out)
         replace BK264 := Aside0.mk (blk_drew BK264.out)
         replace HB := Aside0.mk (below_drew1 HB.out)
         have p266 : 0 ≤ (x6_1 : Int) := of_decide_eq_true y23
         have q266 : x6_1 < (l1.length : Int) := of_decide_eq_true y23
         obtain ⟨ad266, e266, hx266_0⟩ := Kd.at_int HR1.out x6_1 p266 q266
         have hw266_0 := hx266_0
         cases e266
         replace hx266_0 := (HB.out.cell (World.block_lt_of_cell? w _ hx266_0)).trans hx266_0
         replace p266 := eq_true p266
         replace q266 := eq_true q266
         obtain ⟨Ao17, co17, eo17⟩ := Kd.V_slice HO_264001.out
         (first | subst eo17 | (injection eo17 with f1_ f2_ f3_; have f4_ := f1_.symm; have f5_ := f3_.symm; clear f1_ f2_ f3_; subst f4_; subst f5_))
         refine start_ (n := 10) (S := fun w' => w'.cell? ⟨gb263, 0, none⟩ = some (.int .i64 x264000_1) ∧ w'.cell? ⟨gb263, 1, none⟩ = some (.slice Ao17 x264001_1.length co17) ∧ w'.cell? (ad266.add (x6_1).toNat) = some (.int .i64 (rd l1 x6_1))) (ds := []) #[false, false, false, false, false, false, false, false, false, false] (by kernel_rfl) rfl rfl ⟨(blk_cell BK263.out 0).trans rfl, (blk_cell BK263.out 1).trans rfl, ((HB.out.cell (World.block_lt_of_cell? w _ hw266_0)).trans hw266_0)⟩ (fun hHeld => ?_); refine with_tabW spec_ValAt.tab6 spec_ValAt.bits6 (fun HT_ HW_ => ?_)
         generalize wr.drew = w16 at HO_264001 BK263 BK264 HB hx266_0 hHeld ⊢
         refine zp 0 (some 17) HT_ ?_
         refine zp 1 (some 18) HT_ ?_
         refine zp 2 (some 19) HT_ ?_
         refine zp 4 (some 21) HT_ ?_
         refine zt3 3 (some 20) HT_ HW_ hHeld ?_
         refine zt3 5 (some 22) HT_ HW_ hHeld ?_
         refine zp 6 (some 23) HT_ ?_
         refine zp 7 (some 24) HT_ ?_
         refine one_ (i := 8) (N := some 25) #[true, true, true, true, true, true, true, true, true, false] rfl rfl (one_of HT_.out (by kernel_rfl)) (by decide) (fun K hK => ?_)
         refine goes_ Try.func36 (by kernel_rfl) rfl #[.int .i64 (rd l1 x6_1), .int .i64 0, .int .i64 (wrap64 ((x264001_1.length : Int) - 1))] (by rfl) rfl rfl y8 ?_
         with_reducible refine (spec_l6In.calls (rd l1 x6_1) 0 (wrap64 ((x264001_1.length : Int) - 1)) true _ A12.out).mono ?_
         rintro e w' ⟨rfl, ⟨nd, rfl⟩⟩
         refine ⟨_, rfl, ?_⟩
         refine hK.out _ _ ⟨(blk_cell BK263.out 0).trans rfl, (blk_cell BK263.out 1).trans rfl, ((HB.out.cell (World.block_lt_of_cell? w _ hw266_0)).trans hw266_0)⟩ (fun hHeld => ?_)
         clear hK K
         refine norm_ (a' := ?_) ?_ ?_
         rotate_left
         ·show Act.put _ (some 25) _ = _
          simp only [Act.put, List.setIfInBounds_toArray, List.set_cons_zero, List.set_cons_succ, i64_w, i32_w]
          rfl
         refine zp 9 (some 26) HT_ ?_
         refine done_ (done_of HT_.out (by kernel_rfl)) ?_
         try go_wp2
         (try (rw [drewN_self w16]; generalize hq_ : World.drewN w16 _ = w16; have n0_ : Aside0 (Kd.V k25 25 w16 w.heap.size (fun k_ => (P0_1_ k_ ∨ w.heap.size ≤ k_) ∧ k_ ≠ gb263 ∧ k_ ≠ gb264) (.slice Ao17 x264001_1.length co17) x264001_1) := ⟨(by rw [← hq_]; exact (y10 HO_264001.out))⟩; have n1_ : Aside0 (w16.heap[gb263]? = some (.cells #[.int .i64 x264000_1, .slice Ao17 x264001_1.length co17] 25 (0, 0))) := ⟨(by rw [← hq_]; exact (y0 BK263.out))⟩; have n2_ : Aside0 (w16.heap[gb264]? = some (.cells #[.int .i64 x265000_1, .slice none 0 0] 25 (0, 0))) := ⟨(by rw [← hq_]; exact (y0 BK264.out))⟩; have n3_ : Aside0 (Below w.heap.size w w16) := ⟨(by rw [← hq_]; exact (y2 HB.out GE263.out GE264.out))⟩; clear HO_264001 BK263 BK264 HB hq_; have HO_264001 := n0_; have BK263 := n1_; have BK264 := n2_; have HB := n3_; clear n0_ n1_ n2_ n3_))
         replace HO_264001 := Aside0.mk (Kd.V_drew HO_264001.out)
         replace BK263 := Aside0.mk (blk_drew BK263.out)
         replace BK264 := Aside0.mk (blk_drew BK264.out)
         replace HB := Aside0.mk (below_drew1 HB.out)
         have p268 : 0 ≤ (x6_1 : Int) := of_decide_eq_true y23
         have q268 : x6_1 < (l1.length : Int) := of_decide_eq_true y23
         obtain ⟨ad268, e268, hx268_0⟩ := Kd.at_int HR1.out x6_1 p268 q268
         have hw268_0 := hx268_0
         obtain rfl : ad266 = ad268 := (by injection e268)
         replace hx268_0 := (HB.out.cell (World.block_lt_of_cell? w _ hx268_0)).trans hx268_0
         replace p268 := eq_true p268
         replace q268 := eq_true q268
         have p269 : 0 ≤ ((rd l1 x6_1) : Int) := of_decide_eq_true y23
         have q269 : (rd l1 x6_1) < (x264001_1.length : Int) := of_decide_eq_true y23
         obtain ⟨ad269, A269_1, c269_1, e269, hx269_0, hx269_1, hl269_1, hi269_1⟩ := at_T25 (Kd.V_reads' HO_264001.out).2.2 (rd l1 x6_1) p269 q269
         cases e269
         obtain ⟨ce269, hce269, hMe269, hcc269⟩ := Kd.V_get HO_264001.out z25 (rd l1 x6_1) p269 (by first | exact q269 | exact of_decide_eq_true y23 | (have e_ := (Kd.V_reads' HO_264001.out).1; omega))
         obtain ⟨ua269_1, uc269_1, rfl, ul269_1, ge269_1⟩ := k25_openF hMe269
         have hv269_1 := hcc269 1 _ rfl
         rw [add_field _ _ 1 (by omega)] at hv269_1
         replace hv269_1 := Option.some.inj (hv269_1.symm.trans hx269_1)
         injection hv269_1 with hva_ hvn_ hvc_
         rw [hva_] at ge269_1
         rw [hvc_] at ul269_1
         have HL269_1 := Aside0.mk (show Kd.V k25 25 _ w.heap.size _ _ ((rd_T25 x264001_1 (rd l1 x6_1)).f1) from Kd.V_mk ul269_1 ge269_1)
         clear hva_ hvn_ hvc_ ge269_1 ul269_1
         clear hcc269 hce269
         have HR269_1 := Aside0.mk hi269_1
         have HC269_1 := Aside0.mk hl269_1
         clear hi269_1 hl269_1
         replace p269 := eq_true p269
         replace q269 := eq_true q269
         refine start_ (n := 9) (S := fun w' => w'.cell? ⟨gb263, 0, none⟩ = some (.int .i64 x264000_1) ∧ w'.cell? ⟨gb263, 1, none⟩ = some (.slice (some ad269) x264001_1.length co17) ∧ w'.cell? (ad266.add (x6_1).toNat) = some (.int .i64 (rd l1 x6_1)) ∧ w'.cell? (ad269.add (((rd l1 x6_1)).toNat * 2)) = some (.int .i64 ((rd_T25 x264001_1 (rd l1 x6_1)).f0)) ∧ w'.cell? ⟨(ad269.add (((rd l1 x6_1)).toNat * 2)).block, (ad269.add (((rd l1 x6_1)).toNat * 2)).off + 1, none⟩ = some (.slice A269_1 ((rd_T25 x264001_1 (rd l1 x6_1)).f1).length c269_1)) (ds := [8]) #[false, false, false, false, false, false, false, false, false] (by kernel_rfl) rfl rfl ⟨(blk_cell BK263.out 0).trans rfl, (blk_cell BK263.out 1).trans rfl, ((HB.out.cell (World.block_lt_of_cell? w _ hw268_0)).trans hw268_0), hx269_0, hx269_1⟩ (fun hHeld => ?_); refine with_tabW spec_ValAt.tab8 spec_ValAt.bits8 (fun HT_ HW_ => ?_)
         generalize w16.drew = w18 at HO_264001 BK263 BK264 HB HL269_1 HR269_1 hx268_0 hx269_0 hx269_1 hHeld ⊢
         refine zp 0 (some 28) HT_ ?_
         refine zp 2 (some 30) HT_ ?_
         refine zp 3 (some 31) HT_ ?_
         refine zp 4 (some 32) HT_ ?_
         refine zt5 1 (some 29) HT_ HW_ hHeld ?_
         refine zt5 5 (some 33) HT_ HW_ hHeld ?_
         refine zp 6 (some 34) HT_ ?_
         refine zt5 7 (some 35) HT_ HW_ hHeld ?_
         refine last_ (i := 8) (N := none) #[true, true, true, true, true, true, true, true, true] rfl rfl (one_of HT_.out (by kernel_rfl)) (by decide) (fun K hK => ?_)
         have hs19 : w18.cell? ⟨gb263, 0, none⟩ = some (.int .i64 x264000_1) := (blk_cell BK263.out 0).trans rfl
         have hfs19 := zfr BK263 0
         have hns19_1 := NB264_263.out
         have hms19_1 := NB263_264.out
         have hs20 : w18.cell? ⟨gb263, 1, none⟩ = some (.slice (some ad269) x264001_1.length co17) := (blk_cell BK263.out 1).trans rfl
         have hfs20 := zfr BK263 1
         have hns20_1 := NB264_263.out
         have hms20_1 := NB263_264.out
         refine skip_ (w1 := ?_) (by rfl) rfl ?_ ?_
         rotate_left
         ·go_simp
          rfl
         refine hK.out _ _ ?_
         clear hK K
         refine done_ (done_of HT_.out (by kernel_rfl)) ?_
         try go_wp2
         go_roundg k1
         case measure => have := HK1.out; omega
         case rel => exact ⟨(wrap64 (x6_1 + 1)), ((rd_T25 x264001_1 (rd l1 x6_1)).f0), ((rd_T25 x264001_1 (rd l1 x6_1)).f1), (x265000_1), (.slice A269_1 ((rd_T25 x264001_1 (rd l1 x6_1)).f1).length c269_1), y34, H', ⟨(y57 HK1.out)⟩, ⟨(by (with_reducible repeat (first | apply Kd.V_alloc | apply Kd.V_drewN | apply Kd.V_drew)); exact Kd.V_mono (Kd.V_far (p := ⟨gb263, 1, none⟩) (Kd.V_far (p := ⟨gb263, 0, none⟩) (Kd.V_mono HL269_1.out (fun k_ hk => (⟨hk, hk.2.1⟩ : _ ∧ k_ ≠ gb263))) (fun _ hk => hk.2) (.int .i64 ((rd_T25 x264001_1 (rd l1 x6_1)).f0))) (fun _ hk => hk.2) (.slice A269_1 ((rd_T25 x264001_1 (rd l1 x6_1)).f1).length c269_1)) (fun _ hk => ⟨hk.1.1, ⟨hk.1.2.1, hk.1.2.2⟩⟩))⟩, ⟨(by (with_reducible repeat (first | refine blk_drewN ?_ _ | refine blk_drew ?_ | refine blk_alloc ?_ _)); refine blk_put (cs := #[.int .i64 ((rd_T25 x264001_1 (rd l1 x6_1)).f0), .slice (some ad269) x264001_1.length co17]) ?_ 1 _ rfl; (with_reducible repeat (first | refine blk_drewN ?_ _ | refine blk_drew ?_ | refine blk_alloc ?_ _)); refine blk_put (cs := #[.int .i64 x264000_1, .slice (some ad269) x264001_1.length co17]) ?_ 0 _ rfl; (with_reducible repeat (first | refine blk_drewN ?_ _ | refine blk_drew ?_ | refine blk_alloc ?_ _)); exact BK263.out)⟩, ⟨(y1 NB264_263.out BK264.out)⟩, ⟨(y2 HB.out GE263.out GE264.out)⟩⟩
        ·rw [if_neg c15] at H
         exact absurd H (by simp)
       ·rw [if_neg c14] at H
        exact absurd H (by simp)
      ·replace c13 := Bool.eq_false_iff.mpr c13
       subst c13
       rw [if_neg (show ¬ (false = true) by decide)] at H
       simp only [Option.some.injEq, Prod.mk.injEq] at H
       obtain ⟨rfl, rfl, rfl⟩ := H
       try go_wp2
       replace HO_264001 := Aside0.mk (Kd.V_drew HO_264001.out)
       replace BK263 := Aside0.mk (blk_drew BK263.out)
       replace BK264 := Aside0.mk (blk_drew BK264.out)
       replace HB := Aside0.mk (below_drew1 HB.out)
       have p266 : 0 ≤ (x6_1 : Int) := of_decide_eq_true y23
       have q266 : x6_1 < (l1.length : Int) := of_decide_eq_true y23
       obtain ⟨ad266, e266, hx266_0⟩ := Kd.at_int HR1.out x6_1 p266 q266
       have hw266_0 := hx266_0
       cases e266
       replace hx266_0 := (HB.out.cell (World.block_lt_of_cell? w _ hx266_0)).trans hx266_0
       replace p266 := eq_true p266
       replace q266 := eq_true q266
       obtain ⟨Ao22, co22, eo22⟩ := Kd.V_slice HO_264001.out
       (first | subst eo22 | (injection eo22 with f1_ f2_ f3_; have f4_ := f1_.symm; have f5_ := f3_.symm; clear f1_ f2_ f3_; subst f4_; subst f5_))
       refine start_ (n := 10) (S := fun w' => w'.cell? ⟨gb263, 0, none⟩ = some (.int .i64 x264000_1) ∧ w'.cell? ⟨gb263, 1, none⟩ = some (.slice Ao22 x264001_1.length co22) ∧ w'.cell? (ad266.add (x6_1).toNat) = some (.int .i64 (rd l1 x6_1))) (ds := []) #[false, false, false, false, false, false, false, false, false, false] (by kernel_rfl) rfl rfl ⟨(blk_cell BK263.out 0).trans rfl, (blk_cell BK263.out 1).trans rfl, ((HB.out.cell (World.block_lt_of_cell? w _ hw266_0)).trans hw266_0)⟩ (fun hHeld => ?_); refine with_tabW spec_ValAt.tab6 spec_ValAt.bits6 (fun HT_ HW_ => ?_)
       generalize wr.drew = w21 at HO_264001 BK263 BK264 HB hx266_0 hHeld ⊢
       refine zp 0 (some 17) HT_ ?_
       refine zp 1 (some 18) HT_ ?_
       refine zp 2 (some 19) HT_ ?_
       refine zp 4 (some 21) HT_ ?_
       refine zt3 3 (some 20) HT_ HW_ hHeld ?_
       refine zt3 5 (some 22) HT_ HW_ hHeld ?_
       refine zp 6 (some 23) HT_ ?_
       refine zp 7 (some 24) HT_ ?_
       refine one_ (i := 8) (N := some 25) #[true, true, true, true, true, true, true, true, true, false] rfl rfl (one_of HT_.out (by kernel_rfl)) (by decide) (fun K hK => ?_)
       refine goes_ Try.func36 (by kernel_rfl) rfl #[.int .i64 (rd l1 x6_1), .int .i64 0, .int .i64 (wrap64 ((x264001_1.length : Int) - 1))] (by rfl) rfl rfl y8 ?_
       with_reducible refine (spec_l6In.calls (rd l1 x6_1) 0 (wrap64 ((x264001_1.length : Int) - 1)) false _ A12.out).mono ?_
       rintro e w' ⟨rfl, ⟨nd, rfl⟩⟩
       refine ⟨_, rfl, ?_⟩
       refine hK.out _ _ ⟨(blk_cell BK263.out 0).trans rfl, (blk_cell BK263.out 1).trans rfl, ((HB.out.cell (World.block_lt_of_cell? w _ hw266_0)).trans hw266_0)⟩ (fun hHeld => ?_)
       clear hK K
       refine norm_ (a' := ?_) ?_ ?_
       rotate_left
       ·show Act.put _ (some 25) _ = _
        simp only [Act.put, List.setIfInBounds_toArray, List.set_cons_zero, List.set_cons_succ, i64_w, i32_w]
        rfl
       refine zp 9 (some 26) HT_ ?_
       refine done_ (done_of HT_.out (by kernel_rfl)) ?_
       have hnb23 := NB264_263.out
       have hnc23 := NB263_264.out
       have hcz24_0 := zh BK264
       have hcz24_1 := zh1 BK264
       have hfz24_0 := zfr BK264 0
       have hfz24_1 := zfr BK264 1
       try go_wp2
       refine bodyPost_ret (results_ct rfl _ _ gb264 25 #[.int .i64 0, .slice none 0 0] (0, 0) _ rfl (by (with_reducible repeat (first | refine blk_drewN ?_ _ | refine blk_drew ?_ | refine blk_alloc ?_ _)); refine blk_put (cs := #[.int .i64 0, .slice none 0 0]) ?_ 1 _ rfl; (with_reducible repeat (first | refine blk_drewN ?_ _ | refine blk_drew ?_ | refine blk_alloc ?_ _)); apply blk_put (i := 0); (case h => exact y0 BK264.out); (case e => rfl)) Try.underlying25 rfl (by kernel_rfl)) rfl ?_
       exact ⟨_, y19, y37, (y2 HB.out GE263.out GE264.out)⟩
     ·rw [if_neg c11] at H
      exact absurd H (by simp)
    ·rw [if_neg c10] at H
     have c10b0 : decide (x6_1 < (l1.length : Int)) = false := decide_eq_false c10
     clear c10
     obtain ⟨⟨t270, t271⟩, A250, H⟩ := ob H
     have A25 := Aside0.mk A250
     clear A250
     simp only [Option.some.injEq, Prod.mk.injEq] at H
     obtain ⟨rfl, rfl, rfl⟩ := H
     have hnb26 := NB263_264.out
     have hnc26 := NB264_263.out
     have hcz27_0 := zh BK263
     have hcz27_1 := zh1 BK263
     have hfz27_0 := zfr BK263 0
     have hfz27_1 := zfr BK263 1
     obtain ⟨Ao28, co28, eo28⟩ := Kd.V_slice HO_264001.out
     subst eo28
     go_wp2_with (first | ((with_reducible refine gate_callee (f := 37) rfl ?_); refine goesL_ (some 37) rfl rfl Try.func37 (by kernel_rfl) rfl #[.agg #[.int .i64 x264000_1, .slice Ao28 x264001_1.length co28]] rfl y8 ?_; (with_reducible refine (spec_l1Anew.calls k1 x264000_1 _ _ x264001_1 t270 t271 _ ?side1 ?side2 A25.out).mono ?_); (case side1 => exact y35 HO_264001.out); (case side2 => exact (Kd.V_reads' HO_264001.out).2.1); rintro e w29 ⟨v272, rfl, ho0, hb⟩; refine ⟨_, rfl, ?_⟩; replace HO_264001 := Aside0.mk (Kd.V_elder' (y10 HO_264001.out) (Kd.R_base ho0) hb); have HO273 := Aside0.mk (Kd.R_lower (Kd.R_newB (Kd.R_newB (Kd.R_newM (M := fun k_ => (w.heap.size ≤ k_)) ho0 (below_size (y2 HB.out GE263.out GE264.out)) (fun k_ h_ => h_)) (g := gb263) (o := .cells #[.int .i64 x264000_1, .slice Ao28 x264001_1.length co28] 25 (0, 0)) (y0 BK263.out)) (g := gb264) (o := .cells #[.int .i64 x265000_1, .slice none 0 0] 25 (0, 0)) (y0 BK264.out)) (below_size (y2 HB.out GE263.out GE264.out))); replace BK263 := zbb BK263 hb; replace BK264 := zbb BK264 hb; replace HB := Aside0.mk (below_step (y2 HB.out GE263.out GE264.out) hb); (try clear hb); (try clear hb2); (try clear hk); (try clear hi); (try clear ho0); have hcz30_0 := zh BK264; have hcz30_1 := zh1 BK264; have hfz30_0 := zfr BK264 0; have hfz30_1 := zfr BK264 1; obtain ⟨Ao31, co31, eo31⟩ := Kd.R_slice HO273.out; subst eo31))
     refine bodyPost_ret (results_ct rfl _ _ gb264 25 #[.int .i64 t270, .slice Ao31 t271.length co31] (0, 0) _ rfl (by (with_reducible repeat (first | refine blk_drewN ?_ _ | refine blk_drew ?_ | refine blk_alloc ?_ _)); refine blk_put (cs := #[.int .i64 t270, .slice none 0 0]) ?_ 1 _ rfl; (with_reducible repeat (first | refine blk_drewN ?_ _ | refine blk_drew ?_ | refine blk_alloc ?_ _)); apply blk_put (i := 0); (case h => exact y0 BK264.out); (case e => rfl)) Try.underlying25 rfl (by kernel_rfl)) rfl ?_
     exact ⟨_, y19, (by (with_reducible repeat (first | apply Kd.R_alloc | apply Kd.R_drewN | apply Kd.R_drew)); exact Kd.R_mono (Kd.R_far (p := ⟨gb264, 1, none⟩) (Kd.R_far (p := ⟨gb264, 0, none⟩) (Kd.R_mono HO273.out (fun k_ hk => (⟨hk, hk.2⟩ : _ ∧ k_ ≠ gb264))) (fun _ hk => hk.2) (.int .i64 t270)) (fun _ hk => hk.2) (.slice Ao31 t271.length co31)) (fun _ hk => hk.1.1.1.1)), (y2 HB.out GE263.out GE264.out)⟩
 ·replace c4 := Bool.eq_false_iff.mpr c4
  subst c4
  rw [if_neg (show ¬ (false = true) by decide)] at H
  simp only [Option.some.injEq, Prod.mk.injEq] at H
  obtain ⟨rfl, rfl, rfl⟩ := H
  go_enter Try.func13, Try.ntmps13
  go_wp2_with (first | ((with_reducible refine gate_dst (N := 2) rfl ?_); refine zbx 2 #[.int .i64 a0_0, .slice A0_1 l0_1.length c0_1] 25 ?_; intro gb263 hg w32 hbox hb; replace HO0_1 := Aside0.mk (Kd.V_below (Kd.V_elderB (y10 HO0_1.out) gb263 (Nat.le_of_eq hg.symm)) hb); have BK263 := Aside0.mk hbox; have GW263 := Aside0.mk ((y9 hg HB.out : w.heap.size ≤ gb263)); have GE263 := Aside0.mk ((y9 hg HB.out : w.heap.size ≤ gb263)); replace HB := Aside0.mk (below_step (y5 HB.out) hb); clear hb hbox hg) | ((with_reducible refine gate_dst (N := 4) rfl ?_); refine zbx 4 #[.int .i64 0, .slice none 0 0] 25 ?_; intro gb264 hg w33 hbox hb; replace HO0_1 := Aside0.mk (Kd.V_below (Kd.V_elderB (y10 HO0_1.out) gb264 (Nat.le_of_eq hg.symm)) hb); have BK264 := Aside0.mk hbox; have GW264 := Aside0.mk ((y11 hg HB.out GE263.out : w.heap.size ≤ gb264)); have GE264 := Aside0.mk ((y11 hg HB.out GE263.out : w.heap.size ≤ gb264)); replace HB := Aside0.mk (below_step (y6 HB.out GE263.out) hb); have NB263_264 := zltn hg BK263; have NB264_263 := zgtn hg BK263; replace BK263 := zbb BK263 hb; clear hb hbox hg; have hnb34 := NB263_264.out; have hnc34 := NB264_263.out; have hcz35_0 := zh BK263; have hcz35_1 := zh1 BK263; have hfz35_0 := zfr BK263 0; have hfz35_1 := zfr BK263 1) | ((with_reducible refine gate_callee (f := 35) rfl ?_); refine goesL_ (some 8) rfl rfl Try.func35 (by kernel_rfl) rfl #[.agg #[.int .i64 a0_0, .slice A0_1 l0_1.length c0_1]] rfl y8 ?_; (with_reducible refine (spec_l1Any.calls k a0_0 _ _ l0_1 false _ ?side1 ?side2 A3.out).mono ?_); (case side1 => exact y35 HO0_1.out); (case side2 => exact (Kd.V_reads' HO0_1.out).2.1); rintro e w36 ⟨rfl, hb⟩; refine ⟨_, rfl, ?_⟩; replace HO0_1 := Aside0.mk (Kd.V_below (y10 HO0_1.out) hb); replace BK263 := zbb BK263 hb; replace BK264 := zbb BK264 hb; replace HB := Aside0.mk (below_step (y2 HB.out GE263.out GE264.out) hb); (try clear hb); (try clear hb2); (try clear hk); (try clear hi); have hcz37_0 := zh BK264; have hcz37_1 := zh1 BK264; have hfz37_0 := zfr BK264 0; have hfz37_1 := zfr BK264 1))
  refine bodyPost_ret (results_ct rfl _ _ gb264 25 #[.int .i64 0, .slice none 0 0] (0, 0) _ rfl (by (with_reducible repeat (first | refine blk_drewN ?_ _ | refine blk_drew ?_ | refine blk_alloc ?_ _)); refine blk_put (cs := #[.int .i64 0, .slice none 0 0]) ?_ 1 _ rfl; (with_reducible repeat (first | refine blk_drewN ?_ _ | refine blk_drew ?_ | refine blk_alloc ?_ _)); apply blk_put (i := 0); (case h => exact y0 BK264.out); (case e => rfl)) Try.underlying25 rfl (by kernel_rfl)) rfl ?_
  exact ⟨_, y19, y37, (y2 HB.out GE263.out GE264.out)⟩
end Go.Proofs.Ythfflieeifakdaa.PA
end
section
namespace Go.Proofs.Ythfflieeifakdaa.PA
open Go.RowKit Go.Proofs.YthfflieeifakdaaW.PrintWords Go.Proofs.YthfflieeifakdaaW.PrintLast Go.Proofs.YthfflieeifakdaaW.PrintMore
attribute [local go_sem] max2_int min2_int max_two min_two max_three min_three max_four min_four
set_option linter.unusedVariables false
set_option linter.unusedSimpArgs false
mutual
def impl_valType.j0 : Nat → Int → Bool → Int → List (S25) → Option ((List (S50)) × Bool)
 | 0, _, _, _, _ => none
 | k + 1, x1, x34, x275000, x275001 => if x34 = true then (some (([] : List (S50)), false)) else (if 0 < (x275001.length : Int) then ((impl_valType.f k ((rd_T25 x275001 0).f0) ((rd_T25 x275001 0).f1) (wrap64 (x1 - 1))).bind fun bt277 => (if 1 < (x275001.length : Int) then ((impl_valType.f k ((rd_T25 x275001 1).f0) ((rd_T25 x275001 1).f1) (wrap64 (x1 - 1))).bind fun bt283 => (if bt277.2 = true then (if bt283.2 = true then (some ((([(⟨bt277.1⟩ : S50), (⟨bt283.1⟩ : S50)] : List (S50))), true)) else (some (([] : List (S50)), false))) else (some (([] : List (S50)), false)))) else (none))) else (none))
def impl_valType.f : Nat → Int → List (S25) → Int → Option ((List (S50)) × Bool)
 | 0, _, _, _ => none
 | k + 1, a0_0, l0_1, a1 => if a1 < 1 then (some (([] : List (S50)), false)) else (if (l0_1.length : Int) = 0 then (if a0_0 ≥ 0 then (some (([] : List (S50)), decide (a0_0 ≤ 9999))) else (some (([] : List (S50)), false))) else (if (l0_1.length : Int) = 2 then (impl_valType.j0 k a1 (a0_0 != 0) a0_0 l0_1) else (impl_valType.j0 k a1 true a0_0 l0_1)))
end
theorem impl_valType.mono_l : ∀ k, (∀ y0 y1 y2, LeO (impl_valType.f k y0 y1 y2) (impl_valType.f (k + 1) y0 y1 y2)) ∧ (∀ y0 y1 y2 y3, LeO (impl_valType.j0 k y0 y1 y2 y3) (impl_valType.j0 (k + 1) y0 y1 y2 y3))
 | 0 => ⟨fun _ _ _ r h => by simp [impl_valType.f] at h, fun _ _ _ _ r h => by simp [impl_valType.j0] at h⟩
 | k + 1 => by
  obtain ⟨ih0, ih1⟩ := impl_valType.mono_l k
  refine ⟨?_, ?_⟩
  ·intro y0 y1 y2
   unfold impl_valType.f
   repeat' first
   | (with_reducible exact ih0 _ _ _)
   | (with_reducible exact ih1 _ _ _ _)
   | (with_reducible exact LeO.refl _)
   | (with_reducible exact LeO.none _)
   | (with_reducible refine LeO.ite ?_ ?_)
   | (with_reducible refine LeO.bind ?_ (fun _ => ?_))
   | exact ih0 _ _ _
   | exact ih1 _ _ _ _
   | exact LeO.none _
   | refine LeO.ite ?_ ?_
   | refine LeO.bind ?_ (fun _ => ?_)
  ·intro y0 y1 y2 y3
   unfold impl_valType.j0
   repeat' first
   | (with_reducible exact ih0 _ _ _)
   | (with_reducible exact ih1 _ _ _ _)
   | (with_reducible exact LeO.refl _)
   | (with_reducible exact LeO.none _)
   | (with_reducible refine LeO.ite ?_ ?_)
   | (with_reducible refine LeO.bind ?_ (fun _ => ?_))
   | exact ih0 _ _ _
   | exact ih1 _ _ _ _
   | exact LeO.none _
   | refine LeO.ite ?_ ?_
   | refine LeO.bind ?_ (fun _ => ?_)
theorem impl_valType.mono : ∀ a0 a1 a2 k, LeO (impl_valType.f k a0 a1 a2) (impl_valType.f (k + 1) a0 a1 a2) := by
 intro a0 a1 a2 k
 obtain ⟨ih0, ih1⟩ := impl_valType.mono_l k
 exact ih0 a0 a1 a2
def impl_valType.T4 : Bool × List (List Nat × List Nat) := (true, [([], []), ([], []), ([1], [1]), ([2], [2]), ([3], [3]), ([4], [4]), ([5, 4], [4, 5]), ([6, 4], [4, 6]), ([4, 7], [4, 7]), ([0, 4, 0], [0]), ([8, 9, 0, 1, 2, 3, 4, 5, 6, 7, 8, 9], [8])])
def impl_valType.B4 : List Nat := [0, 0, 2, 6, 14, 30, 62, 126, 254, 31, 1023]
theorem impl_valType.tab4 : rtab .any (opsOf Try.f57 4) = impl_valType.T4 := by kernel_rfl
theorem impl_valType.bits4 : waitsOk impl_valType.T4.2 impl_valType.B4 = true := by kernel_rfl
set_option maxHeartbeats 8000000 in
set_option maxRecDepth 100000 in
theorem impl_valType.calls (k : Nat) : ∀ (a0_0 : Int) (A0_1 : Option Addr) (c0_1 : Nat) (l0_1 : List (S25)) (a1 : Int) (r1 : List (S50)) (r2 : Bool) (w : World) (hr0_1 : Kd.C k25 w A0_1 l0_1.length l0_1) (hc0_1 : l0_1.length ≤ c0_1) (h : impl_valType.f k a0_0 l0_1 a1 = some (r1, r2)),
  Calls Try.prog 57 #[.agg #[.int .i64 a0_0, .slice A0_1 l0_1.length c0_1], .int .i64 a1] w fun e w' => ∃ v0_ : Value, e = .returned (.tuple #[.agg #[v0_], .bool r2]) ∧ Kd.N k50 50 w' w.heap.size (fun k_ => (w.heap.size ≤ k_)) v0_ r1 ∧ Below w.heap.size w w' := by
 induction k using Nat.strongRecOn with
 | _ k ih =>
 intro a0_0 A0_1 c0_1 l0_1 a1 r1 r2 w hr0_1 hc0_1 h
 cases k with
 | zero => exact absurd h (by simp [impl_valType.f])
 | succ k =>
 simp only [impl_valType.f] at h
 have hu25 := Try.underlying25
 have hu50 := Try.underlying50
 have HR0_1 := Aside0.mk hr0_1
 have HC0_1 := Aside0.mk hc0_1
 clear hr0_1 hc0_1
 have HB := Aside0.mk (Below.refl w.heap.size w)
 have H : (if a1 < 1 then (some (([] : List (S50)), false)) else (if (l0_1.length : Int) = 0 then (if a0_0 ≥ 0 then (some (([] : List (S50)), decide (a0_0 ≤ 9999))) else (some (([] : List (S50)), false))) else (if (l0_1.length : Int) = 2 then (impl_valType.j0 k a1 (a0_0 != 0) a0_0 l0_1) else (impl_valType.j0 k a1 true a0_0 l0_1)))) = some (r1, r2) := h
 clear h
 by_cases c3 : a1 < 1
 ·rw [if_pos c3] at H
  have c3b0 : decide (a1 < 1) = true := decide_eq_true c3
  clear c3
  simp only [Option.some.injEq, Prod.mk.injEq] at H
  obtain ⟨rfl, rfl⟩ := H
  go_enter Try.func57, Try.ntmps57
  go_wp2_with (first | ((with_reducible refine gate_dst (N := 2) rfl ?_); refine zbx 2 #[.int .i64 a0_0, .slice A0_1 l0_1.length c0_1] 25 ?_; intro gb274 hg w4 hbox hb; have BK274 := Aside0.mk hbox; have GW274 := Aside0.mk ((y9 hg HB.out : w.heap.size ≤ gb274)); have GE274 := Aside0.mk ((y9 hg HB.out : w.heap.size ≤ gb274)); replace HB := Aside0.mk (below_step (y5 HB.out) hb); clear hb hbox hg) | ((with_reducible refine gate_dst (N := 4) rfl ?_); refine zbx 4 #[.slice none 0 0] 50 ?_; intro gb275 hg w5 hbox hb; have BK275 := Aside0.mk hbox; have GW275 := Aside0.mk ((y11 hg HB.out GE274.out : w.heap.size ≤ gb275)); have GE275 := Aside0.mk ((y11 hg HB.out GE274.out : w.heap.size ≤ gb275)); replace HB := Aside0.mk (below_step (y6 HB.out GE274.out) hb); have NB274_275 := zltn hg BK274; have NB275_274 := zgtn hg BK274; replace BK274 := zbb BK274 hb; clear hb hbox hg; have hnb6 := NB275_274.out; have hnc6 := NB274_275.out; have hcz7_0 := zh BK275; have hfz7_0 := zfr BK275 0))
  refine bodyPost_ret (results_ct rfl _ _ gb275 50 #[.slice none 0 0] (0, 0) _ rfl (by (with_reducible repeat (first | refine blk_drewN ?_ _ | refine blk_drew ?_ | refine blk_alloc ?_ _)); apply blk_put (i := 0); (case h => exact y0 BK275.out); (case e => rfl)) Try.underlying50 rfl (by kernel_rfl)) rfl ?_
  exact ⟨_, y19, y37, (y2 HB.out GE274.out GE275.out)⟩
 ·rw [if_neg c3] at H
  have c3b0 : decide (a1 < 1) = false := decide_eq_false c3
  clear c3
  by_cases c8 : (l0_1.length : Int) = 0
  ·rw [if_pos c8] at H
   have c8b0 : ((l0_1.length : Int) == 0) = true := beq_iff_eq.mpr c8
   have c8b1 : ((l0_1.length : Int) != 0) = false := bne_eq_false_iff_eq.mpr c8
   clear c8
   by_cases c9 : a0_0 ≥ 0
   ·rw [if_pos c9] at H
    have c9b0 : decide (0 ≤ a0_0) = true := decide_eq_true c9
    clear c9
    simp only [Option.some.injEq, Prod.mk.injEq] at H
    obtain ⟨rfl, rfl⟩ := H
    go_enter Try.func57, Try.ntmps57
    try go_wp2_with (first | ((with_reducible refine gate_dst (N := 2) rfl ?_); refine zbx 2 #[.int .i64 a0_0, .slice A0_1 l0_1.length c0_1] 25 ?_; intro gb274 hg w10 hbox hb; have BK274 := Aside0.mk hbox; have GW274 := Aside0.mk ((y9 hg HB.out : w.heap.size ≤ gb274)); have GE274 := Aside0.mk ((y9 hg HB.out : w.heap.size ≤ gb274)); replace HB := Aside0.mk (below_step (y5 HB.out) hb); clear hb hbox hg) | ((with_reducible refine gate_dst (N := 4) rfl ?_); refine zbx 4 #[.slice none 0 0] 50 ?_; intro gb275 hg w11 hbox hb; have BK275 := Aside0.mk hbox; have GW275 := Aside0.mk ((y11 hg HB.out GE274.out : w.heap.size ≤ gb275)); have GE275 := Aside0.mk ((y11 hg HB.out GE274.out : w.heap.size ≤ gb275)); replace HB := Aside0.mk (below_step (y6 HB.out GE274.out) hb); have NB274_275 := zltn hg BK274; have NB275_274 := zgtn hg BK274; replace BK274 := zbb BK274 hb; clear hb hbox hg; have hnb12 := NB274_275.out; have hnc12 := NB275_274.out; have hcz13_0 := zh BK274; have hcz13_1 := zh1 BK274; have hfz13_0 := zfr BK274 0; have hfz13_1 := zfr BK274 1))
    replace BK274 := Aside0.mk (blk_drew BK274.out)
    replace BK275 := Aside0.mk (blk_drew BK275.out)
    replace HB := Aside0.mk (below_drew1 HB.out)
    refine start_ (n := 11) (S := fun w' => w'.cell? ⟨gb274, 0, none⟩ = some (.int .i64 a0_0) ∧ w'.cell? ⟨gb274, 1, none⟩ = some (.slice A0_1 l0_1.length c0_1)) (ds := []) #[false, false, false, false, false, false, false, false, false, false, false] (by kernel_rfl) rfl rfl ⟨(blk_cell BK274.out 0).trans rfl, (blk_cell BK274.out 1).trans rfl⟩ (fun hHeld => ?_); refine with_tabW impl_valType.tab4 impl_valType.bits4 (fun HT_ HW_ => ?_)
    generalize w11.drew = w14 at BK274 BK275 HB hHeld ⊢
    refine zp 0 (some 17) HT_ ?_
    refine zp 1 (some 18) HT_ ?_
    refine zt2 2 (some 19) HT_ HW_ hHeld ?_
    refine zp 3 (some 20) HT_ ?_
    refine zp 4 (some 21) HT_ ?_
    refine zp 5 (some 22) HT_ ?_
    refine zt2 6 (some 23) HT_ HW_ hHeld ?_
    refine zp 7 (some 24) HT_ ?_
    refine zp 8 (some 25) HT_ ?_
    refine one_ (i := 9) (N := none) #[true, true, true, true, true, true, true, true, true, true, false] rfl rfl (one_of HT_.out (by kernel_rfl)) (by decide) (fun K hK => ?_)
    have hs15 : w14.cell? ⟨gb275, 0, none⟩ = some (.slice none 0 0) := (blk_cell BK275.out 0).trans rfl
    have hfs15 := zfr BK275 0
    have hns15_0 := NB274_275.out
    have hms15_0 := NB275_274.out
    refine skip_ (w1 := ?_) (by rfl) rfl ?_ ?_
    rotate_left
    ·go_simp
     rfl
    refine hK.out _ _ ⟨((cell_far (p := ⟨gb275, _, none⟩) NB274_275.out _).trans (hHeld.1)), ((cell_far (p := ⟨gb275, _, none⟩) NB274_275.out _).trans (hHeld.2))⟩ (fun hHeld => ?_)
    clear hK K
    refine zp 10 (some 5) HT_ ?_
    refine done_ (done_of HT_.out (by kernel_rfl)) ?_
    try go_wp2
    refine bodyPost_ret (results_ct rfl _ _ gb275 50 #[.slice none 0 0] (0, 0) _ rfl (by (with_reducible repeat (first | refine blk_drewN ?_ _ | refine blk_drew ?_ | refine blk_alloc ?_ _)); apply blk_put (i := 0); (case h => exact y0 BK275.out); (case e => rfl)) Try.underlying50 rfl (by kernel_rfl)) rfl ?_
    exact ⟨_, y19, y37, (y2 HB.out GE274.out GE275.out)⟩
   ·rw [if_neg c9] at H
    have c9b0 : decide (0 ≤ a0_0) = false := decide_eq_false c9
    clear c9
    simp only [Option.some.injEq, Prod.mk.injEq] at H
    obtain ⟨rfl, rfl⟩ := H
    go_enter Try.func57, Try.ntmps57
    try go_wp2_with (first | ((with_reducible refine gate_dst (N := 2) rfl ?_); refine zbx 2 #[.int .i64 a0_0, .slice A0_1 l0_1.length c0_1] 25 ?_; intro gb274 hg w16 hbox hb; have BK274 := Aside0.mk hbox; have GW274 := Aside0.mk ((y9 hg HB.out : w.heap.size ≤ gb274)); have GE274 := Aside0.mk ((y9 hg HB.out : w.heap.size ≤ gb274)); replace HB := Aside0.mk (below_step (y5 HB.out) hb); clear hb hbox hg) | ((with_reducible refine gate_dst (N := 4) rfl ?_); refine zbx 4 #[.slice none 0 0] 50 ?_; intro gb275 hg w17 hbox hb; have BK275 := Aside0.mk hbox; have GW275 := Aside0.mk ((y11 hg HB.out GE274.out : w.heap.size ≤ gb275)); have GE275 := Aside0.mk ((y11 hg HB.out GE274.out : w.heap.size ≤ gb275)); replace HB := Aside0.mk (below_step (y6 HB.out GE274.out) hb); have NB274_275 := zltn hg BK274; have NB275_274 := zgtn hg BK274; replace BK274 := zbb BK274 hb; clear hb hbox hg; have hnb18 := NB274_275.out; have hnc18 := NB275_274.out; have hcz19_0 := zh BK274; have hcz19_1 := zh1 BK274; have hfz19_0 := zfr BK274 0; have hfz19_1 := zfr BK274 1))
    replace BK274 := Aside0.mk (blk_drew BK274.out)
    replace BK275 := Aside0.mk (blk_drew BK275.out)
    replace HB := Aside0.mk (below_drew1 HB.out)
    refine start_ (n := 11) (S := fun w' => w'.cell? ⟨gb274, 0, none⟩ = some (.int .i64 a0_0) ∧ w'.cell? ⟨gb274, 1, none⟩ = some (.slice A0_1 l0_1.length c0_1)) (ds := []) #[false, false, false, false, false, false, false, false, false, false, false] (by kernel_rfl) rfl rfl ⟨(blk_cell BK274.out 0).trans rfl, (blk_cell BK274.out 1).trans rfl⟩ (fun hHeld => ?_); refine with_tabW impl_valType.tab4 impl_valType.bits4 (fun HT_ HW_ => ?_)
    generalize w17.drew = w20 at BK274 BK275 HB hHeld ⊢
    refine zp 0 (some 17) HT_ ?_
    refine zp 1 (some 18) HT_ ?_
    refine zt2 2 (some 19) HT_ HW_ hHeld ?_
    refine zp 3 (some 20) HT_ ?_
    refine zp 4 (some 21) HT_ ?_
    refine pure_ (i := 5) (N := some 22) (v := undef) (a' := ?_) #[true, true, true, true, true, true, false, false, false, false, false] rfl rfl (any_of HT_.out (by kernel_rfl)) (fun _ _ _ h => h) (Or.inr ⟨(by rfl), rfl⟩) ?_ ?_
    rotate_left
    ·simp only [Act.put, List.setIfInBounds_toArray, List.set_cons_zero, List.set_cons_succ, i64_w, i32_w]
     rfl
    refine pure_ (i := 6) (N := some 23) (v := undef) (a' := ?_) #[true, true, true, true, true, true, true, false, false, false, false] rfl rfl (any_of HT_.out (by kernel_rfl)) (fun _ _ _ h => h) (Or.inr ⟨(by rfl), rfl⟩) ?_ ?_
    rotate_left
    ·simp only [Act.put, List.setIfInBounds_toArray, List.set_cons_zero, List.set_cons_succ, i64_w, i32_w]
     rfl
    refine pure_ (i := 7) (N := some 24) (v := undef) (a' := ?_) #[true, true, true, true, true, true, true, true, false, false, false] rfl rfl (any_of HT_.out (by kernel_rfl)) (fun _ _ _ h => h) (Or.inr ⟨(by rfl), rfl⟩) ?_ ?_
    rotate_left
    ·simp only [Act.put, List.setIfInBounds_toArray, List.set_cons_zero, List.set_cons_succ, i64_w, i32_w]
     rfl
    refine zp 8 (some 25) HT_ ?_
    refine one_ (i := 9) (N := none) #[true, true, true, true, true, true, true, true, true, true, false] rfl rfl (one_of HT_.out (by kernel_rfl)) (by decide) (fun K hK => ?_)
    have hs21 : w20.cell? ⟨gb275, 0, none⟩ = some (.slice none 0 0) := (blk_cell BK275.out 0).trans rfl
    have hfs21 := zfr BK275 0
    have hns21_0 := NB274_275.out
    have hms21_0 := NB275_274.out
    refine skip_ (w1 := ?_) (by rfl) rfl ?_ ?_
    rotate_left
    ·go_simp
     rfl
    refine hK.out _ _ ⟨((cell_far (p := ⟨gb275, _, none⟩) NB274_275.out _).trans (hHeld.1)), ((cell_far (p := ⟨gb275, _, none⟩) NB274_275.out _).trans (hHeld.2))⟩ (fun hHeld => ?_)
    clear hK K
    refine zp 10 (some 5) HT_ ?_
    refine done_ (done_of HT_.out (by kernel_rfl)) ?_
    try go_wp2
    refine bodyPost_ret (results_ct rfl _ _ gb275 50 #[.slice none 0 0] (0, 0) _ rfl (by (with_reducible repeat (first | refine blk_drewN ?_ _ | refine blk_drew ?_ | refine blk_alloc ?_ _)); apply blk_put (i := 0); (case h => exact y0 BK275.out); (case e => rfl)) Try.underlying50 rfl (by kernel_rfl)) rfl ?_
    exact ⟨_, y19, y37, (y2 HB.out GE274.out GE275.out)⟩
  ·rw [if_neg c8] at H
   have c8b0 : ((l0_1.length : Int) == 0) = false := beq_eq_false_iff_ne.mpr c8
   have c8b1 : ((l0_1.length : Int) != 0) = true := bne_iff_ne.mpr c8
   have c8b2 : ¬ (l0_1 = []) := fun h_ => c8 (by rw [h_]; rfl)
   have HC22 := Aside0.mk H
   clear H
   go_enter Try.func57, Try.ntmps57
   go_upto_region 5 with (first | ((with_reducible refine gate_dst (N := 2) rfl ?_); refine zbx 2 #[.int .i64 a0_0, .slice A0_1 l0_1.length c0_1] 25 ?_; intro gb274 hg w23 hbox hb; have BK274 := Aside0.mk hbox; have GW274 := Aside0.mk ((y9 hg HB.out : w.heap.size ≤ gb274)); have GE274 := Aside0.mk ((y9 hg HB.out : w.heap.size ≤ gb274)); replace HB := Aside0.mk (below_step (y5 HB.out) hb); clear hb hbox hg) | ((with_reducible refine gate_dst (N := 4) rfl ?_); refine zbx 4 #[.slice none 0 0] 50 ?_; intro gb275 hg w24 hbox hb; have BK275 := Aside0.mk hbox; have GW275 := Aside0.mk ((y11 hg HB.out GE274.out : w.heap.size ≤ gb275)); have GE275 := Aside0.mk ((y11 hg HB.out GE274.out : w.heap.size ≤ gb275)); replace HB := Aside0.mk (below_step (y6 HB.out GE274.out) hb); have NB274_275 := zltn hg BK274; have NB275_274 := zgtn hg BK274; replace BK274 := zbb BK274 hb; clear hb hbox hg; have hnb25 := NB274_275.out; have hnc25 := NB275_274.out; have hcz26_0 := zh BK274; have hcz26_1 := zh1 BK274; have hfz26_0 := zfr BK274 0; have hfz26_1 := zfr BK274 1))
   (try simp only [Act.put, List.setIfInBounds_toArray, List.set_cons_zero, List.set_cons_succ])
   go_cut [34] (fun v34 wc => ∃ (kq : Nat) (x34_21 : Bool), v34 = .bool x34_21 ∧ Aside0 (impl_valType.j0 kq a1 x34_21 a0_0 l0_1 = some (r1, r2)) ∧ Aside0 (kq ≤ k) ∧ Aside0 (wc.heap[gb274]? = some (.cells #[.int .i64 a0_0, (.slice A0_1 l0_1.length c0_1)] 25 (0, 0))) ∧ Aside0 (wc.heap[gb275]? = some (.cells #[(.slice none 0 0)] 50 (0, 0))) ∧ Aside0 (Below w.heap.size w wc))
   case first =>
    have H := HC22.out
    clear HC22
    by_cases c27 : (l0_1.length : Int) = 2
    ·rw [if_pos c27] at H
     have c27b0 : ((l0_1.length : Int) == 2) = true := beq_iff_eq.mpr c27
     have c27b1 : ((l0_1.length : Int) != 2) = false := bne_eq_false_iff_eq.mpr c27
     clear c27
     (first | rw [c27b0] | (simp only [i64_w, i32_w]; rw [c27b0]) | skip)
     have H' := Aside0.mk H
     clear H
     have hnb28 := NB274_275.out
     have hnc28 := NB275_274.out
     have hcz29_0 := zh BK274
     have hcz29_1 := zh1 BK274
     have hfz29_0 := zfr BK274 0
     have hfz29_1 := zfr BK274 1
     go_wp2
     go_meet
     case rel => exact ⟨_, ((a0_0 != 0)), y34, H', ⟨y46⟩, ⟨(y0 BK274.out)⟩, ⟨(y0 BK275.out)⟩, ⟨(y2 HB.out GE274.out GE275.out)⟩⟩
    ·rw [if_neg c27] at H
     have c27b0 : ((l0_1.length : Int) == 2) = false := beq_eq_false_iff_ne.mpr c27
     have c27b1 : ((l0_1.length : Int) != 2) = true := bne_iff_ne.mpr c27
     (first | rw [c27b0] | (simp only [i64_w, i32_w]; rw [c27b0]) | skip)
     have H' := Aside0.mk H
     clear H
     have hnb30 := NB274_275.out
     have hnc30 := NB275_274.out
     have hcz31_0 := zh BK274
     have hcz31_1 := zh1 BK274
     have hfz31_0 := zfr BK274 0
     have hfz31_1 := zfr BK274 1
     go_wp2
     go_meet
     case rel => exact ⟨_, (true), y34, H', ⟨y46⟩, ⟨(y0 BK274.out)⟩, ⟨(y0 BK275.out)⟩, ⟨(y2 HB.out GE274.out GE275.out)⟩⟩
   case rest =>
    clear HC22
    try clear c1
    try clear c2
    try clear p2
    try clear c3
    try clear c3b0
    try clear c5
    try clear c6
    try clear c8
    try clear c8b0
    try clear c8b1
    try clear c8b2
    try clear c9
    try clear c9b0
    try clear c12
    try clear c18
    try clear c25
    try clear c27
    try clear c27b0
    try clear c27b1
    try clear c28
    try clear c30
    try clear hcz13_0
    try clear hcz13_1
    try clear hcz19_0
    try clear hcz19_1
    try clear hcz26_0
    try clear hcz26_1
    try clear hcz29_0
    try clear hcz29_1
    try clear hcz31_0
    try clear hcz31_1
    try clear hcz7_0
    try clear hfz13_0
    try clear hfz13_1
    try clear hfz19_0
    try clear hfz19_1
    try clear hfz26_0
    try clear hfz26_1
    try clear hfz29_0
    try clear hfz29_1
    try clear hfz31_0
    try clear hfz31_1
    try clear hfz7_0
    obtain ⟨kq, x34_21, rfl, HA, HJ21, BK274, BK275, HB⟩ := hcut
    cases kq with
    | zero => exact absurd HA.out (by simp [impl_valType.j0])
    | succ kj21 =>
     have H := HA.out
     clear HA
     simp only [impl_valType.j0] at H
     by_cases c32 : x34_21 = true
     ·subst c32
      rw [if_pos rfl] at H
      simp only [Option.some.injEq, Prod.mk.injEq] at H
      obtain ⟨rfl, rfl⟩ := H
      have hnb33 := NB275_274.out
      have hnc33 := NB274_275.out
      have hcz34_0 := zh BK275
      have hfz34_0 := zfr BK275 0
      go_wp2
      refine bodyPost_ret (results_ct rfl _ _ gb275 50 #[.slice none 0 0] (0, 0) _ rfl (by (with_reducible repeat (first | refine blk_drewN ?_ _ | refine blk_drew ?_ | refine blk_alloc ?_ _)); apply blk_put (i := 0); (case h => exact y0 BK275.out); (case e => rfl)) Try.underlying50 rfl (by kernel_rfl)) rfl ?_
      exact ⟨_, y19, y37, (y2 HB.out GE274.out GE275.out)⟩
     ·replace c32 := Bool.eq_false_iff.mpr c32
      subst c32
      rw [if_neg (show ¬ (false = true) by decide)] at H
      by_cases c35 : 0 < (l0_1.length : Int)
      ·rw [if_pos c35] at H
       have c35b0 : decide (0 < (l0_1.length : Int)) = true := decide_eq_true c35
       have c35b1 : decide (0 < l0_1.length) = true := decide_eq_true (by omega)
       clear c35
       obtain ⟨⟨t277, t280⟩, A360, H⟩ := ob H
       have A36 := Aside0.mk A360
       clear A360
       by_cases c37 : 1 < (l0_1.length : Int)
       ·rw [if_pos c37] at H
        have c37b0 : decide (1 < (l0_1.length : Int)) = true := decide_eq_true c37
        have c37b1 : decide (1 < l0_1.length) = true := decide_eq_true (by omega)
        clear c37
        obtain ⟨⟨t283, t286⟩, A380, H⟩ := ob H
        have A38 := Aside0.mk A380
        clear A380
        by_cases c39 : t280 = true
        ·subst c39
         rw [if_pos rfl] at H
         by_cases c40 : t286 = true
         ·subst c40
          rw [if_pos rfl] at H
          obtain ⟨y288, hy288⟩ : ∃ y_ : List (S50), y_ = (([(⟨t277⟩ : S50), (⟨t283⟩ : S50)] : List (S50))) := ⟨_, rfl⟩
          replace H : (some (y288, true)) = some (r1, r2) := by first | (rw [hy288]; with_reducible exact H) | (have H2_ := (Option.bind_some _ _).symm.trans H; rw [hy288]; with_reducible exact H2_) | (have H2_ := (Option.bind_some _ _).symm.trans H; with_reducible exact H2_) | with_reducible exact H | (rw [hy288]; exact H) | exact H
          have Ny288 := Aside0.mk hy288
          clear hy288
          simp only [Option.some.injEq, Prod.mk.injEq] at H
          obtain ⟨rfl, rfl⟩ := H
          have hnb41 := NB274_275.out
          have hnc41 := NB275_274.out
          have hcz42_0 := zh BK274
          have hcz42_1 := zh1 BK274
          have hfz42_0 := zfr BK274 0
          have hfz42_1 := zfr BK274 1
          have p276 : 0 ≤ (0 : Int) := (by omega)
          have q276 : 0 < (l0_1.length : Int) := of_decide_eq_true y23
          obtain ⟨ad276, A276_1, c276_1, e276, hx276_0, hx276_1, hl276_1, hi276_1⟩ := at_T25 HR0_1.out 0 p276 q276
          cases e276
          have qi276 : (0 < l0_1.length) = True := eq_true (by omega)
          (try rw [show ((0 : Int)).toNat = 0 from rfl] at hx276_0)
          (try rw [show 0 * 2 = 0 from rfl] at hx276_0)
          (try rw [Addr.add_zero'] at hx276_0)
          (try rw [show ((0 : Int)).toNat = 0 from rfl] at hx276_1)
          (try rw [show 0 * 2 = 0 from rfl] at hx276_1)
          (try rw [Addr.add_zero'] at hx276_1)
          replace hx276_0 := (HB.out.cell (World.block_lt_of_cell? w _ hx276_0)).trans hx276_0
          replace hx276_1 := (HB.out.cell (World.block_lt_of_cell? w _ hx276_1)).trans hx276_1
          have HR276_1 := Aside0.mk hi276_1
          have HC276_1 := Aside0.mk hl276_1
          clear hi276_1 hl276_1
          replace p276 := eq_true p276
          replace q276 := eq_true q276
          go_wp2_with (first | ((with_reducible refine gate_callee (f := 57) rfl ?_); refine goesL_ (some 43) rfl rfl Try.func57 (by kernel_rfl) rfl #[.agg #[.int .i64 ((rd_T25 l0_1 0).f0), .slice A276_1 ((rd_T25 l0_1 0).f1).length c276_1], .int .i64 (wrap64 (a1 - 1))] rfl y8 ?_; (with_reducible refine (ih kj21 (y57 HJ21.out) ((rd_T25 l0_1 0).f0) _ _ ((rd_T25 l0_1 0).f1) (wrap64 (a1 - 1)) t277 true _ ?side1 ?side2 A36.out).mono ?_); (case side1 => exact y15 HR276_1.out HB.out); (case side2 => exact HC276_1.out); rintro e w43 ⟨v278, rfl, ho0, hb⟩; refine ⟨_, rfl, ?_⟩; have HO279 := Aside0.mk (Kd.N_lower (Kd.N_mono (ok' := fun k_ => (w.heap.size ≤ k_) ∧ k_ ≠ gb274 ∧ k_ ≠ gb275) ho0 (fun k_ hk_ => ⟨(Nat.le_trans (below_size (y2 HB.out GE274.out GE275.out)) hk_), (Kd.freshB (g := gb274) (o := .cells #[.int .i64 a0_0, .slice (some ad276) l0_1.length c0_1] 25 (0, 0)) (y0 BK274.out) k_ hk_), (Kd.freshB (g := gb275) (o := .cells #[.slice none 0 0] 50 (0, 0)) (y0 BK275.out) k_ hk_)⟩)) (below_size (y2 HB.out GE274.out GE275.out))); replace BK274 := zbb BK274 hb; replace BK275 := zbb BK275 hb; replace HB := Aside0.mk (below_step (y2 HB.out GE274.out GE275.out) hb); (try clear hb); (try clear hb2); (try clear hk); (try clear hi); (try clear ho0)) | ((with_reducible refine gate_dst (N := 6) rfl ?_); refine zbx 6 #[.slice none 0 0] 50 ?_; intro gb281 hg w44 hbox hb; replace HO279 := Aside0.mk (Kd.N_below (Kd.N_elderB (y3 HO279.out) gb281 (Nat.le_of_eq hg.symm)) hb); have BK281 := Aside0.mk hbox; have GW281 := Aside0.mk ((y16 hg HB.out GE274.out GE275.out : w.heap.size ≤ gb281)); have GE281 := Aside0.mk ((y16 hg HB.out GE274.out GE275.out : w.heap.size ≤ gb281)); replace HB := Aside0.mk (below_step (y2 HB.out GE274.out GE275.out) hb); have NB274_281 := zltn hg BK274; have NB281_274 := zgtn hg BK274; replace BK274 := zbb BK274 hb; have NB275_281 := zltn hg BK275; have NB281_275 := zgtn hg BK275; replace BK275 := zbb BK275 hb; clear hb hbox hg; obtain ⟨Ao45, co45, eo45⟩ := Kd.N_slice HO279.out; subst eo45; have hnb46 := NB281_274.out; have hnc46 := NB274_281.out; have hnb47 := NB281_275.out; have hnc47 := NB275_281.out; have hcz48_0 := zh BK281; have hfz48_0 := zfr BK281 0; have hcz49_0 := zh BK274; have hcz49_1 := zh1 BK274; have hfz49_0 := zfr BK274 0; have hfz49_1 := zfr BK274 1; have p282 : 0 ≤ (1 : Int) := (by omega); have q282 : 1 < (l0_1.length : Int) := of_decide_eq_true y23; obtain ⟨ad282, A282_1, c282_1, e282, hx282_0, hx282_1, hl282_1, hi282_1⟩ := at_T25 HR0_1.out 1 p282 q282; obtain rfl : ad276 = ad282 := (by injection e282); (try simp only [show (1 : Int).toNat = 1 from rfl, Nat.reduceMul, Nat.reduceEqDiff, Go.Addr.add, ↓reduceIte] at hx282_0); (try simp only [show (1 : Int).toNat = 1 from rfl, Nat.reduceMul, Nat.reduceEqDiff, Go.Addr.add, ↓reduceIte] at hx282_1); have qi282 : (1 < l0_1.length) = True := eq_true (by omega); (try rw [show ((1 : Int)).toNat = 1 from rfl] at hx282_0); (try rw [show 1 * 2 = 2 from rfl] at hx282_0); (try rw [show ((1 : Int)).toNat = 1 from rfl] at hx282_1); (try rw [show 1 * 2 = 2 from rfl] at hx282_1); have hn282_0 : ad276.block ≠ gb281 := Nat.ne_of_lt (Nat.lt_of_lt_of_le (by have := World.block_lt_of_cell? _ _ hx282_0; first | rwa [add_block] at this | exact this) GW281.out); replace hx282_0 := (HB.out.cell (World.block_lt_of_cell? w _ hx282_0)).trans hx282_0; replace hx282_1 := (HB.out.cell (World.block_lt_of_cell? w _ hx282_1)).trans hx282_1; have HR282_1 := Aside0.mk hi282_1; have HC282_1 := Aside0.mk hl282_1; clear hi282_1 hl282_1; replace hx282_0 := (cell_far (p := ⟨gb281, 0, none⟩) (by first | (rw [add_block]; exact hn282_0) | (show (Addr.add _ _).block ≠ _; rw [add_block]; exact hn282_0) | exact hn282_0) (.slice Ao45 t277.length co45)).trans hx282_0; replace hx282_1 := (cell_far (p := ⟨gb281, 0, none⟩) (by first | (rw [add_block]; exact hn282_0) | (show (Addr.add _ _).block ≠ _; rw [add_block]; exact hn282_0) | exact hn282_0) (.slice Ao45 t277.length co45)).trans hx282_1; clear hn282_0; replace p282 := eq_true p282; replace q282 := eq_true q282) | ((with_reducible refine gate_callee (f := 57) rfl ?_); refine goesL_ (some 53) rfl rfl Try.func57 (by kernel_rfl) rfl #[.agg #[.int .i64 ((rd_T25 l0_1 1).f0), .slice A282_1 ((rd_T25 l0_1 1).f1).length c282_1], .int .i64 (wrap64 (a1 - 1))] rfl y8 ?_; (with_reducible refine (ih kj21 (y57 HJ21.out) ((rd_T25 l0_1 1).f0) _ _ ((rd_T25 l0_1 1).f1) (wrap64 (a1 - 1)) t283 true _ ?side1 ?side2 A38.out).mono ?_); (case side1 => exact y47 HR282_1.out HB.out GE274.out GE275.out GE281.out); (case side2 => exact HC282_1.out); rintro e w50 ⟨v284, rfl, ho0, hb⟩; refine ⟨_, rfl, ?_⟩; have HO285 := Aside0.mk (Kd.N_lower (Kd.N_mono (ok' := fun k_ => (w.heap.size ≤ k_) ∧ some k_ ≠ (.slice Ao45 t277.length co45 : Value).ownBlock ∧ k_ ≠ gb274 ∧ k_ ≠ gb275 ∧ k_ ≠ gb281) ho0 (fun k_ hk_ => ⟨(Nat.le_trans (below_size (y4 HB.out GE274.out GE275.out GE281.out)) hk_), (Kd.fresh' (Kd.N_lt (by (with_reducible repeat (first | apply Kd.N_alloc | apply Kd.N_drewN | apply Kd.N_drew)); exact (Kd.N_mono (Kd.N_far (p := ⟨gb281, 0, none⟩) (Kd.N_mono HO279.out (fun k_ hk => (⟨hk, hk.2⟩ : _ ∧ k_ ≠ gb281))) (fun _ hk => hk.2) (.slice Ao45 t277.length co45)) (fun _ h_ => h_.1)))) k_ hk_), (Kd.freshB (g := gb274) (o := .cells #[.int .i64 a0_0, .slice (some ad276) l0_1.length c0_1] 25 (0, 0)) (y13 NB274_281.out BK274.out) k_ hk_), (Kd.freshB (g := gb275) (o := .cells #[.slice none 0 0] 50 (0, 0)) (y13 NB275_281.out BK275.out) k_ hk_), (Kd.freshB (g := gb281) (o := .cells #[.slice Ao45 t277.length co45] 50 (0, 0)) (by (with_reducible repeat (first | refine blk_drewN ?_ _ | refine blk_drew ?_ | refine blk_alloc ?_ _)); apply blk_put (i := 0); (case h => exact y0 BK281.out); (case e => rfl)) k_ hk_)⟩)) (below_size (y4 HB.out GE274.out GE275.out GE281.out))); replace HO279 := Aside0.mk (Kd.N_elder' (by (with_reducible repeat (first | apply Kd.N_alloc | apply Kd.N_drewN | apply Kd.N_drew)); exact (Kd.N_mono (Kd.N_far (p := ⟨gb281, 0, none⟩) (Kd.N_mono HO279.out (fun k_ hk => (⟨hk, hk.2⟩ : _ ∧ k_ ≠ gb281))) (fun _ hk => hk.2) (.slice Ao45 t277.length co45)) (fun _ h_ => h_.1))) (Kd.N_base ho0) hb); replace BK274 := zbf BK274 NB274_281 hb; replace BK275 := zbf BK275 NB275_281 hb; replace BK281 := Aside0.mk (blk_below (g := gb281) (o := .cells #[.slice Ao45 t277.length co45] 50 (0, 0)) (by (with_reducible repeat (first | refine blk_drewN ?_ _ | refine blk_drew ?_ | refine blk_alloc ?_ _)); apply blk_put (i := 0); (case h => exact y0 BK281.out); (case e => rfl)) hb); replace HB := Aside0.mk (below_step (y4 HB.out GE274.out GE275.out GE281.out) hb); (try clear hb); (try clear hb2); (try clear hk); (try clear hi); (try clear ho0)) | ((with_reducible refine gate_dst (N := 8) rfl ?_); refine zbx 8 #[.slice none 0 0] 50 ?_; intro gb287 hg w51 hbox hb; replace HO279 := Aside0.mk (Kd.N_below (Kd.N_elderB (y3 HO279.out) gb287 (Nat.le_of_eq hg.symm)) hb); replace HO285 := Aside0.mk (Kd.N_below (Kd.N_elderB (y3 HO285.out) gb287 (Nat.le_of_eq hg.symm)) hb); have BK287 := Aside0.mk hbox; have GW287 := Aside0.mk ((y22 hg HB.out GE274.out GE275.out GE281.out : w.heap.size ≤ gb287)); have GE287 := Aside0.mk ((y22 hg HB.out GE274.out GE275.out GE281.out : w.heap.size ≤ gb287)); replace HB := Aside0.mk (below_step (y4 HB.out GE274.out GE275.out GE281.out) hb); have NB274_287 := zltn hg BK274; have NB287_274 := zgtn hg BK274; replace BK274 := zbb BK274 hb; have NB275_287 := zltn hg BK275; have NB287_275 := zgtn hg BK275; replace BK275 := zbb BK275 hb; have NB281_287 := zltn hg BK281; have NB287_281 := zgtn hg BK281; replace BK281 := zbb BK281 hb; clear hb hbox hg; obtain ⟨Ao52, co52, eo52⟩ := Kd.N_slice HO285.out; subst eo52; have hnb53 := NB287_274.out; have hnc53 := NB274_287.out; have hnb54 := NB287_275.out; have hnc54 := NB275_287.out; have hnb55 := NB287_281.out; have hnc55 := NB281_287.out; have hcz56_0 := zh BK287; have hfz56_0 := zfr BK287 0) | ((with_reducible refine gate_store (t := 50) (p := 8) rfl ?_); refine store_event (t := 50) (p := 8) (v := ?vo_w57) (w1 := (w51.setCell ⟨gb287, 0, none⟩ (.slice Ao52 t283.length co52))) ?hg ?ho ?hn ?hr ?_; (case ho => rfl); (case hg => rfl); (case hn => rfl); (case hr => first | (go_simp; done) | (go_simp; rfl)); intro w57 hw; have n0_ : Aside0 (Kd.N k50 50 w57 w.heap.size (fun k_ => (w.heap.size ≤ k_) ∧ some k_ ≠ (.slice Ao52 t283.length co52 : Value).ownBlock ∧ k_ ≠ gb274 ∧ k_ ≠ gb275 ∧ k_ ≠ gb281 ∧ k_ ≠ gb287) (.slice Ao45 t277.length co45) t277) := ⟨(by rw [hw]; exact (by (with_reducible repeat (first | apply Kd.N_alloc | apply Kd.N_drewN | apply Kd.N_drew)); exact Kd.N_mono (Kd.N_far (p := ⟨gb287, 0, none⟩) (Kd.N_mono HO279.out (fun k_ hk => (⟨hk, hk.2⟩ : _ ∧ k_ ≠ gb287))) (fun _ hk => hk.2) (.slice Ao52 t283.length co52)) (fun _ hk => ⟨hk.1.1.1.1.1, ⟨hk.1.1.2, ⟨hk.1.1.1.1.2.1, ⟨hk.1.1.1.1.2.2, ⟨hk.1.1.1.2, hk.1.2⟩⟩⟩⟩⟩)))⟩; have n1_ : Aside0 (Kd.N k50 50 w57 w.heap.size (fun k_ => (w.heap.size ≤ k_) ∧ some k_ ≠ (.slice Ao45 t277.length co45 : Value).ownBlock ∧ k_ ≠ gb274 ∧ k_ ≠ gb275 ∧ k_ ≠ gb281 ∧ k_ ≠ gb287) (.slice Ao52 t283.length co52) t283) := ⟨(by rw [hw]; exact (by (with_reducible repeat (first | apply Kd.N_alloc | apply Kd.N_drewN | apply Kd.N_drew)); exact Kd.N_mono (Kd.N_far (p := ⟨gb287, 0, none⟩) (Kd.N_mono HO285.out (fun k_ hk => (⟨hk, hk.2⟩ : _ ∧ k_ ≠ gb287))) (fun _ hk => hk.2) (.slice Ao52 t283.length co52)) (fun _ hk => ⟨hk.1.1.1, ⟨hk.1.1.2.1, ⟨hk.1.1.2.2.1, ⟨hk.1.1.2.2.2.1, ⟨hk.1.1.2.2.2.2, hk.1.2⟩⟩⟩⟩⟩)))⟩; have n2_ : Aside0 (w57.heap[gb274]? = some (.cells #[.int .i64 a0_0, .slice (some ad276) l0_1.length c0_1] 25 (0, 0))) := ⟨(by rw [hw]; exact (y13 NB274_287.out BK274.out))⟩; have n3_ : Aside0 (w57.heap[gb275]? = some (.cells #[.slice none 0 0] 50 (0, 0))) := ⟨(by rw [hw]; exact (y13 NB275_287.out BK275.out))⟩; have n4_ : Aside0 (w57.heap[gb281]? = some (.cells #[.slice Ao45 t277.length co45] 50 (0, 0))) := ⟨(by rw [hw]; exact (y13 NB281_287.out BK281.out))⟩; have n5_ : Aside0 (w57.heap[gb287]? = some (.cells #[.slice Ao52 t283.length co52] 50 (0, 0))) := ⟨(by rw [hw]; exact (by (with_reducible repeat (first | refine blk_drewN ?_ _ | refine blk_drew ?_ | refine blk_alloc ?_ _)); apply blk_put (i := 0); (case h => exact y0 BK287.out); (case e => rfl)))⟩; have n6_ : Aside0 (Below w.heap.size w w57) := ⟨(by rw [hw]; exact (y7 HB.out GE274.out GE275.out GE281.out GE287.out))⟩; clear hw; clear HO279; clear HO285; clear BK274; clear BK275; clear BK281; clear BK287; clear HB; have HO279 := n0_; have HO285 := n1_; have BK274 := n2_; have BK275 := n3_; have BK281 := n4_; have BK287 := n5_; have HB := n6_; clear n0_ n1_ n2_ n3_ n4_ n5_ n6_; have hcz58_0 := zh BK281; have hfz58_0 := zfr BK281 0; have hcz59_0 := zh BK287; have hfz59_0 := zfr BK287 0) | ((with_reducible refine gate_dst (N := 65) rfl ?_); refine Kd.N_lit k50 _ 50 ?hg (N' := 65) ?hd (xs := ([(⟨t277⟩ : S50), (⟨t283⟩ : S50)] : List (S50))) (inner := [.slice Ao45 t277.length co45, .slice Ao52 t283.length co52]) (ok := (fun k_ => (w.heap.size ≤ k_) ∧ k_ ≠ gb274 ∧ k_ ≠ gb275 ∧ k_ ≠ gb281 ∧ k_ ≠ gb287)) (okp := (fun k_ => (w.heap.size ≤ k_) ∧ k_ ≠ gb274 ∧ k_ ≠ gb275 ∧ k_ ≠ gb281 ∧ k_ ≠ gb287)) ?hr ?hp (fun _ hk => hk) ((show ∀ k_, w57.heap.size ≤ k_ → (fun k_ => (w.heap.size ≤ k_) ∧ k_ ≠ gb274 ∧ k_ ≠ gb275 ∧ k_ ≠ gb281 ∧ k_ ≠ gb287) k_ from fun k_ hk => ⟨(Nat.le_trans (below_size (y7 HB.out GE274.out GE275.out GE281.out GE287.out)) hk), Kd.freshB (g := gb274) (o := .cells #[.int .i64 a0_0, .slice (some ad276) l0_1.length c0_1] 25 (0, 0)) (y0 BK274.out) k_ hk, Kd.freshB (g := gb275) (o := .cells #[.slice none 0 0] 50 (0, 0)) (y0 BK275.out) k_ hk, Kd.freshB (g := gb281) (o := .cells #[.slice Ao45 t277.length co45] 50 (0, 0)) (y0 BK281.out) k_ hk, Kd.freshB (g := gb287) (o := .cells #[.slice Ao52 t283.length co52] 50 (0, 0)) (y0 BK287.out) k_ hk⟩) _ (Nat.le_refl _)) (Below.refl _ _) (Nat.le_refl _) (by simp) ?_; (case hd => rfl); (case hg => rfl); (case hr => first | (go_simp; done) | (go_simp; rfl)); (case hp => exact (Reps.one (show Kd.FK k50 _ _ (⟨t277⟩ : S50) [.slice Ao45 t277.length co45] from (k50_mkF _ _ (⟨t277⟩ : S50) (Kd.N_reads' (Kd.N_mono (ok' := (fun k_ => (w.heap.size ≤ k_) ∧ k_ ≠ gb274 ∧ k_ ≠ gb275 ∧ k_ ≠ gb281 ∧ k_ ≠ gb287)) (HO279.out) (fun k_ hk => ⟨hk.1, ⟨hk.2.2.1, ⟨hk.2.2.2.1, ⟨hk.2.2.2.2.1, hk.2.2.2.2.2⟩⟩⟩⟩))).2.1 (Kd.N_F (Kd.N_mono (ok' := (fun k_ => (w.heap.size ≤ k_) ∧ k_ ≠ gb274 ∧ k_ ≠ gb275 ∧ k_ ≠ gb281 ∧ k_ ≠ gb287)) (HO279.out) (fun k_ hk => ⟨hk.1, ⟨hk.2.2.1, ⟨hk.2.2.2.1, ⟨hk.2.2.2.2.1, hk.2.2.2.2.2⟩⟩⟩⟩))))) (Reps.one (show Kd.FK k50 _ _ (⟨t283⟩ : S50) [.slice Ao52 t283.length co52] from (k50_mkF _ _ (⟨t283⟩ : S50) (Kd.N_reads' (Kd.N_mono (ok' := (fun k_ => (w.heap.size ≤ k_) ∧ k_ ≠ gb274 ∧ k_ ≠ gb275 ∧ k_ ≠ gb281 ∧ k_ ≠ gb287)) (HO285.out) (fun k_ hk => ⟨hk.1, ⟨hk.2.2.1, ⟨hk.2.2.2.1, ⟨hk.2.2.2.2.1, hk.2.2.2.2.2⟩⟩⟩⟩))).2.1 (Kd.N_F (Kd.N_mono (ok' := (fun k_ => (w.heap.size ≤ k_) ∧ k_ ≠ gb274 ∧ k_ ≠ gb275 ∧ k_ ≠ gb281 ∧ k_ ≠ gb287)) (HO285.out) (fun k_ hk => ⟨hk.1, ⟨hk.2.2.1, ⟨hk.2.2.2.1, ⟨hk.2.2.2.2.1, hk.2.2.2.2.2⟩⟩⟩⟩))))) (Reps.none _ _)))); intro v289 w60 ho61 hb hg_ hnew_; clear hg_ hnew_; (first | rw [← Ny288.out] at ho61 | (simp only [Int.reduceToNat] at ho61; rw [← Ny288.out] at ho61)); have HO290 := Aside0.mk (Kd.N_lower ho61 (below_size (y7 HB.out GE274.out GE275.out GE281.out GE287.out))); replace BK274 := zbb BK274 hb; replace BK275 := zbb BK275 hb; replace BK281 := zbb BK281 hb; replace BK287 := zbb BK287 hb; replace HB := Aside0.mk (below_step (y7 HB.out GE274.out GE275.out GE281.out GE287.out) hb); clear HO279 HO285; clear hb ho61; obtain ⟨Ao62, co62, eo62⟩ := Kd.N_slice HO290.out; subst eo62; have hcz63_0 := zh BK275; have hfz63_0 := zfr BK275 0))
          refine bodyPost_ret (results_ct rfl _ _ gb275 50 #[.slice Ao62 y288.length co62] (0, 0) _ rfl (by (with_reducible repeat (first | refine blk_drewN ?_ _ | refine blk_drew ?_ | refine blk_alloc ?_ _)); apply blk_put (i := 0); (case h => exact y0 BK275.out); (case e => rfl)) Try.underlying50 rfl (by kernel_rfl)) rfl ?_
          exact ⟨_, y19, (by (with_reducible repeat (first | apply Kd.N_alloc | apply Kd.N_drewN | apply Kd.N_drew)); exact Kd.N_mono (Kd.N_far (p := ⟨gb275, 0, none⟩) (Kd.N_mono HO290.out (fun k_ hk => (⟨hk, hk.2.2.1⟩ : _ ∧ k_ ≠ gb275))) (fun _ hk => hk.2) (.slice Ao62 y288.length co62)) (fun _ hk => hk.1.1)), (y7 HB.out GE274.out GE275.out GE281.out GE287.out)⟩
         ·replace c40 := Bool.eq_false_iff.mpr c40
          subst c40
          rw [if_neg (show ¬ (false = true) by decide)] at H
          simp only [Option.some.injEq, Prod.mk.injEq] at H
          obtain ⟨rfl, rfl⟩ := H
          have hnb64 := NB274_275.out
          have hnc64 := NB275_274.out
          have hcz65_0 := zh BK274
          have hcz65_1 := zh1 BK274
          have hfz65_0 := zfr BK274 0
          have hfz65_1 := zfr BK274 1
          have p276 : 0 ≤ (0 : Int) := (by omega)
          have q276 : 0 < (l0_1.length : Int) := of_decide_eq_true y23
          obtain ⟨ad276, A276_1, c276_1, e276, hx276_0, hx276_1, hl276_1, hi276_1⟩ := at_T25 HR0_1.out 0 p276 q276
          cases e276
          have qi276 : (0 < l0_1.length) = True := eq_true (by omega)
          (try rw [show ((0 : Int)).toNat = 0 from rfl] at hx276_0)
          (try rw [show 0 * 2 = 0 from rfl] at hx276_0)
          (try rw [Addr.add_zero'] at hx276_0)
          (try rw [show ((0 : Int)).toNat = 0 from rfl] at hx276_1)
          (try rw [show 0 * 2 = 0 from rfl] at hx276_1)
          (try rw [Addr.add_zero'] at hx276_1)
          replace hx276_0 := (HB.out.cell (World.block_lt_of_cell? w _ hx276_0)).trans hx276_0
          replace hx276_1 := (HB.out.cell (World.block_lt_of_cell? w _ hx276_1)).trans hx276_1
          have HR276_1 := Aside0.mk hi276_1
          have HC276_1 := Aside0.mk hl276_1
          clear hi276_1 hl276_1
          replace p276 := eq_true p276
          replace q276 := eq_true q276
          go_wp2_with (first | ((with_reducible refine gate_callee (f := 57) rfl ?_); refine goesL_ (some 43) rfl rfl Try.func57 (by kernel_rfl) rfl #[.agg #[.int .i64 ((rd_T25 l0_1 0).f0), .slice A276_1 ((rd_T25 l0_1 0).f1).length c276_1], .int .i64 (wrap64 (a1 - 1))] rfl y8 ?_; (with_reducible refine (ih kj21 (y57 HJ21.out) ((rd_T25 l0_1 0).f0) _ _ ((rd_T25 l0_1 0).f1) (wrap64 (a1 - 1)) t277 true _ ?side1 ?side2 A36.out).mono ?_); (case side1 => exact y15 HR276_1.out HB.out); (case side2 => exact HC276_1.out); rintro e w66 ⟨v278, rfl, ho0, hb⟩; refine ⟨_, rfl, ?_⟩; have HO279 := Aside0.mk (Kd.N_lower (Kd.N_mono (ok' := fun k_ => (w.heap.size ≤ k_) ∧ k_ ≠ gb274 ∧ k_ ≠ gb275) ho0 (fun k_ hk_ => ⟨(Nat.le_trans (below_size (y2 HB.out GE274.out GE275.out)) hk_), (Kd.freshB (g := gb274) (o := .cells #[.int .i64 a0_0, .slice (some ad276) l0_1.length c0_1] 25 (0, 0)) (y0 BK274.out) k_ hk_), (Kd.freshB (g := gb275) (o := .cells #[.slice none 0 0] 50 (0, 0)) (y0 BK275.out) k_ hk_)⟩)) (below_size (y2 HB.out GE274.out GE275.out))); replace BK274 := zbb BK274 hb; replace BK275 := zbb BK275 hb; replace HB := Aside0.mk (below_step (y2 HB.out GE274.out GE275.out) hb); (try clear hb); (try clear hb2); (try clear hk); (try clear hi); (try clear ho0)) | ((with_reducible refine gate_dst (N := 6) rfl ?_); refine zbx 6 #[.slice none 0 0] 50 ?_; intro gb281 hg w67 hbox hb; replace HO279 := Aside0.mk (Kd.N_below (Kd.N_elderB (y3 HO279.out) gb281 (Nat.le_of_eq hg.symm)) hb); have BK281 := Aside0.mk hbox; have GW281 := Aside0.mk ((y16 hg HB.out GE274.out GE275.out : w.heap.size ≤ gb281)); have GE281 := Aside0.mk ((y16 hg HB.out GE274.out GE275.out : w.heap.size ≤ gb281)); replace HB := Aside0.mk (below_step (y2 HB.out GE274.out GE275.out) hb); have NB274_281 := zltn hg BK274; have NB281_274 := zgtn hg BK274; replace BK274 := zbb BK274 hb; have NB275_281 := zltn hg BK275; have NB281_275 := zgtn hg BK275; replace BK275 := zbb BK275 hb; clear hb hbox hg; obtain ⟨Ao68, co68, eo68⟩ := Kd.N_slice HO279.out; subst eo68; have hnb69 := NB281_274.out; have hnc69 := NB274_281.out; have hnb70 := NB281_275.out; have hnc70 := NB275_281.out; have hcz71_0 := zh BK281; have hfz71_0 := zfr BK281 0; have hcz72_0 := zh BK274; have hcz72_1 := zh1 BK274; have hfz72_0 := zfr BK274 0; have hfz72_1 := zfr BK274 1; have p282 : 0 ≤ (1 : Int) := (by omega); have q282 : 1 < (l0_1.length : Int) := of_decide_eq_true y23; obtain ⟨ad282, A282_1, c282_1, e282, hx282_0, hx282_1, hl282_1, hi282_1⟩ := at_T25 HR0_1.out 1 p282 q282; obtain rfl : ad276 = ad282 := (by injection e282); (try simp only [show (1 : Int).toNat = 1 from rfl, Nat.reduceMul, Nat.reduceEqDiff, Go.Addr.add, ↓reduceIte] at hx282_0); (try simp only [show (1 : Int).toNat = 1 from rfl, Nat.reduceMul, Nat.reduceEqDiff, Go.Addr.add, ↓reduceIte] at hx282_1); have qi282 : (1 < l0_1.length) = True := eq_true (by omega); (try rw [show ((1 : Int)).toNat = 1 from rfl] at hx282_0); (try rw [show 1 * 2 = 2 from rfl] at hx282_0); (try rw [show ((1 : Int)).toNat = 1 from rfl] at hx282_1); (try rw [show 1 * 2 = 2 from rfl] at hx282_1); have hn282_0 : ad276.block ≠ gb281 := Nat.ne_of_lt (Nat.lt_of_lt_of_le (by have := World.block_lt_of_cell? _ _ hx282_0; first | rwa [add_block] at this | exact this) GW281.out); replace hx282_0 := (HB.out.cell (World.block_lt_of_cell? w _ hx282_0)).trans hx282_0; replace hx282_1 := (HB.out.cell (World.block_lt_of_cell? w _ hx282_1)).trans hx282_1; have HR282_1 := Aside0.mk hi282_1; have HC282_1 := Aside0.mk hl282_1; clear hi282_1 hl282_1; replace hx282_0 := (cell_far (p := ⟨gb281, 0, none⟩) (by first | (rw [add_block]; exact hn282_0) | (show (Addr.add _ _).block ≠ _; rw [add_block]; exact hn282_0) | exact hn282_0) (.slice Ao68 t277.length co68)).trans hx282_0; replace hx282_1 := (cell_far (p := ⟨gb281, 0, none⟩) (by first | (rw [add_block]; exact hn282_0) | (show (Addr.add _ _).block ≠ _; rw [add_block]; exact hn282_0) | exact hn282_0) (.slice Ao68 t277.length co68)).trans hx282_1; clear hn282_0; replace p282 := eq_true p282; replace q282 := eq_true q282) | ((with_reducible refine gate_callee (f := 57) rfl ?_); refine goesL_ (some 53) rfl rfl Try.func57 (by kernel_rfl) rfl #[.agg #[.int .i64 ((rd_T25 l0_1 1).f0), .slice A282_1 ((rd_T25 l0_1 1).f1).length c282_1], .int .i64 (wrap64 (a1 - 1))] rfl y8 ?_; (with_reducible refine (ih kj21 (y57 HJ21.out) ((rd_T25 l0_1 1).f0) _ _ ((rd_T25 l0_1 1).f1) (wrap64 (a1 - 1)) t283 false _ ?side1 ?side2 A38.out).mono ?_); (case side1 => exact y47 HR282_1.out HB.out GE274.out GE275.out GE281.out); (case side2 => exact HC282_1.out); rintro e w73 ⟨v284, rfl, ho0, hb⟩; refine ⟨_, rfl, ?_⟩; have HO285 := Aside0.mk (Kd.N_lower (Kd.N_mono (ok' := fun k_ => (w.heap.size ≤ k_) ∧ some k_ ≠ (.slice Ao68 t277.length co68 : Value).ownBlock ∧ k_ ≠ gb274 ∧ k_ ≠ gb275 ∧ k_ ≠ gb281) ho0 (fun k_ hk_ => ⟨(Nat.le_trans (below_size (y4 HB.out GE274.out GE275.out GE281.out)) hk_), (Kd.fresh' (Kd.N_lt (by (with_reducible repeat (first | apply Kd.N_alloc | apply Kd.N_drewN | apply Kd.N_drew)); exact (Kd.N_mono (Kd.N_far (p := ⟨gb281, 0, none⟩) (Kd.N_mono HO279.out (fun k_ hk => (⟨hk, hk.2⟩ : _ ∧ k_ ≠ gb281))) (fun _ hk => hk.2) (.slice Ao68 t277.length co68)) (fun _ h_ => h_.1)))) k_ hk_), (Kd.freshB (g := gb274) (o := .cells #[.int .i64 a0_0, .slice (some ad276) l0_1.length c0_1] 25 (0, 0)) (y13 NB274_281.out BK274.out) k_ hk_), (Kd.freshB (g := gb275) (o := .cells #[.slice none 0 0] 50 (0, 0)) (y13 NB275_281.out BK275.out) k_ hk_), (Kd.freshB (g := gb281) (o := .cells #[.slice Ao68 t277.length co68] 50 (0, 0)) (by (with_reducible repeat (first | refine blk_drewN ?_ _ | refine blk_drew ?_ | refine blk_alloc ?_ _)); apply blk_put (i := 0); (case h => exact y0 BK281.out); (case e => rfl)) k_ hk_)⟩)) (below_size (y4 HB.out GE274.out GE275.out GE281.out))); replace HO279 := Aside0.mk (Kd.N_elder' (by (with_reducible repeat (first | apply Kd.N_alloc | apply Kd.N_drewN | apply Kd.N_drew)); exact (Kd.N_mono (Kd.N_far (p := ⟨gb281, 0, none⟩) (Kd.N_mono HO279.out (fun k_ hk => (⟨hk, hk.2⟩ : _ ∧ k_ ≠ gb281))) (fun _ hk => hk.2) (.slice Ao68 t277.length co68)) (fun _ h_ => h_.1))) (Kd.N_base ho0) hb); replace BK274 := zbf BK274 NB274_281 hb; replace BK275 := zbf BK275 NB275_281 hb; replace BK281 := Aside0.mk (blk_below (g := gb281) (o := .cells #[.slice Ao68 t277.length co68] 50 (0, 0)) (by (with_reducible repeat (first | refine blk_drewN ?_ _ | refine blk_drew ?_ | refine blk_alloc ?_ _)); apply blk_put (i := 0); (case h => exact y0 BK281.out); (case e => rfl)) hb); replace HB := Aside0.mk (below_step (y4 HB.out GE274.out GE275.out GE281.out) hb); (try clear hb); (try clear hb2); (try clear hk); (try clear hi); (try clear ho0)) | ((with_reducible refine gate_dst (N := 8) rfl ?_); refine zbx 8 #[.slice none 0 0] 50 ?_; intro gb287 hg w74 hbox hb; replace HO279 := Aside0.mk (Kd.N_below (Kd.N_elderB (y3 HO279.out) gb287 (Nat.le_of_eq hg.symm)) hb); replace HO285 := Aside0.mk (Kd.N_below (Kd.N_elderB (y3 HO285.out) gb287 (Nat.le_of_eq hg.symm)) hb); have BK287 := Aside0.mk hbox; have GW287 := Aside0.mk ((y22 hg HB.out GE274.out GE275.out GE281.out : w.heap.size ≤ gb287)); have GE287 := Aside0.mk ((y22 hg HB.out GE274.out GE275.out GE281.out : w.heap.size ≤ gb287)); replace HB := Aside0.mk (below_step (y4 HB.out GE274.out GE275.out GE281.out) hb); have NB274_287 := zltn hg BK274; have NB287_274 := zgtn hg BK274; replace BK274 := zbb BK274 hb; have NB275_287 := zltn hg BK275; have NB287_275 := zgtn hg BK275; replace BK275 := zbb BK275 hb; have NB281_287 := zltn hg BK281; have NB287_281 := zgtn hg BK281; replace BK281 := zbb BK281 hb; clear hb hbox hg; obtain ⟨Ao75, co75, eo75⟩ := Kd.N_slice HO285.out; subst eo75; have hnb76 := NB287_274.out; have hnc76 := NB274_287.out; have hnb77 := NB287_275.out; have hnc77 := NB275_287.out; have hnb78 := NB287_281.out; have hnc78 := NB281_287.out; have hcz79_0 := zh BK287; have hfz79_0 := zfr BK287 0; have hcz80_0 := zh BK275; have hfz80_0 := zfr BK275 0))
          refine bodyPost_ret (results_ct rfl _ _ gb275 50 #[.slice none 0 0] (0, 0) _ rfl (by (with_reducible repeat (first | refine blk_drewN ?_ _ | refine blk_drew ?_ | refine blk_alloc ?_ _)); refine blk_put (cs := #[.slice none 0 0]) ?_ 0 _ rfl; (with_reducible repeat (first | refine blk_drewN ?_ _ | refine blk_drew ?_ | refine blk_alloc ?_ _)); refine blk_far ?_ NB275_287.out _; (with_reducible repeat (first | refine blk_drewN ?_ _ | refine blk_drew ?_ | refine blk_alloc ?_ _)); exact BK275.out) Try.underlying50 rfl (by kernel_rfl)) rfl ?_
          exact ⟨_, y19, y37, (y7 HB.out GE274.out GE275.out GE281.out GE287.out)⟩
        ·replace c39 := Bool.eq_false_iff.mpr c39
         subst c39
         rw [if_neg (show ¬ (false = true) by decide)] at H
         simp only [Option.some.injEq, Prod.mk.injEq] at H
         obtain ⟨rfl, rfl⟩ := H
         have hnb81 := NB274_275.out
         have hnc81 := NB275_274.out
         have hcz82_0 := zh BK274
         have hcz82_1 := zh1 BK274
         have hfz82_0 := zfr BK274 0
         have hfz82_1 := zfr BK274 1
         have p276 : 0 ≤ (0 : Int) := (by omega)
         have q276 : 0 < (l0_1.length : Int) := of_decide_eq_true y23
         obtain ⟨ad276, A276_1, c276_1, e276, hx276_0, hx276_1, hl276_1, hi276_1⟩ := at_T25 HR0_1.out 0 p276 q276
         cases e276
         have qi276 : (0 < l0_1.length) = True := eq_true (by omega)
         (try rw [show ((0 : Int)).toNat = 0 from rfl] at hx276_0)
         (try rw [show 0 * 2 = 0 from rfl] at hx276_0)
         (try rw [Addr.add_zero'] at hx276_0)
         (try rw [show ((0 : Int)).toNat = 0 from rfl] at hx276_1)
         (try rw [show 0 * 2 = 0 from rfl] at hx276_1)
         (try rw [Addr.add_zero'] at hx276_1)
         replace hx276_0 := (HB.out.cell (World.block_lt_of_cell? w _ hx276_0)).trans hx276_0
         replace hx276_1 := (HB.out.cell (World.block_lt_of_cell? w _ hx276_1)).trans hx276_1
         have HR276_1 := Aside0.mk hi276_1
         have HC276_1 := Aside0.mk hl276_1
         clear hi276_1 hl276_1
         replace p276 := eq_true p276
         replace q276 := eq_true q276
         go_wp2_with (first | ((with_reducible refine gate_callee (f := 57) rfl ?_); refine goesL_ (some 43) rfl rfl Try.func57 (by kernel_rfl) rfl #[.agg #[.int .i64 ((rd_T25 l0_1 0).f0), .slice A276_1 ((rd_T25 l0_1 0).f1).length c276_1], .int .i64 (wrap64 (a1 - 1))] rfl y8 ?_; (with_reducible refine (ih kj21 (y57 HJ21.out) ((rd_T25 l0_1 0).f0) _ _ ((rd_T25 l0_1 0).f1) (wrap64 (a1 - 1)) t277 false _ ?side1 ?side2 A36.out).mono ?_); (case side1 => exact y15 HR276_1.out HB.out); (case side2 => exact HC276_1.out); rintro e w83 ⟨v278, rfl, ho0, hb⟩; refine ⟨_, rfl, ?_⟩; have HO279 := Aside0.mk (Kd.N_lower (Kd.N_mono (ok' := fun k_ => (w.heap.size ≤ k_) ∧ k_ ≠ gb274 ∧ k_ ≠ gb275) ho0 (fun k_ hk_ => ⟨(Nat.le_trans (below_size (y2 HB.out GE274.out GE275.out)) hk_), (Kd.freshB (g := gb274) (o := .cells #[.int .i64 a0_0, .slice (some ad276) l0_1.length c0_1] 25 (0, 0)) (y0 BK274.out) k_ hk_), (Kd.freshB (g := gb275) (o := .cells #[.slice none 0 0] 50 (0, 0)) (y0 BK275.out) k_ hk_)⟩)) (below_size (y2 HB.out GE274.out GE275.out))); replace BK274 := zbb BK274 hb; replace BK275 := zbb BK275 hb; replace HB := Aside0.mk (below_step (y2 HB.out GE274.out GE275.out) hb); (try clear hb); (try clear hb2); (try clear hk); (try clear hi); (try clear ho0)) | ((with_reducible refine gate_dst (N := 6) rfl ?_); refine zbx 6 #[.slice none 0 0] 50 ?_; intro gb281 hg w84 hbox hb; replace HO279 := Aside0.mk (Kd.N_below (Kd.N_elderB (y3 HO279.out) gb281 (Nat.le_of_eq hg.symm)) hb); have BK281 := Aside0.mk hbox; have GW281 := Aside0.mk ((y16 hg HB.out GE274.out GE275.out : w.heap.size ≤ gb281)); have GE281 := Aside0.mk ((y16 hg HB.out GE274.out GE275.out : w.heap.size ≤ gb281)); replace HB := Aside0.mk (below_step (y2 HB.out GE274.out GE275.out) hb); have NB274_281 := zltn hg BK274; have NB281_274 := zgtn hg BK274; replace BK274 := zbb BK274 hb; have NB275_281 := zltn hg BK275; have NB281_275 := zgtn hg BK275; replace BK275 := zbb BK275 hb; clear hb hbox hg; obtain ⟨Ao85, co85, eo85⟩ := Kd.N_slice HO279.out; subst eo85; have hnb86 := NB281_274.out; have hnc86 := NB274_281.out; have hnb87 := NB281_275.out; have hnc87 := NB275_281.out; have hcz88_0 := zh BK281; have hfz88_0 := zfr BK281 0; have hcz89_0 := zh BK274; have hcz89_1 := zh1 BK274; have hfz89_0 := zfr BK274 0; have hfz89_1 := zfr BK274 1; have p282 : 0 ≤ (1 : Int) := (by omega); have q282 : 1 < (l0_1.length : Int) := of_decide_eq_true y23; obtain ⟨ad282, A282_1, c282_1, e282, hx282_0, hx282_1, hl282_1, hi282_1⟩ := at_T25 HR0_1.out 1 p282 q282; obtain rfl : ad276 = ad282 := (by injection e282); (try simp only [show (1 : Int).toNat = 1 from rfl, Nat.reduceMul, Nat.reduceEqDiff, Go.Addr.add, ↓reduceIte] at hx282_0); (try simp only [show (1 : Int).toNat = 1 from rfl, Nat.reduceMul, Nat.reduceEqDiff, Go.Addr.add, ↓reduceIte] at hx282_1); have qi282 : (1 < l0_1.length) = True := eq_true (by omega); (try rw [show ((1 : Int)).toNat = 1 from rfl] at hx282_0); (try rw [show 1 * 2 = 2 from rfl] at hx282_0); (try rw [show ((1 : Int)).toNat = 1 from rfl] at hx282_1); (try rw [show 1 * 2 = 2 from rfl] at hx282_1); have hn282_0 : ad276.block ≠ gb281 := Nat.ne_of_lt (Nat.lt_of_lt_of_le (by have := World.block_lt_of_cell? _ _ hx282_0; first | rwa [add_block] at this | exact this) GW281.out); replace hx282_0 := (HB.out.cell (World.block_lt_of_cell? w _ hx282_0)).trans hx282_0; replace hx282_1 := (HB.out.cell (World.block_lt_of_cell? w _ hx282_1)).trans hx282_1; have HR282_1 := Aside0.mk hi282_1; have HC282_1 := Aside0.mk hl282_1; clear hi282_1 hl282_1; replace hx282_0 := (cell_far (p := ⟨gb281, 0, none⟩) (by first | (rw [add_block]; exact hn282_0) | (show (Addr.add _ _).block ≠ _; rw [add_block]; exact hn282_0) | exact hn282_0) (.slice Ao85 t277.length co85)).trans hx282_0; replace hx282_1 := (cell_far (p := ⟨gb281, 0, none⟩) (by first | (rw [add_block]; exact hn282_0) | (show (Addr.add _ _).block ≠ _; rw [add_block]; exact hn282_0) | exact hn282_0) (.slice Ao85 t277.length co85)).trans hx282_1; clear hn282_0; replace p282 := eq_true p282; replace q282 := eq_true q282) | ((with_reducible refine gate_callee (f := 57) rfl ?_); refine goesL_ (some 53) rfl rfl Try.func57 (by kernel_rfl) rfl #[.agg #[.int .i64 ((rd_T25 l0_1 1).f0), .slice A282_1 ((rd_T25 l0_1 1).f1).length c282_1], .int .i64 (wrap64 (a1 - 1))] rfl y8 ?_; (with_reducible refine (ih kj21 (y57 HJ21.out) ((rd_T25 l0_1 1).f0) _ _ ((rd_T25 l0_1 1).f1) (wrap64 (a1 - 1)) t283 t286 _ ?side1 ?side2 A38.out).mono ?_); (case side1 => exact y47 HR282_1.out HB.out GE274.out GE275.out GE281.out); (case side2 => exact HC282_1.out); rintro e w90 ⟨v284, rfl, ho0, hb⟩; refine ⟨_, rfl, ?_⟩; have HO285 := Aside0.mk (Kd.N_lower (Kd.N_mono (ok' := fun k_ => (w.heap.size ≤ k_) ∧ some k_ ≠ (.slice Ao85 t277.length co85 : Value).ownBlock ∧ k_ ≠ gb274 ∧ k_ ≠ gb275 ∧ k_ ≠ gb281) ho0 (fun k_ hk_ => ⟨(Nat.le_trans (below_size (y4 HB.out GE274.out GE275.out GE281.out)) hk_), (Kd.fresh' (Kd.N_lt (by (with_reducible repeat (first | apply Kd.N_alloc | apply Kd.N_drewN | apply Kd.N_drew)); exact (Kd.N_mono (Kd.N_far (p := ⟨gb281, 0, none⟩) (Kd.N_mono HO279.out (fun k_ hk => (⟨hk, hk.2⟩ : _ ∧ k_ ≠ gb281))) (fun _ hk => hk.2) (.slice Ao85 t277.length co85)) (fun _ h_ => h_.1)))) k_ hk_), (Kd.freshB (g := gb274) (o := .cells #[.int .i64 a0_0, .slice (some ad276) l0_1.length c0_1] 25 (0, 0)) (y13 NB274_281.out BK274.out) k_ hk_), (Kd.freshB (g := gb275) (o := .cells #[.slice none 0 0] 50 (0, 0)) (y13 NB275_281.out BK275.out) k_ hk_), (Kd.freshB (g := gb281) (o := .cells #[.slice Ao85 t277.length co85] 50 (0, 0)) (by (with_reducible repeat (first | refine blk_drewN ?_ _ | refine blk_drew ?_ | refine blk_alloc ?_ _)); apply blk_put (i := 0); (case h => exact y0 BK281.out); (case e => rfl)) k_ hk_)⟩)) (below_size (y4 HB.out GE274.out GE275.out GE281.out))); replace HO279 := Aside0.mk (Kd.N_elder' (by (with_reducible repeat (first | apply Kd.N_alloc | apply Kd.N_drewN | apply Kd.N_drew)); exact (Kd.N_mono (Kd.N_far (p := ⟨gb281, 0, none⟩) (Kd.N_mono HO279.out (fun k_ hk => (⟨hk, hk.2⟩ : _ ∧ k_ ≠ gb281))) (fun _ hk => hk.2) (.slice Ao85 t277.length co85)) (fun _ h_ => h_.1))) (Kd.N_base ho0) hb); replace BK274 := zbf BK274 NB274_281 hb; replace BK275 := zbf BK275 NB275_281 hb; replace BK281 := Aside0.mk (blk_below (g := gb281) (o := .cells #[.slice Ao85 t277.length co85] 50 (0, 0)) (by (with_reducible repeat (first | refine blk_drewN ?_ _ | refine blk_drew ?_ | refine blk_alloc ?_ _)); apply blk_put (i := 0); (case h => exact y0 BK281.out); (case e => rfl)) hb); replace HB := Aside0.mk (below_step (y4 HB.out GE274.out GE275.out GE281.out) hb); (try clear hb); (try clear hb2); (try clear hk); (try clear hi); (try clear ho0)) | ((with_reducible refine gate_dst (N := 8) rfl ?_); refine zbx 8 #[.slice none 0 0] 50 ?_; intro gb287 hg w91 hbox hb; replace HO279 := Aside0.mk (Kd.N_below (Kd.N_elderB (y3 HO279.out) gb287 (Nat.le_of_eq hg.symm)) hb); replace HO285 := Aside0.mk (Kd.N_below (Kd.N_elderB (y3 HO285.out) gb287 (Nat.le_of_eq hg.symm)) hb); have BK287 := Aside0.mk hbox; have GW287 := Aside0.mk ((y22 hg HB.out GE274.out GE275.out GE281.out : w.heap.size ≤ gb287)); have GE287 := Aside0.mk ((y22 hg HB.out GE274.out GE275.out GE281.out : w.heap.size ≤ gb287)); replace HB := Aside0.mk (below_step (y4 HB.out GE274.out GE275.out GE281.out) hb); have NB274_287 := zltn hg BK274; have NB287_274 := zgtn hg BK274; replace BK274 := zbb BK274 hb; have NB275_287 := zltn hg BK275; have NB287_275 := zgtn hg BK275; replace BK275 := zbb BK275 hb; have NB281_287 := zltn hg BK281; have NB287_281 := zgtn hg BK281; replace BK281 := zbb BK281 hb; clear hb hbox hg; obtain ⟨Ao92, co92, eo92⟩ := Kd.N_slice HO285.out; subst eo92; have hnb93 := NB287_274.out; have hnc93 := NB274_287.out; have hnb94 := NB287_275.out; have hnc94 := NB275_287.out; have hnb95 := NB287_281.out; have hnc95 := NB281_287.out; have hcz96_0 := zh BK287; have hfz96_0 := zfr BK287 0; have hcz97_0 := zh BK275; have hfz97_0 := zfr BK275 0))
         refine bodyPost_ret (results_ct rfl _ _ gb275 50 #[.slice none 0 0] (0, 0) _ rfl (by (with_reducible repeat (first | refine blk_drewN ?_ _ | refine blk_drew ?_ | refine blk_alloc ?_ _)); refine blk_put (cs := #[.slice none 0 0]) ?_ 0 _ rfl; (with_reducible repeat (first | refine blk_drewN ?_ _ | refine blk_drew ?_ | refine blk_alloc ?_ _)); refine blk_far ?_ NB275_287.out _; (with_reducible repeat (first | refine blk_drewN ?_ _ | refine blk_drew ?_ | refine blk_alloc ?_ _)); exact BK275.out) Try.underlying50 rfl (by kernel_rfl)) rfl ?_
         exact ⟨_, y19, y37, (y7 HB.out GE274.out GE275.out GE281.out GE287.out)⟩
       ·rw [if_neg c37] at H
        exact absurd H (by simp)
      ·rw [if_neg c35] at H
       exact absurd H (by simp)
end Go.Proofs.Ythfflieeifakdaa.PA
end
section
namespace Go.Proofs.Ythfflieeifakdaa.PA
open Go.RowKit Go.Proofs.YthfflieeifakdaaW.PrintWords Go.Proofs.YthfflieeifakdaaW.PrintLast Go.Proofs.YthfflieeifakdaaW.PrintMore
attribute [local go_sem] max2_int min2_int max_two min_two max_three min_three max_four min_four
set_option linter.unusedVariables false
set_option linter.unusedSimpArgs false
def impl_valTyped.f (k : Nat) (a0_0 : Int) (l0_1 : List (S25)) : Option ((List (S50)) × Bool) := (impl_valType.f k a0_0 l0_1 4).bind fun bt293 => (some (bt293.1, bt293.2))
theorem impl_valTyped.mono : ∀ a0 a1 k, LeO (impl_valTyped.f k a0 a1) (impl_valTyped.f (k + 1) a0 a1) := by
 intro a0 a1 k
 unfold impl_valTyped.f
 repeat' first
   | (with_reducible exact impl_valType.mono _ _ _ _)
   | (with_reducible exact LeO.refl _)
   | (with_reducible exact LeO.none _)
   | (with_reducible refine LeO.ite ?_ ?_)
   | (with_reducible refine LeO.bind ?_ (fun _ => ?_))
   | exact impl_valType.mono _ _ _ _
   | exact LeO.none _
   | refine LeO.ite ?_ ?_
   | refine LeO.bind ?_ (fun _ => ?_)
set_option maxHeartbeats 8000000 in
set_option maxRecDepth 100000 in
theorem impl_valTyped.calls (k : Nat) (a0_0 : Int) (A0_1 : Option Addr) (c0_1 : Nat) (l0_1 : List (S25)) (r1 : List (S50)) (r2 : Bool) (w : World) (hr0_1 : Kd.C k25 w A0_1 l0_1.length l0_1) (hc0_1 : l0_1.length ≤ c0_1) (h : impl_valTyped.f k a0_0 l0_1 = some (r1, r2)) :
  Calls Try.prog 38 #[.agg #[.int .i64 a0_0, .slice A0_1 l0_1.length c0_1]] w fun e w' => ∃ v0_ : Value, e = .returned (.tuple #[.agg #[v0_], .bool r2]) ∧ Kd.N k50 50 w' w.heap.size (fun k_ => (w.heap.size ≤ k_)) v0_ r1 ∧ Below w.heap.size w w' := by
 have hu25 := Try.underlying25
 have hu50 := Try.underlying50
 have HR0_1 := Aside0.mk hr0_1
 have HC0_1 := Aside0.mk hc0_1
 clear hr0_1 hc0_1
 have HB := Aside0.mk (Below.refl w.heap.size w)
 have H : ((impl_valType.f k a0_0 l0_1 4).bind fun bt293 => (some (bt293.1, bt293.2))) = some (r1, r2) := h
 clear h
 obtain ⟨⟨t293, t296⟩, A20, H⟩ := ob H
 have A2 := Aside0.mk A20
 clear A20
 simp only [Option.some.injEq, Prod.mk.injEq] at H
 obtain ⟨rfl, rfl⟩ := H
 go_enter Try.func38, Try.ntmps38
 go_wp2_with (first | ((with_reducible refine gate_dst (N := 1) rfl ?_); refine zbx 1 #[.int .i64 a0_0, .slice A0_1 l0_1.length c0_1] 25 ?_; intro gb291 hg w3 hbox hb; have BK291 := Aside0.mk hbox; have GW291 := Aside0.mk ((y9 hg HB.out : w.heap.size ≤ gb291)); have GE291 := Aside0.mk ((y9 hg HB.out : w.heap.size ≤ gb291)); replace HB := Aside0.mk (below_step (y5 HB.out) hb); clear hb hbox hg) | ((with_reducible refine gate_dst (N := 2) rfl ?_); refine zbx 2 #[.slice none 0 0] 50 ?_; intro gb292 hg w4 hbox hb; have BK292 := Aside0.mk hbox; have GW292 := Aside0.mk ((y11 hg HB.out GE291.out : w.heap.size ≤ gb292)); have GE292 := Aside0.mk ((y11 hg HB.out GE291.out : w.heap.size ≤ gb292)); replace HB := Aside0.mk (below_step (y6 HB.out GE291.out) hb); have NB291_292 := zltn hg BK291; have NB292_291 := zgtn hg BK291; replace BK291 := zbb BK291 hb; clear hb hbox hg; have hnb5 := NB291_292.out; have hnc5 := NB292_291.out; have hcz6_0 := zh BK291; have hcz6_1 := zh1 BK291; have hfz6_0 := zfr BK291 0; have hfz6_1 := zfr BK291 1) | ((with_reducible refine gate_callee (f := 57) rfl ?_); refine goesL_ (some 5) rfl rfl Try.func57 (by kernel_rfl) rfl #[.agg #[.int .i64 a0_0, .slice A0_1 l0_1.length c0_1], .int .i64 4] rfl y8 ?_; (with_reducible refine (impl_valType.calls k a0_0 _ _ l0_1 4 t293 t296 _ ?side1 ?side2 A2.out).mono ?_); (case side1 => exact y15 HR0_1.out HB.out); (case side2 => exact HC0_1.out); rintro e w7 ⟨v294, rfl, ho0, hb⟩; refine ⟨_, rfl, ?_⟩; have HO295 := Aside0.mk (Kd.N_lower (Kd.N_mono (ok' := fun k_ => (w.heap.size ≤ k_) ∧ k_ ≠ gb291 ∧ k_ ≠ gb292) ho0 (fun k_ hk_ => ⟨(Nat.le_trans (below_size (y2 HB.out GE291.out GE292.out)) hk_), (Kd.freshB (g := gb291) (o := .cells #[.int .i64 a0_0, .slice A0_1 l0_1.length c0_1] 25 (0, 0)) (y0 BK291.out) k_ hk_), (Kd.freshB (g := gb292) (o := .cells #[.slice none 0 0] 50 (0, 0)) (y0 BK292.out) k_ hk_)⟩)) (below_size (y2 HB.out GE291.out GE292.out))); replace BK291 := zbb BK291 hb; replace BK292 := zbb BK292 hb; replace HB := Aside0.mk (below_step (y2 HB.out GE291.out GE292.out) hb); (try clear hb); (try clear hb2); (try clear hk); (try clear hi); (try clear ho0); obtain ⟨Ao8, co8, eo8⟩ := Kd.N_slice HO295.out; subst eo8; have hcz9_0 := zh BK292; have hfz9_0 := zfr BK292 0))
 refine bodyPost_ret (results_ct rfl _ _ gb292 50 #[.slice Ao8 t293.length co8] (0, 0) _ rfl (by (with_reducible repeat (first | refine blk_drewN ?_ _ | refine blk_drew ?_ | refine blk_alloc ?_ _)); apply blk_put (i := 0); (case h => exact y0 BK292.out); (case e => rfl)) Try.underlying50 rfl (by kernel_rfl)) rfl ?_
 exact ⟨_, y19, (by (with_reducible repeat (first | apply Kd.N_alloc | apply Kd.N_drewN | apply Kd.N_drew)); exact Kd.N_mono (Kd.N_far (p := ⟨gb292, 0, none⟩) (Kd.N_mono HO295.out (fun k_ hk => (⟨hk, hk.2.2⟩ : _ ∧ k_ ≠ gb292))) (fun _ hk => hk.2) (.slice Ao8 t293.length co8)) (fun _ hk => hk.1.1)), (y2 HB.out GE291.out GE292.out)⟩
end Go.Proofs.Ythfflieeifakdaa.PA
end
section
namespace Go.Proofs.Ythfflieeifakdaa.PA
open Go.RowKit Go.Proofs.YthfflieeifakdaaW.PrintWords Go.Proofs.YthfflieeifakdaaW.PrintLast Go.Proofs.YthfflieeifakdaaW.PrintMore
attribute [local go_sem] max2_int min2_int max_two min_two max_three min_three max_four min_four
set_option linter.unusedVariables false
set_option linter.unusedSimpArgs false
def impl_Val_parts.f (a0_0 : Int) (l0_1 : List (S25)) : Option ((List (S25))) := some l0_1
set_option maxHeartbeats 8000000 in
set_option maxRecDepth 100000 in
theorem impl_Val_parts.calls (a0_0 : Int) (P0_1_ : Nat → Prop) (A0_1 : Option Addr) (c0_1 : Nat) (l0_1 : List (S25)) (r : List (S25)) (w : World) (hs0_1 : Kd.V k25 25 w w.heap.size (fun k_ => P0_1_ k_) (.slice A0_1 l0_1.length c0_1) l0_1) (h : impl_Val_parts.f a0_0 l0_1 = some r) :
  Calls Try.prog 76 #[.agg #[.int .i64 a0_0, .slice A0_1 l0_1.length c0_1]] w fun e w' => ∃ v0_ : Value, e = .returned (v0_) ∧ Kd.V k25 25 w' w.heap.size (fun k_ => (P0_1_ k_ ∨ w.heap.size ≤ k_)) v0_ r ∧ Below w.heap.size w w' := by
 have hu25 := Try.underlying25
 have HO0_1 := Aside0.mk (show Kd.V k25 25 w w.heap.size (fun k_ => (P0_1_ k_ ∨ w.heap.size ≤ k_)) (.slice A0_1 l0_1.length c0_1) l0_1 from Kd.V_mono hs0_1 (fun k_ hk => .inl hk))
 have HB := Aside0.mk (Below.refl w.heap.size w)
 have H : (some l0_1) = some r := h
 clear h
 obtain rfl := Option.some.inj H
 go_enter Try.func76, Try.ntmps76
 go_wp2_with (first | ((with_reducible refine gate_dst (N := 1) rfl ?_); refine zbx 1 #[.int .i64 a0_0, .slice A0_1 l0_1.length c0_1] 25 ?_; intro gb102 hg w2 hbox hb; replace HO0_1 := Aside0.mk (Kd.V_below (Kd.V_elderB (y10 HO0_1.out) gb102 (Nat.le_of_eq hg.symm)) hb); have BK102 := Aside0.mk hbox; have GW102 := Aside0.mk ((y9 hg HB.out : w.heap.size ≤ gb102)); have GE102 := Aside0.mk ((y9 hg HB.out : w.heap.size ≤ gb102)); replace HB := Aside0.mk (below_step (y5 HB.out) hb); clear hb hbox hg; have hcz3_0 := zh BK102; have hcz3_1 := zh1 BK102; have hfz3_0 := zfr BK102 0; have hfz3_1 := zfr BK102 1))
 go_ret
 exact ⟨_, y19, (by (with_reducible repeat (first | apply Kd.V_alloc | apply Kd.V_drewN | apply Kd.V_drew)); exact Kd.V_mono HO0_1.out (fun _ hk => hk.1)), (y6 HB.out GE102.out)⟩
end Go.Proofs.Ythfflieeifakdaa.PA
end
section
namespace Go.Proofs.Ythfflieeifakdaa.PA
open Go.RowKit Go.Proofs.YthfflieeifakdaaW.PrintWords Go.Proofs.YthfflieeifakdaaW.PrintLast Go.Proofs.YthfflieeifakdaaW.PrintMore
attribute [local go_sem] max2_int min2_int max_two min_two max_three min_three max_four min_four
set_option linter.unusedVariables false
set_option linter.unusedSimpArgs false
def impl_Val.l0 : Nat → List Int → Int → Int → Int → List (S25) → Option (Int × (List (S25)) × Bool)
 | 0, _, _, _, _, _ => none
 | k + 1, x10, x11, x12, x298000, x298001 => if x12 < x11 then (if 0 ≤ x12 then (if x12 < (x10.length : Int) then ((impl_Val_parts.f x298000 x298001).bind fun t300 => (if (t300.length : Int) = 2 then (if (rd x10 x12) < 0 then (some (0, ([] : List (S25)), false)) else (if (rd x10 x12) > 1 then (some (0, ([] : List (S25)), false)) else (if 0 ≤ (rd x10 x12) then (if (rd x10 x12) < (t300.length : Int) then (impl_Val.l0 k x10 x11 (wrap64 (x12 + 1)) ((rd_T25 t300 (rd x10 x12)).f0) ((rd_T25 t300 (rd x10 x12)).f1)) else (none)) else (none)))) else (some (0, ([] : List (S25)), false)))) else (none)) else (none)) else (some (x298000, x298001, true))
def impl_Val.f (k : Nat) (a0_0 : Int) (l0_1 : List (S25)) (l1 : List Int) : Option (Int × (List (S25)) × Bool) := impl_Val.l0 k l1 (l1.length : Int) 0 a0_0 l0_1
theorem impl_Val.mono_l : ∀ k, (∀ y0 y1 y2 y3 y4, LeO (impl_Val.l0 k y0 y1 y2 y3 y4) (impl_Val.l0 (k + 1) y0 y1 y2 y3 y4))
 | 0 => fun _ _ _ _ _ r h => by simp [impl_Val.l0] at h
 | k + 1 => by
  have ih0 := impl_Val.mono_l k
  ·intro y0 y1 y2 y3 y4
   unfold impl_Val.l0
   repeat' first
   | (with_reducible exact ih0 _ _ _ _ _)
   | (with_reducible exact LeO.refl _)
   | (with_reducible exact LeO.none _)
   | (with_reducible refine LeO.ite ?_ ?_)
   | (with_reducible refine LeO.bind ?_ (fun _ => ?_))
   | exact ih0 _ _ _ _ _
   | exact LeO.none _
   | refine LeO.ite ?_ ?_
   | refine LeO.bind ?_ (fun _ => ?_)
theorem impl_Val.mono : ∀ a0 a1 a2 k, LeO (impl_Val.f k a0 a1 a2) (impl_Val.f (k + 1) a0 a1 a2) := by
 intro a0 a1 a2 k
 have ih0 := impl_Val.mono_l k
 unfold impl_Val.f
 repeat' first
   | (with_reducible exact ih0 _ _ _ _ _)
   | (with_reducible exact LeO.refl _)
   | (with_reducible exact LeO.none _)
   | (with_reducible refine LeO.ite ?_ ?_)
   | (with_reducible refine LeO.bind ?_ (fun _ => ?_))
   | exact ih0 _ _ _ _ _
   | exact LeO.none _
   | refine LeO.ite ?_ ?_
   | refine LeO.bind ?_ (fun _ => ?_)
set_option maxHeartbeats 8000000 in
set_option maxRecDepth 100000 in
theorem impl_Val.calls (k : Nat) (a0_0 : Int) (P0_1_ : Nat → Prop) (A0_1 : Option Addr) (c0_1 : Nat) (l0_1 : List (S25)) (A1 : Option Addr) (c1 : Nat) (l1 : List Int) (r1 : Int) (r2 : List (S25)) (r3 : Bool) (w : World) (hs0_1 : Kd.V k25 25 w w.heap.size (fun k_ => P0_1_ k_) (.slice A0_1 l0_1.length c0_1) l0_1) (hr1 : Kd.C (Kd.int .i64) w A1 l1.length l1) (hc1 : l1.length ≤ c1) (h : impl_Val.f k a0_0 l0_1 l1 = some (r1, r2, r3)) :
  Calls Try.prog 39 #[.agg #[.int .i64 a0_0, .slice A0_1 l0_1.length c0_1], .slice A1 l1.length c1] w fun e w' => ∃ v1_ : Value, e = .returned (.tuple #[.agg #[.int .i64 r1, v1_], .bool r3]) ∧ Kd.V k25 25 w' w.heap.size (fun k_ => (P0_1_ k_ ∨ w.heap.size ≤ k_)) v1_ r2 ∧ Below w.heap.size w w' := by
 have hu25 := Try.underlying25
 have hna25 : ∀ (v : Value) (W : World), (nilAhead 199 25 v "loop.example/handfast/impl.parts").run Try.prog W = .ok (some false) W := fun _ _ => by kernel_rfl
 have hme25 : ∀ (v : Value) (W : World), (method 199 25 v "loop.example/handfast/impl.parts").run Try.prog W = .ok (76, v) W := fun _ _ => by kernel_rfl
 have HO0_1 := Aside0.mk (show Kd.V k25 25 w w.heap.size (fun k_ => (P0_1_ k_ ∨ w.heap.size ≤ k_)) (.slice A0_1 l0_1.length c0_1) l0_1 from Kd.V_mono hs0_1 (fun k_ hk => .inl hk))
 have HR1 := Aside0.mk hr1
 have HC1 := Aside0.mk hc1
 clear hr1 hc1
 have HB := Aside0.mk (Below.refl w.heap.size w)
 have H : (impl_Val.l0 k l1 (l1.length : Int) 0 a0_0 l0_1) = some (r1, r2, r3) := h
 clear h
 have H' := Aside0.mk H
 clear H
 go_enter Try.func39, Try.ntmps39
 go_wp2_with (first | ((with_reducible refine gate_dst (N := 2) rfl ?_); refine zbx 2 #[.int .i64 a0_0, .slice A0_1 l0_1.length c0_1] 25 ?_; intro gb297 hg w3 hbox hb; replace HO0_1 := Aside0.mk (Kd.V_below (Kd.V_elderB (y10 HO0_1.out) gb297 (Nat.le_of_eq hg.symm)) hb); have BK297 := Aside0.mk hbox; have GW297 := Aside0.mk ((y9 hg HB.out : w.heap.size ≤ gb297)); have GE297 := Aside0.mk ((y9 hg HB.out : w.heap.size ≤ gb297)); replace HB := Aside0.mk (below_step (y5 HB.out) hb); clear hb hbox hg) | ((with_reducible refine gate_dst (N := 4) rfl ?_); refine zbx 4 #[.int .i64 0, .slice none 0 0] 25 ?_; intro gb298 hg w4 hbox hb; replace HO0_1 := Aside0.mk (Kd.V_below (Kd.V_elderB (y10 HO0_1.out) gb298 (Nat.le_of_eq hg.symm)) hb); have BK298 := Aside0.mk hbox; have GW298 := Aside0.mk ((y11 hg HB.out GE297.out : w.heap.size ≤ gb298)); have GE298 := Aside0.mk ((y11 hg HB.out GE297.out : w.heap.size ≤ gb298)); replace HB := Aside0.mk (below_step (y6 HB.out GE297.out) hb); have NB297_298 := zltn hg BK297; have NB298_297 := zgtn hg BK297; replace BK297 := zbb BK297 hb; clear hb hbox hg))
 go_loopg [12] k (fun kq v12 w' => ∃ (x12_1 : Int) (x298000_1 : Int) (x298001_1 : List (S25)) (x299000_1 : Int) (u298001 : Value), v12 = .int .i64 x12_1 ∧ Aside0 (impl_Val.l0 kq l1 (l1.length : Int) x12_1 x298000_1 x298001_1 = some (r1, r2, r3)) ∧ Aside0 (kq ≤ k) ∧ Aside0 (Kd.V k25 25 w' w.heap.size (fun k_ => (P0_1_ k_ ∨ w.heap.size ≤ k_) ∧ k_ ≠ gb297 ∧ k_ ≠ gb298) u298001 x298001_1) ∧ Aside0 (w'.heap[gb297]? = some (.cells #[.int .i64 x298000_1, u298001] 25 (0, 0))) ∧ Aside0 (w'.heap[gb298]? = some (.cells #[.int .i64 x299000_1, (.slice none 0 0)] 25 (0, 0))) ∧ Aside0 (Below w.heap.size w w'))
 case atStart => exact ⟨(0), (a0_0), (l0_1), (0), (.slice A0_1 l0_1.length c0_1), y34, H', ⟨Nat.le_refl _⟩, ⟨(y74 HO0_1.out)⟩, ⟨(y0 BK297.out)⟩, ⟨(y0 BK298.out)⟩, ⟨(y2 HB.out GE297.out GE298.out)⟩⟩
 case round =>
  clear H'
  try clear c1
  try clear p2
  try clear c3
  (try clear BK297); (try clear BK298)
  obtain ⟨x12_1, x298000_1, x298001_1, x299000_1, u298001, rfl, HA, HK1, HO_298001, BK297, BK298, HB⟩ := hrel
  cases gk with
  | zero => exact absurd HA.out (by simp [impl_Val.l0])
  | succ k1 =>
   have H := HA.out
   clear HA
   simp only [impl_Val.l0] at H
   by_cases c5 : x12_1 < (l1.length : Int)
   ·rw [if_pos c5] at H
    have c5b0 : decide (x12_1 < (l1.length : Int)) = true := decide_eq_true c5
    clear c5
    by_cases c6 : 0 ≤ x12_1
    ·rw [if_pos c6] at H
     have c6b0 : decide (0 ≤ x12_1) = true := decide_eq_true c6
     clear c6
     by_cases c7 : x12_1 < (l1.length : Int)
     ·rw [if_pos c7] at H
      have c7b0 : decide (x12_1 < (l1.length : Int)) = true := decide_eq_true c7
      clear c7
      obtain ⟨t300, A80, H⟩ := ob H
      have A8 := Aside0.mk A80
      clear A80
      by_cases c9 : (t300.length : Int) = 2
      ·rw [if_pos c9] at H
       have c9b0 : ((t300.length : Int) == 2) = true := beq_iff_eq.mpr c9
       have c9b1 : ((t300.length : Int) != 2) = false := bne_eq_false_iff_eq.mpr c9
       clear c9
       by_cases c10 : (rd l1 x12_1) < 0
       ·rw [if_pos c10] at H
        have c10b0 : decide ((rd l1 x12_1) < 0) = true := decide_eq_true c10
        clear c10
        simp only [Option.some.injEq, Prod.mk.injEq] at H
        obtain ⟨rfl, rfl, rfl⟩ := H
        have p299 : 0 ≤ (x12_1 : Int) := of_decide_eq_true y23
        have q299 : x12_1 < (l1.length : Int) := of_decide_eq_true y23
        obtain ⟨ad299, e299, hx299_0⟩ := Kd.at_int HR1.out x12_1 p299 q299
        cases e299
        replace hx299_0 := (HB.out.cell (World.block_lt_of_cell? w _ hx299_0)).trans hx299_0
        replace p299 := eq_true p299
        replace q299 := eq_true q299
        have hnb11 := NB297_298.out
        have hnc11 := NB298_297.out
        have hcz12_0 := zh BK297
        have hcz12_1 := zh1 BK297
        have hfz12_0 := zfr BK297 0
        have hfz12_1 := zfr BK297 1
        obtain ⟨Ao13, co13, eo13⟩ := Kd.V_slice HO_298001.out
        subst eo13
        go_wp2_with (first | (go_at_call 76; (with_reducible refine (impl_Val_parts.calls x298000_1 (fun k_ => ((P0_1_ k_ ∨ w.heap.size ≤ k_) ∧ (k_ ≠ gb297 ∧ k_ ≠ gb298))) _ _ x298001_1 t300 _ ?side1 A8.out).mono ?_); (case side1 => exact HO_298001.out); rintro e w14 ⟨v301, rfl, ho0, hb⟩; replace HO_298001 := Aside0.mk (Kd.V_below (y10 HO_298001.out) hb); have HO302 := Aside0.mk (Kd.V_lower (Kd.V_mono (ok' := fun k_ => (P0_1_ k_ ∨ w.heap.size ≤ k_) ∧ k_ ≠ gb297 ∧ k_ ≠ gb298) ho0 (fun k_ hk_ => ⟨Or.elim hk_ (fun hs_ => hs_.1) (fun hn_ => (.inr (Nat.le_trans (below_size (y2 HB.out GE297.out GE298.out)) hn_))), Or.elim hk_ (fun hs_ => hs_.2.1) (fun hn_ => (Kd.freshB (g := gb297) (o := .cells #[.int .i64 x298000_1, .slice Ao13 x298001_1.length co13] 25 (0, 0)) (y0 BK297.out) k_ hn_)), Or.elim hk_ (fun hs_ => hs_.2.2) (fun hn_ => (Kd.freshB (g := gb298) (o := .cells #[.int .i64 x299000_1, .slice none 0 0] 25 (0, 0)) (y0 BK298.out) k_ hn_))⟩)) (below_size (y2 HB.out GE297.out GE298.out))); replace BK297 := zbb BK297 hb; replace BK298 := zbb BK298 hb; replace HB := Aside0.mk (below_step (y2 HB.out GE297.out GE298.out) hb); (try clear hb); (try clear hb2); (try clear hk); (try clear hi); (try clear ho0); obtain ⟨Ao15, co15, eo15⟩ := Kd.V_slice HO302.out; subst eo15) | ((with_reducible refine gate_dst (N := 9) rfl ?_); refine zbx 9 #[.int .i64 0, .slice none 0 0] 25 ?_; intro gb303 hg w16 hbox hb; replace HO_298001 := Aside0.mk (Kd.V_below (Kd.V_elderB (y10 HO_298001.out) gb303 (Nat.le_of_eq hg.symm)) hb); replace HO302 := Aside0.mk (Kd.V_below (Kd.V_elderB (y10 HO302.out) gb303 (Nat.le_of_eq hg.symm)) hb); have BK303 := Aside0.mk hbox; have GW303 := Aside0.mk ((y16 hg HB.out GE297.out GE298.out : w.heap.size ≤ gb303)); have GE303 := Aside0.mk ((y16 hg HB.out GE297.out GE298.out : w.heap.size ≤ gb303)); replace HB := Aside0.mk (below_step (y2 HB.out GE297.out GE298.out) hb); have NB297_303 := zltn hg BK297; have NB303_297 := zgtn hg BK297; replace BK297 := zbb BK297 hb; have NB298_303 := zltn hg BK298; have NB303_298 := zgtn hg BK298; replace BK298 := zbb BK298 hb; clear hb hbox hg; have hnb17 := NB303_297.out; have hnc17 := NB297_303.out; have hnb18 := NB303_298.out; have hnc18 := NB298_303.out; have hcz19_0 := zh BK303; have hcz19_1 := zh1 BK303; have hfz19_0 := zfr BK303 0; have hfz19_1 := zfr BK303 1; have hcz20_0 := zh BK298; have hcz20_1 := zh1 BK298; have hfz20_0 := zfr BK298 0; have hfz20_1 := zfr BK298 1))
        refine bodyPost_ret (results_ct rfl _ _ gb298 25 #[.int .i64 0, .slice none 0 0] (0, 0) _ rfl (by (with_reducible repeat (first | refine blk_drewN ?_ _ | refine blk_drew ?_ | refine blk_alloc ?_ _)); refine blk_put (cs := #[.int .i64 0, .slice none 0 0]) ?_ 1 _ rfl; (with_reducible repeat (first | refine blk_drewN ?_ _ | refine blk_drew ?_ | refine blk_alloc ?_ _)); apply blk_put (i := 0); (case h => exact y0 BK298.out); (case e => rfl)) Try.underlying25 rfl (by kernel_rfl)) rfl ?_
        exact ⟨_, y19, Kd.V_nil _ _ _ _ _, (y4 HB.out GE297.out GE298.out GE303.out)⟩
       ·rw [if_neg c10] at H
        have c10b0 : decide ((rd l1 x12_1) < 0) = false := decide_eq_false c10
        clear c10
        by_cases c21 : (rd l1 x12_1) > 1
        ·rw [if_pos c21] at H
         have c21b0 : decide (1 < (rd l1 x12_1)) = true := decide_eq_true c21
         clear c21
         simp only [Option.some.injEq, Prod.mk.injEq] at H
         obtain ⟨rfl, rfl, rfl⟩ := H
         have p299 : 0 ≤ (x12_1 : Int) := of_decide_eq_true y23
         have q299 : x12_1 < (l1.length : Int) := of_decide_eq_true y23
         obtain ⟨ad299, e299, hx299_0⟩ := Kd.at_int HR1.out x12_1 p299 q299
         cases e299
         replace hx299_0 := (HB.out.cell (World.block_lt_of_cell? w _ hx299_0)).trans hx299_0
         replace p299 := eq_true p299
         replace q299 := eq_true q299
         have hnb22 := NB297_298.out
         have hnc22 := NB298_297.out
         have hcz23_0 := zh BK297
         have hcz23_1 := zh1 BK297
         have hfz23_0 := zfr BK297 0
         have hfz23_1 := zfr BK297 1
         obtain ⟨Ao24, co24, eo24⟩ := Kd.V_slice HO_298001.out
         subst eo24
         go_wp2_with (first | (go_at_call 76; (with_reducible refine (impl_Val_parts.calls x298000_1 (fun k_ => ((P0_1_ k_ ∨ w.heap.size ≤ k_) ∧ (k_ ≠ gb297 ∧ k_ ≠ gb298))) _ _ x298001_1 t300 _ ?side1 A8.out).mono ?_); (case side1 => exact HO_298001.out); rintro e w25 ⟨v301, rfl, ho0, hb⟩; replace HO_298001 := Aside0.mk (Kd.V_below (y10 HO_298001.out) hb); have HO302 := Aside0.mk (Kd.V_lower (Kd.V_mono (ok' := fun k_ => (P0_1_ k_ ∨ w.heap.size ≤ k_) ∧ k_ ≠ gb297 ∧ k_ ≠ gb298) ho0 (fun k_ hk_ => ⟨Or.elim hk_ (fun hs_ => hs_.1) (fun hn_ => (.inr (Nat.le_trans (below_size (y2 HB.out GE297.out GE298.out)) hn_))), Or.elim hk_ (fun hs_ => hs_.2.1) (fun hn_ => (Kd.freshB (g := gb297) (o := .cells #[.int .i64 x298000_1, .slice Ao24 x298001_1.length co24] 25 (0, 0)) (y0 BK297.out) k_ hn_)), Or.elim hk_ (fun hs_ => hs_.2.2) (fun hn_ => (Kd.freshB (g := gb298) (o := .cells #[.int .i64 x299000_1, .slice none 0 0] 25 (0, 0)) (y0 BK298.out) k_ hn_))⟩)) (below_size (y2 HB.out GE297.out GE298.out))); replace BK297 := zbb BK297 hb; replace BK298 := zbb BK298 hb; replace HB := Aside0.mk (below_step (y2 HB.out GE297.out GE298.out) hb); (try clear hb); (try clear hb2); (try clear hk); (try clear hi); (try clear ho0); obtain ⟨Ao26, co26, eo26⟩ := Kd.V_slice HO302.out; subst eo26) | ((with_reducible refine gate_dst (N := 9) rfl ?_); refine zbx 9 #[.int .i64 0, .slice none 0 0] 25 ?_; intro gb304 hg w27 hbox hb; replace HO_298001 := Aside0.mk (Kd.V_below (Kd.V_elderB (y10 HO_298001.out) gb304 (Nat.le_of_eq hg.symm)) hb); replace HO302 := Aside0.mk (Kd.V_below (Kd.V_elderB (y10 HO302.out) gb304 (Nat.le_of_eq hg.symm)) hb); have BK304 := Aside0.mk hbox; have GW304 := Aside0.mk ((y16 hg HB.out GE297.out GE298.out : w.heap.size ≤ gb304)); have GE304 := Aside0.mk ((y16 hg HB.out GE297.out GE298.out : w.heap.size ≤ gb304)); replace HB := Aside0.mk (below_step (y2 HB.out GE297.out GE298.out) hb); have NB297_304 := zltn hg BK297; have NB304_297 := zgtn hg BK297; replace BK297 := zbb BK297 hb; have NB298_304 := zltn hg BK298; have NB304_298 := zgtn hg BK298; replace BK298 := zbb BK298 hb; clear hb hbox hg; have hnb28 := NB304_297.out; have hnc28 := NB297_304.out; have hnb29 := NB304_298.out; have hnc29 := NB298_304.out; have hcz30_0 := zh BK304; have hcz30_1 := zh1 BK304; have hfz30_0 := zfr BK304 0; have hfz30_1 := zfr BK304 1; have hcz31_0 := zh BK298; have hcz31_1 := zh1 BK298; have hfz31_0 := zfr BK298 0; have hfz31_1 := zfr BK298 1))
         refine bodyPost_ret (results_ct rfl _ _ gb298 25 #[.int .i64 0, .slice none 0 0] (0, 0) _ rfl (by (with_reducible repeat (first | refine blk_drewN ?_ _ | refine blk_drew ?_ | refine blk_alloc ?_ _)); refine blk_put (cs := #[.int .i64 0, .slice none 0 0]) ?_ 1 _ rfl; (with_reducible repeat (first | refine blk_drewN ?_ _ | refine blk_drew ?_ | refine blk_alloc ?_ _)); apply blk_put (i := 0); (case h => exact y0 BK298.out); (case e => rfl)) Try.underlying25 rfl (by kernel_rfl)) rfl ?_
         exact ⟨_, y19, Kd.V_nil _ _ _ _ _, (y4 HB.out GE297.out GE298.out GE304.out)⟩
        ·rw [if_neg c21] at H
         have c21b0 : decide (1 < (rd l1 x12_1)) = false := decide_eq_false c21
         clear c21
         by_cases c32 : 0 ≤ (rd l1 x12_1)
         ·rw [if_pos c32] at H
          have c32b0 : decide (0 ≤ (rd l1 x12_1)) = true := decide_eq_true c32
          clear c32
          by_cases c33 : (rd l1 x12_1) < (t300.length : Int)
          ·rw [if_pos c33] at H
           have c33b0 : decide ((rd l1 x12_1) < (t300.length : Int)) = true := decide_eq_true c33
           clear c33
           have H' := Aside0.mk H
           clear H
           have p299 : 0 ≤ (x12_1 : Int) := of_decide_eq_true y23
           have q299 : x12_1 < (l1.length : Int) := of_decide_eq_true y23
           obtain ⟨ad299, e299, hx299_0⟩ := Kd.at_int HR1.out x12_1 p299 q299
           cases e299
           replace hx299_0 := (HB.out.cell (World.block_lt_of_cell? w _ hx299_0)).trans hx299_0
           replace p299 := eq_true p299
           replace q299 := eq_true q299
           have hnb34 := NB297_298.out
           have hnc34 := NB298_297.out
           have hcz35_0 := zh BK297
           have hcz35_1 := zh1 BK297
           have hfz35_0 := zfr BK297 0
           have hfz35_1 := zfr BK297 1
           obtain ⟨Ao36, co36, eo36⟩ := Kd.V_slice HO_298001.out
           subst eo36
           go_wp2_with (first | (go_at_call 76; (with_reducible refine (impl_Val_parts.calls x298000_1 (fun k_ => ((P0_1_ k_ ∨ w.heap.size ≤ k_) ∧ (k_ ≠ gb297 ∧ k_ ≠ gb298))) _ _ x298001_1 t300 _ ?side1 A8.out).mono ?_); (case side1 => exact HO_298001.out); rintro e w37 ⟨v301, rfl, ho0, hb⟩; replace HO_298001 := Aside0.mk (Kd.V_below (y10 HO_298001.out) hb); have HO302 := Aside0.mk (Kd.V_lower (Kd.V_mono (ok' := fun k_ => (P0_1_ k_ ∨ w.heap.size ≤ k_) ∧ k_ ≠ gb297 ∧ k_ ≠ gb298) ho0 (fun k_ hk_ => ⟨Or.elim hk_ (fun hs_ => hs_.1) (fun hn_ => (.inr (Nat.le_trans (below_size (y2 HB.out GE297.out GE298.out)) hn_))), Or.elim hk_ (fun hs_ => hs_.2.1) (fun hn_ => (Kd.freshB (g := gb297) (o := .cells #[.int .i64 x298000_1, .slice Ao36 x298001_1.length co36] 25 (0, 0)) (y0 BK297.out) k_ hn_)), Or.elim hk_ (fun hs_ => hs_.2.2) (fun hn_ => (Kd.freshB (g := gb298) (o := .cells #[.int .i64 x299000_1, .slice none 0 0] 25 (0, 0)) (y0 BK298.out) k_ hn_))⟩)) (below_size (y2 HB.out GE297.out GE298.out))); replace BK297 := zbb BK297 hb; replace BK298 := zbb BK298 hb; replace HB := Aside0.mk (below_step (y2 HB.out GE297.out GE298.out) hb); (try clear hb); (try clear hb2); (try clear hk); (try clear hi); (try clear ho0); obtain ⟨Ao38, co38, eo38⟩ := Kd.V_slice HO302.out; subst eo38; have p305 : 0 ≤ ((rd l1 x12_1) : Int) := of_decide_eq_true y23; have q305 : (rd l1 x12_1) < (t300.length : Int) := of_decide_eq_true y23; obtain ⟨ad305, A305_1, c305_1, e305, hx305_0, hx305_1, hl305_1, hi305_1⟩ := at_T25 (Kd.V_reads' HO302.out).2.2 (rd l1 x12_1) p305 q305; cases e305; obtain ⟨ce305, hce305, hMe305, hcc305⟩ := Kd.V_get HO302.out z25 (rd l1 x12_1) p305 (by first | exact q305 | exact of_decide_eq_true y23 | (have e_ := (Kd.V_reads' HO302.out).1; omega)); obtain ⟨ua305_1, uc305_1, rfl, ul305_1, ge305_1⟩ := k25_openF hMe305; have hv305_1 := hcc305 1 _ rfl; rw [add_field _ _ 1 (by omega)] at hv305_1; replace hv305_1 := Option.some.inj (hv305_1.symm.trans hx305_1); injection hv305_1 with hva_ hvn_ hvc_; rw [hva_] at ge305_1; rw [hvc_] at ul305_1; have HL305_1 := Aside0.mk (show Kd.V k25 25 _ w.heap.size _ _ ((rd_T25 t300 (rd l1 x12_1)).f1) from Kd.V_mk ul305_1 ge305_1); clear hva_ hvn_ hvc_ ge305_1 ul305_1; clear hcc305 hce305; have HR305_1 := Aside0.mk hi305_1; have HC305_1 := Aside0.mk hl305_1; clear hi305_1 hl305_1; replace p305 := eq_true p305; replace q305 := eq_true q305; have hcz39_0 := zh BK297; have hcz39_1 := zh1 BK297; have hfz39_0 := zfr BK297 0; have hfz39_1 := zfr BK297 1))
           go_roundg k1
           case measure => have := HK1.out; omega
           case rel => exact ⟨(wrap64 (x12_1 + 1)), ((rd_T25 t300 (rd l1 x12_1)).f0), ((rd_T25 t300 (rd l1 x12_1)).f1), (x299000_1), (.slice A305_1 ((rd_T25 t300 (rd l1 x12_1)).f1).length c305_1), y34, H', ⟨(y57 HK1.out)⟩, ⟨(by (with_reducible repeat (first | apply Kd.V_alloc | apply Kd.V_drewN | apply Kd.V_drew)); exact Kd.V_mono (Kd.V_far (p := ⟨gb297, 1, none⟩) (Kd.V_far (p := ⟨gb297, 0, none⟩) (Kd.V_mono HL305_1.out (fun k_ hk => (⟨hk, hk.2.1⟩ : _ ∧ k_ ≠ gb297))) (fun _ hk => hk.2) (.int .i64 ((rd_T25 t300 (rd l1 x12_1)).f0))) (fun _ hk => hk.2) (.slice A305_1 ((rd_T25 t300 (rd l1 x12_1)).f1).length c305_1)) (fun _ hk => ⟨hk.1.1, ⟨hk.1.2.1, hk.1.2.2⟩⟩))⟩, ⟨(by (with_reducible repeat (first | refine blk_drewN ?_ _ | refine blk_drew ?_ | refine blk_alloc ?_ _)); refine blk_put (cs := #[.int .i64 ((rd_T25 t300 (rd l1 x12_1)).f0), .slice Ao36 x298001_1.length co36]) ?_ 1 _ rfl; (with_reducible repeat (first | refine blk_drewN ?_ _ | refine blk_drew ?_ | refine blk_alloc ?_ _)); refine blk_put (cs := #[.int .i64 x298000_1, .slice Ao36 x298001_1.length co36]) ?_ 0 _ rfl; (with_reducible repeat (first | refine blk_drewN ?_ _ | refine blk_drew ?_ | refine blk_alloc ?_ _)); exact BK297.out)⟩, ⟨(y1 NB298_297.out BK298.out)⟩, ⟨(y2 HB.out GE297.out GE298.out)⟩⟩
          ·rw [if_neg c33] at H
           exact absurd H (by simp)
         ·rw [if_neg c32] at H
          exact absurd H (by simp)
      ·rw [if_neg c9] at H
       have c9b0 : ((t300.length : Int) == 2) = false := beq_eq_false_iff_ne.mpr c9
       have c9b1 : ((t300.length : Int) != 2) = true := bne_iff_ne.mpr c9
       simp only [Option.some.injEq, Prod.mk.injEq] at H
       obtain ⟨rfl, rfl, rfl⟩ := H
       have p299 : 0 ≤ (x12_1 : Int) := of_decide_eq_true y23
       have q299 : x12_1 < (l1.length : Int) := of_decide_eq_true y23
       obtain ⟨ad299, e299, hx299_0⟩ := Kd.at_int HR1.out x12_1 p299 q299
       cases e299
       replace hx299_0 := (HB.out.cell (World.block_lt_of_cell? w _ hx299_0)).trans hx299_0
       replace p299 := eq_true p299
       replace q299 := eq_true q299
       have hnb40 := NB297_298.out
       have hnc40 := NB298_297.out
       have hcz41_0 := zh BK297
       have hcz41_1 := zh1 BK297
       have hfz41_0 := zfr BK297 0
       have hfz41_1 := zfr BK297 1
       obtain ⟨Ao42, co42, eo42⟩ := Kd.V_slice HO_298001.out
       subst eo42
       go_wp2_with (first | (go_at_call 76; (with_reducible refine (impl_Val_parts.calls x298000_1 (fun k_ => ((P0_1_ k_ ∨ w.heap.size ≤ k_) ∧ (k_ ≠ gb297 ∧ k_ ≠ gb298))) _ _ x298001_1 t300 _ ?side1 A8.out).mono ?_); (case side1 => exact HO_298001.out); rintro e w43 ⟨v301, rfl, ho0, hb⟩; replace HO_298001 := Aside0.mk (Kd.V_below (y10 HO_298001.out) hb); have HO302 := Aside0.mk (Kd.V_lower (Kd.V_mono (ok' := fun k_ => (P0_1_ k_ ∨ w.heap.size ≤ k_) ∧ k_ ≠ gb297 ∧ k_ ≠ gb298) ho0 (fun k_ hk_ => ⟨Or.elim hk_ (fun hs_ => hs_.1) (fun hn_ => (.inr (Nat.le_trans (below_size (y2 HB.out GE297.out GE298.out)) hn_))), Or.elim hk_ (fun hs_ => hs_.2.1) (fun hn_ => (Kd.freshB (g := gb297) (o := .cells #[.int .i64 x298000_1, .slice Ao42 x298001_1.length co42] 25 (0, 0)) (y0 BK297.out) k_ hn_)), Or.elim hk_ (fun hs_ => hs_.2.2) (fun hn_ => (Kd.freshB (g := gb298) (o := .cells #[.int .i64 x299000_1, .slice none 0 0] 25 (0, 0)) (y0 BK298.out) k_ hn_))⟩)) (below_size (y2 HB.out GE297.out GE298.out))); replace BK297 := zbb BK297 hb; replace BK298 := zbb BK298 hb; replace HB := Aside0.mk (below_step (y2 HB.out GE297.out GE298.out) hb); (try clear hb); (try clear hb2); (try clear hk); (try clear hi); (try clear ho0); obtain ⟨Ao44, co44, eo44⟩ := Kd.V_slice HO302.out; subst eo44) | ((with_reducible refine gate_dst (N := 9) rfl ?_); refine zbx 9 #[.int .i64 0, .slice none 0 0] 25 ?_; intro gb306 hg w45 hbox hb; replace HO_298001 := Aside0.mk (Kd.V_below (Kd.V_elderB (y10 HO_298001.out) gb306 (Nat.le_of_eq hg.symm)) hb); replace HO302 := Aside0.mk (Kd.V_below (Kd.V_elderB (y10 HO302.out) gb306 (Nat.le_of_eq hg.symm)) hb); have BK306 := Aside0.mk hbox; have GW306 := Aside0.mk ((y16 hg HB.out GE297.out GE298.out : w.heap.size ≤ gb306)); have GE306 := Aside0.mk ((y16 hg HB.out GE297.out GE298.out : w.heap.size ≤ gb306)); replace HB := Aside0.mk (below_step (y2 HB.out GE297.out GE298.out) hb); have NB297_306 := zltn hg BK297; have NB306_297 := zgtn hg BK297; replace BK297 := zbb BK297 hb; have NB298_306 := zltn hg BK298; have NB306_298 := zgtn hg BK298; replace BK298 := zbb BK298 hb; clear hb hbox hg; have hnb46 := NB306_297.out; have hnc46 := NB297_306.out; have hnb47 := NB306_298.out; have hnc47 := NB298_306.out; have hcz48_0 := zh BK306; have hcz48_1 := zh1 BK306; have hfz48_0 := zfr BK306 0; have hfz48_1 := zfr BK306 1; have hcz49_0 := zh BK298; have hcz49_1 := zh1 BK298; have hfz49_0 := zfr BK298 0; have hfz49_1 := zfr BK298 1))
       refine bodyPost_ret (results_ct rfl _ _ gb298 25 #[.int .i64 0, .slice none 0 0] (0, 0) _ rfl (by (with_reducible repeat (first | refine blk_drewN ?_ _ | refine blk_drew ?_ | refine blk_alloc ?_ _)); refine blk_put (cs := #[.int .i64 0, .slice none 0 0]) ?_ 1 _ rfl; (with_reducible repeat (first | refine blk_drewN ?_ _ | refine blk_drew ?_ | refine blk_alloc ?_ _)); apply blk_put (i := 0); (case h => exact y0 BK298.out); (case e => rfl)) Try.underlying25 rfl (by kernel_rfl)) rfl ?_
       exact ⟨_, y19, Kd.V_nil _ _ _ _ _, (y4 HB.out GE297.out GE298.out GE306.out)⟩
     ·rw [if_neg c7] at H
      exact absurd H (by simp)
    ·rw [if_neg c6] at H
     exact absurd H (by simp)
   ·rw [if_neg c5] at H
    have c5b0 : decide (x12_1 < (l1.length : Int)) = false := decide_eq_false c5
    clear c5
    simp only [Option.some.injEq, Prod.mk.injEq] at H
    obtain ⟨rfl, rfl, rfl⟩ := H
    have hnb50 := NB297_298.out
    have hnc50 := NB298_297.out
    have hcz51_0 := zh BK297
    have hcz51_1 := zh1 BK297
    have hfz51_0 := zfr BK297 0
    have hfz51_1 := zfr BK297 1
    have hcz52_0 := zh BK298
    have hcz52_1 := zh1 BK298
    have hfz52_0 := zfr BK298 0
    have hfz52_1 := zfr BK298 1
    obtain ⟨Ao53, co53, eo53⟩ := Kd.V_slice HO_298001.out
    subst eo53
    go_wp2
    refine bodyPost_ret (results_ct rfl _ _ gb298 25 #[.int .i64 x298000_1, .slice Ao53 x298001_1.length co53] (0, 0) _ rfl (by (with_reducible repeat (first | refine blk_drewN ?_ _ | refine blk_drew ?_ | refine blk_alloc ?_ _)); refine blk_put (cs := #[.int .i64 x298000_1, .slice none 0 0]) ?_ 1 _ rfl; (with_reducible repeat (first | refine blk_drewN ?_ _ | refine blk_drew ?_ | refine blk_alloc ?_ _)); apply blk_put (i := 0); (case h => exact y0 BK298.out); (case e => rfl)) Try.underlying25 rfl (by kernel_rfl)) rfl ?_
    exact ⟨_, y19, (by (with_reducible repeat (first | apply Kd.V_alloc | apply Kd.V_drewN | apply Kd.V_drew)); exact Kd.V_mono (Kd.V_far (p := ⟨gb298, 1, none⟩) (Kd.V_far (p := ⟨gb298, 0, none⟩) (Kd.V_mono HO_298001.out (fun k_ hk => (⟨hk, hk.2.2⟩ : _ ∧ k_ ≠ gb298))) (fun _ hk => hk.2) (.int .i64 x298000_1)) (fun _ hk => hk.2) (.slice Ao53 x298001_1.length co53)) (fun _ hk => hk.1.1)), (y2 HB.out GE297.out GE298.out)⟩
end Go.Proofs.Ythfflieeifakdaa.PA
end
section
namespace Go.Proofs.Ythfflieeifakdaa.PA
open Go.RowKit Go.Proofs.YthfflieeifakdaaW.PrintWords Go.Proofs.YthfflieeifakdaaW.PrintLast Go.Proofs.YthfflieeifakdaaW.PrintMore
attribute [local go_sem] max2_int min2_int max_two min_two max_three min_three max_four min_four
set_option linter.unusedVariables false
set_option linter.unusedSimpArgs false
def impl_valCopy.f : Nat → Int → List (S25) → Option (Int × (List (S25)))
 | 0, _, _ => none
 | k + 1, a0_0, l0_1 => if (l0_1.length : Int) = 0 then (some (a0_0, ([] : List (S25)))) else (if 0 < (l0_1.length : Int) then ((impl_valCopy.f k ((rd_T25 l0_1 0).f0) ((rd_T25 l0_1 0).f1)).bind fun bt310 => (if 1 < (l0_1.length : Int) then ((impl_valCopy.f k ((rd_T25 l0_1 1).f0) ((rd_T25 l0_1 1).f1)).bind fun bt315 => (some (0, (([(⟨bt310.1, bt310.2⟩ : S25), (⟨bt315.1, bt315.2⟩ : S25)] : List (S25)))))) else (none))) else (none))
theorem impl_valCopy.mono_l : ∀ k, (∀ y0 y1, LeO (impl_valCopy.f k y0 y1) (impl_valCopy.f (k + 1) y0 y1))
 | 0 => fun _ _ r h => by simp [impl_valCopy.f] at h
 | k + 1 => by
  have ih0 := impl_valCopy.mono_l k
  ·intro y0 y1
   unfold impl_valCopy.f
   repeat' first
   | (with_reducible exact ih0 _ _)
   | (with_reducible exact LeO.refl _)
   | (with_reducible exact LeO.none _)
   | (with_reducible refine LeO.ite ?_ ?_)
   | (with_reducible refine LeO.bind ?_ (fun _ => ?_))
   | exact ih0 _ _
   | exact LeO.none _
   | refine LeO.ite ?_ ?_
   | refine LeO.bind ?_ (fun _ => ?_)
theorem impl_valCopy.mono : ∀ a0 a1 k, LeO (impl_valCopy.f k a0 a1) (impl_valCopy.f (k + 1) a0 a1) := by
 intro a0 a1 k
 have ih0 := impl_valCopy.mono_l k
 exact ih0 a0 a1
def impl_valCopy.T3 : Bool × List (List Nat × List Nat) := (true, [([], []), ([0], [0]), ([1], [1]), ([2], [2]), ([3], [3]), ([], []), ([5], [5]), ([6], [6]), ([7], [7]), ([8, 4], [8]), ([4, 9], [4, 9]), ([10], [10]), ([11, 9, 0, 1, 2, 3, 4, 5, 6, 7, 8, 9, 10, 11], [11])])
def impl_valCopy.B3 : List Nat := [0, 1, 3, 7, 15, 0, 32, 96, 224, 511, 1023, 2047, 4095]
theorem impl_valCopy.tab3 : rtab .any (opsOf Try.f40 3) = impl_valCopy.T3 := by kernel_rfl
theorem impl_valCopy.bits3 : waitsOk impl_valCopy.T3.2 impl_valCopy.B3 = true := by kernel_rfl
set_option maxHeartbeats 8000000 in
set_option maxRecDepth 100000 in
theorem impl_valCopy.calls (k : Nat) : ∀ (a0_0 : Int) (A0_1 : Option Addr) (c0_1 : Nat) (l0_1 : List (S25)) (r1 : Int) (r2 : List (S25)) (w : World) (hr0_1 : Kd.C k25 w A0_1 l0_1.length l0_1) (hc0_1 : l0_1.length ≤ c0_1) (h : impl_valCopy.f k a0_0 l0_1 = some (r1, r2)),
  Calls Try.prog 40 #[.agg #[.int .i64 a0_0, .slice A0_1 l0_1.length c0_1]] w fun e w' => ∃ v1_ : Value, e = .returned (.agg #[.int .i64 r1, v1_]) ∧ Kd.N k25 25 w' w.heap.size (fun k_ => (w.heap.size ≤ k_)) v1_ r2 ∧ Below w.heap.size w w' := by
 induction k using Nat.strongRecOn with
 | _ k ih =>
 intro a0_0 A0_1 c0_1 l0_1 r1 r2 w hr0_1 hc0_1 h
 cases k with
 | zero => exact absurd h (by simp [impl_valCopy.f])
 | succ k =>
 simp only [impl_valCopy.f] at h
 have hu25 := Try.underlying25
 have HR0_1 := Aside0.mk hr0_1
 have HC0_1 := Aside0.mk hc0_1
 clear hr0_1 hc0_1
 have HB := Aside0.mk (Below.refl w.heap.size w)
 have H : (if (l0_1.length : Int) = 0 then (some (a0_0, ([] : List (S25)))) else (if 0 < (l0_1.length : Int) then ((impl_valCopy.f k ((rd_T25 l0_1 0).f0) ((rd_T25 l0_1 0).f1)).bind fun bt310 => (if 1 < (l0_1.length : Int) then ((impl_valCopy.f k ((rd_T25 l0_1 1).f0) ((rd_T25 l0_1 1).f1)).bind fun bt315 => (some (0, (([(⟨bt310.1, bt310.2⟩ : S25), (⟨bt315.1, bt315.2⟩ : S25)] : List (S25)))))) else (none))) else (none))) = some (r1, r2) := h
 clear h
 by_cases c2 : (l0_1.length : Int) = 0
 ·rw [if_pos c2] at H
  have c2b0 : ((l0_1.length : Int) == 0) = true := beq_iff_eq.mpr c2
  have c2b1 : ((l0_1.length : Int) != 0) = false := bne_eq_false_iff_eq.mpr c2
  clear c2
  simp only [Option.some.injEq, Prod.mk.injEq] at H
  obtain ⟨rfl, rfl⟩ := H
  go_enter Try.func40, Try.ntmps40
  go_wp2_with (first | ((with_reducible refine gate_dst (N := 1) rfl ?_); refine zbx 1 #[.int .i64 a0_0, .slice A0_1 l0_1.length c0_1] 25 ?_; intro gb307 hg w3 hbox hb; have BK307 := Aside0.mk hbox; have GW307 := Aside0.mk ((y9 hg HB.out : w.heap.size ≤ gb307)); have GE307 := Aside0.mk ((y9 hg HB.out : w.heap.size ≤ gb307)); replace HB := Aside0.mk (below_step (y5 HB.out) hb); clear hb hbox hg) | ((with_reducible refine gate_dst (N := 2) rfl ?_); refine zbx 2 #[.int .i64 0, .slice none 0 0] 25 ?_; intro gb308 hg w4 hbox hb; have BK308 := Aside0.mk hbox; have GW308 := Aside0.mk ((y11 hg HB.out GE307.out : w.heap.size ≤ gb308)); have GE308 := Aside0.mk ((y11 hg HB.out GE307.out : w.heap.size ≤ gb308)); replace HB := Aside0.mk (below_step (y6 HB.out GE307.out) hb); have NB307_308 := zltn hg BK307; have NB308_307 := zgtn hg BK307; replace BK307 := zbb BK307 hb; clear hb hbox hg; have hnb5 := NB307_308.out; have hnc5 := NB308_307.out; have hcz6_0 := zh BK307; have hcz6_1 := zh1 BK307; have hfz6_0 := zfr BK307 0; have hfz6_1 := zfr BK307 1; have hcz7_0 := zh BK308; have hcz7_1 := zh1 BK308; have hfz7_0 := zfr BK308 0; have hfz7_1 := zfr BK308 1))
  refine bodyPost_ret (results_cell_row rfl _ _ gb308 25 #[.int .i64 a0_0, .slice none 0 0] (0, 0) _ rfl (by (with_reducible repeat (first | refine blk_drewN ?_ _ | refine blk_drew ?_ | refine blk_alloc ?_ _)); refine blk_put (cs := #[.int .i64 a0_0, .slice none 0 0]) ?_ 1 _ rfl; (with_reducible repeat (first | refine blk_drewN ?_ _ | refine blk_drew ?_ | refine blk_alloc ?_ _)); apply blk_put (i := 0); (case h => exact y0 BK308.out); (case e => rfl)) Try.underlying25 rfl (by kernel_rfl)) rfl ?_
  exact ⟨_, y19, y37, (y2 HB.out GE307.out GE308.out)⟩
 ·rw [if_neg c2] at H
  have c2b0 : ((l0_1.length : Int) == 0) = false := beq_eq_false_iff_ne.mpr c2
  have c2b1 : ((l0_1.length : Int) != 0) = true := bne_iff_ne.mpr c2
  have c2b2 : ¬ (l0_1 = []) := fun h_ => c2 (by rw [h_]; rfl)
  by_cases c8 : 0 < (l0_1.length : Int)
  ·rw [if_pos c8] at H
   have c8b0 : decide (0 < (l0_1.length : Int)) = true := decide_eq_true c8
   have c8b1 : decide (0 < l0_1.length) = true := decide_eq_true (by omega)
   clear c8
   obtain ⟨⟨t310, t311⟩, A90, H⟩ := ob H
   have A9 := Aside0.mk A90
   clear A90
   by_cases c10 : 1 < (l0_1.length : Int)
   ·rw [if_pos c10] at H
    have c10b0 : decide (1 < (l0_1.length : Int)) = true := decide_eq_true c10
    have c10b1 : decide (1 < l0_1.length) = true := decide_eq_true (by omega)
    clear c10
    obtain ⟨⟨t315, t316⟩, A110, H⟩ := ob H
    have A11 := Aside0.mk A110
    clear A110
    obtain ⟨y319, hy319⟩ : ∃ y_ : List (S25), y_ = (([(⟨t310, t311⟩ : S25), (⟨t315, t316⟩ : S25)] : List (S25))) := ⟨_, rfl⟩
    replace H : (some (0, y319)) = some (r1, r2) := by first | (rw [hy319]; with_reducible exact H) | (have H2_ := (Option.bind_some _ _).symm.trans H; rw [hy319]; with_reducible exact H2_) | (have H2_ := (Option.bind_some _ _).symm.trans H; with_reducible exact H2_) | with_reducible exact H | (rw [hy319]; exact H) | exact H
    have Ny319 := Aside0.mk hy319
    clear hy319
    simp only [Option.some.injEq, Prod.mk.injEq] at H
    obtain ⟨rfl, rfl⟩ := H
    go_enter Try.func40, Try.ntmps40
    try go_wp2_with (first | ((with_reducible refine gate_dst (N := 1) rfl ?_); refine zbx 1 #[.int .i64 a0_0, .slice A0_1 l0_1.length c0_1] 25 ?_; intro gb307 hg w12 hbox hb; have BK307 := Aside0.mk hbox; have GW307 := Aside0.mk ((y9 hg HB.out : w.heap.size ≤ gb307)); have GE307 := Aside0.mk ((y9 hg HB.out : w.heap.size ≤ gb307)); replace HB := Aside0.mk (below_step (y5 HB.out) hb); clear hb hbox hg) | ((with_reducible refine gate_dst (N := 2) rfl ?_); refine zbx 2 #[.int .i64 0, .slice none 0 0] 25 ?_; intro gb308 hg w13 hbox hb; have BK308 := Aside0.mk hbox; have GW308 := Aside0.mk ((y11 hg HB.out GE307.out : w.heap.size ≤ gb308)); have GE308 := Aside0.mk ((y11 hg HB.out GE307.out : w.heap.size ≤ gb308)); replace HB := Aside0.mk (below_step (y6 HB.out GE307.out) hb); have NB307_308 := zltn hg BK307; have NB308_307 := zgtn hg BK307; replace BK307 := zbb BK307 hb; clear hb hbox hg; have hnb14 := NB307_308.out; have hnc14 := NB308_307.out; have hcz15_0 := zh BK307; have hcz15_1 := zh1 BK307; have hfz15_0 := zfr BK307 0; have hfz15_1 := zfr BK307 1))
    replace BK307 := Aside0.mk (blk_drew BK307.out)
    replace BK308 := Aside0.mk (blk_drew BK308.out)
    replace HB := Aside0.mk (below_drew1 HB.out)
    have p309 : 0 ≤ (0 : Int) := (by omega)
    have q309 : 0 < (l0_1.length : Int) := of_decide_eq_true y23
    obtain ⟨ad309, A309_1, c309_1, e309, hx309_0, hx309_1, hl309_1, hi309_1⟩ := at_T25 HR0_1.out 0 p309 q309
    have hw309_1 := hx309_1
    (try rw [show ((0 : Int)).toNat = 0 from rfl] at hw309_1)
    (try rw [show 0 * 2 = 0 from rfl] at hw309_1)
    (try rw [Addr.add_zero'] at hw309_1)
    have hw309_0 := hx309_0
    (try rw [show ((0 : Int)).toNat = 0 from rfl] at hw309_0)
    (try rw [show 0 * 2 = 0 from rfl] at hw309_0)
    (try rw [Addr.add_zero'] at hw309_0)
    cases e309
    have qi309 : (0 < l0_1.length) = True := eq_true (by omega)
    (try rw [show ((0 : Int)).toNat = 0 from rfl] at hx309_0)
    (try rw [show 0 * 2 = 0 from rfl] at hx309_0)
    (try rw [Addr.add_zero'] at hx309_0)
    (try rw [show ((0 : Int)).toNat = 0 from rfl] at hx309_1)
    (try rw [show 0 * 2 = 0 from rfl] at hx309_1)
    (try rw [Addr.add_zero'] at hx309_1)
    replace hx309_0 := (HB.out.cell (World.block_lt_of_cell? w _ hx309_0)).trans hx309_0
    replace hx309_1 := (HB.out.cell (World.block_lt_of_cell? w _ hx309_1)).trans hx309_1
    have HR309_1 := Aside0.mk hi309_1
    have HC309_1 := Aside0.mk hl309_1
    clear hi309_1 hl309_1
    replace p309 := eq_true p309
    replace q309 := eq_true q309
    have p314 : 0 ≤ (1 : Int) := (by omega)
    have q314 : 1 < (l0_1.length : Int) := of_decide_eq_true y23
    obtain ⟨ad314, A314_1, c314_1, e314, hx314_0, hx314_1, hl314_1, hi314_1⟩ := at_T25 HR0_1.out 1 p314 q314
    have hw314_1 := hx314_1
    (try rw [show ((1 : Int)).toNat = 1 from rfl] at hw314_1)
    (try rw [show 1 * 2 = 2 from rfl] at hw314_1)
    (try simp only [Nat.reduceMul, Nat.reduceEqDiff, Go.Addr.add, ↓reduceIte] at hw314_1)
    have hw314_0 := hx314_0
    (try rw [show ((1 : Int)).toNat = 1 from rfl] at hw314_0)
    (try rw [show 1 * 2 = 2 from rfl] at hw314_0)
    (try simp only [Nat.reduceMul, Nat.reduceEqDiff, Go.Addr.add, ↓reduceIte] at hw314_0)
    obtain rfl : ad309 = ad314 := (by injection e314)
    (try simp only [show (1 : Int).toNat = 1 from rfl, Nat.reduceMul, Nat.reduceEqDiff, Go.Addr.add, ↓reduceIte] at hx314_0)
    (try simp only [show (1 : Int).toNat = 1 from rfl, Nat.reduceMul, Nat.reduceEqDiff, Go.Addr.add, ↓reduceIte] at hx314_1)
    have qi314 : (1 < l0_1.length) = True := eq_true (by omega)
    (try rw [show ((1 : Int)).toNat = 1 from rfl] at hx314_0)
    (try rw [show 1 * 2 = 2 from rfl] at hx314_0)
    (try rw [show ((1 : Int)).toNat = 1 from rfl] at hx314_1)
    (try rw [show 1 * 2 = 2 from rfl] at hx314_1)
    replace hx314_0 := (HB.out.cell (World.block_lt_of_cell? w _ hx314_0)).trans hx314_0
    replace hx314_1 := (HB.out.cell (World.block_lt_of_cell? w _ hx314_1)).trans hx314_1
    have HR314_1 := Aside0.mk hi314_1
    have HC314_1 := Aside0.mk hl314_1
    clear hi314_1 hl314_1
    replace p314 := eq_true p314
    replace q314 := eq_true q314
    refine start_ (n := 13) (S := fun w' => w'.cell? ⟨gb307, 0, none⟩ = some (.int .i64 a0_0) ∧ w'.cell? ⟨gb307, 1, none⟩ = some (.slice (some ad309) l0_1.length c0_1) ∧ w'.cell? ad309 = some (.int .i64 ((rd_T25 l0_1 0).f0)) ∧ w'.cell? ⟨ad309.block, ad309.off + 1, none⟩ = some (.slice A309_1 ((rd_T25 l0_1 0).f1).length c309_1) ∧ w'.cell? ⟨ad309.block, ad309.off + 2, none⟩ = some (.int .i64 ((rd_T25 l0_1 1).f0)) ∧ w'.cell? ⟨ad309.block, ad309.off + 2 + 1, none⟩ = some (.slice A314_1 ((rd_T25 l0_1 1).f1).length c314_1)) (ds := []) #[false, false, false, false, false, false, false, false, false, false, false, false, false] (by kernel_rfl) rfl rfl ⟨(blk_cell BK307.out 0).trans rfl, (blk_cell BK307.out 1).trans rfl, ((HB.out.cell (World.block_lt_of_cell? w _ hw309_0)).trans hw309_0), ((HB.out.cell (World.block_lt_of_cell? w _ hw309_1)).trans hw309_1), ((HB.out.cell (World.block_lt_of_cell? w _ hw314_0)).trans hw314_0), ((HB.out.cell (World.block_lt_of_cell? w _ hw314_1)).trans hw314_1)⟩ (fun hHeld => ?_); refine with_tabW impl_valCopy.tab3 impl_valCopy.bits3 (fun HT_ HW_ => ?_)
    generalize w13.drew = w16 at BK307 BK308 HB HR309_1 HR314_1 hx309_0 hx309_1 hx314_0 hx314_1 hHeld ⊢
    refine zp 0 (some 10) HT_ ?_
    refine zp 5 (some 15) HT_ ?_
    refine zt6 1 (some 11) HT_ HW_ hHeld ?_
    refine zp 2 (some 12) HT_ ?_
    refine zt6 3 (some 13) HT_ HW_ hHeld ?_
    refine zt6 6 (some 16) HT_ HW_ hHeld ?_
    refine zp 7 (some 17) HT_ ?_
    refine zt6 8 (some 18) HT_ HW_ hHeld ?_
    refine one_ (i := 4) (N := some 14) #[true, true, true, true, true, true, true, true, true, false, false, false, false] rfl rfl (one_of HT_.out (by kernel_rfl)) (by decide) (fun K hK => ?_)
    refine goes_ Try.func40 (by kernel_rfl) rfl #[.agg #[.int .i64 ((rd_T25 l0_1 0).f0), .slice A309_1 ((rd_T25 l0_1 0).f1).length c309_1]] (by rfl) rfl rfl y8 ?_
    with_reducible refine (ih k (by omega) ((rd_T25 l0_1 0).f0) _ _ ((rd_T25 l0_1 0).f1) t310 t311 _ ?side1 ?side2 A9.out).mono ?_
    (case side1 => exact y15 HR309_1.out HB.out)
    (case side2 => exact HC309_1.out)
    rintro e w17 ⟨v312, rfl, ho0, hb⟩
    refine ⟨_, rfl, ?_⟩
    have HO313 := Aside0.mk (Kd.N_lower (Kd.N_mono (ok' := fun k_ => (w.heap.size ≤ k_) ∧ k_ ≠ gb307 ∧ k_ ≠ gb308) ho0 (fun k_ hk_ => ⟨(Nat.le_trans (below_size (y2 HB.out GE307.out GE308.out)) hk_), (Kd.freshB (g := gb307) (o := .cells #[.int .i64 a0_0, .slice (some ad309) l0_1.length c0_1] 25 (0, 0)) (y0 BK307.out) k_ hk_), (Kd.freshB (g := gb308) (o := .cells #[.int .i64 0, .slice none 0 0] 25 (0, 0)) (y0 BK308.out) k_ hk_)⟩)) (below_size (y2 HB.out GE307.out GE308.out)))
    replace BK307 := zbb BK307 hb
    replace BK308 := zbb BK308 hb
    replace HB := Aside0.mk (below_step (y2 HB.out GE307.out GE308.out) hb)
    (try clear hb)
    (try clear hb2)
    (try clear hk)
    (try clear hi)
    (try clear ho0)
    refine hK.out _ _ ⟨(blk_cell BK307.out 0).trans rfl, (blk_cell BK307.out 1).trans rfl, ((HB.out.cell (World.block_lt_of_cell? w _ hw309_0)).trans hw309_0), ((HB.out.cell (World.block_lt_of_cell? w _ hw309_1)).trans hw309_1), ((HB.out.cell (World.block_lt_of_cell? w _ hw314_0)).trans hw314_0), ((HB.out.cell (World.block_lt_of_cell? w _ hw314_1)).trans hw314_1)⟩ (fun hHeld => ?_)
    clear hK K
    refine norm_ (a' := ?_) ?_ ?_
    rotate_left
    ·show Act.put _ (some 14) _ = _
     simp only [Act.put, List.setIfInBounds_toArray, List.set_cons_zero, List.set_cons_succ, i64_w, i32_w]
     rfl
    refine one_ (i := 9) (N := some 19) #[true, true, true, true, true, true, true, true, true, true, false, false, false] rfl rfl (one_of HT_.out (by kernel_rfl)) (by decide) (fun K hK => ?_)
    refine goes_ Try.func40 (by kernel_rfl) rfl #[.agg #[.int .i64 ((rd_T25 l0_1 1).f0), .slice A314_1 ((rd_T25 l0_1 1).f1).length c314_1]] (by rfl) rfl rfl y8 ?_
    with_reducible refine (ih k (by omega) ((rd_T25 l0_1 1).f0) _ _ ((rd_T25 l0_1 1).f1) t315 t316 _ ?side1 ?side2 A11.out).mono ?_
    (case side1 => exact y15 HR314_1.out HB.out)
    (case side2 => exact HC314_1.out)
    rintro e w18 ⟨v317, rfl, ho0, hb⟩
    refine ⟨_, rfl, ?_⟩
    have HO318 := Aside0.mk (Kd.N_lower (Kd.N_mono (ok' := fun k_ => (w.heap.size ≤ k_) ∧ some k_ ≠ (v312 : Value).ownBlock ∧ k_ ≠ gb307 ∧ k_ ≠ gb308) ho0 (fun k_ hk_ => ⟨(Nat.le_trans (below_size (y2 HB.out GE307.out GE308.out)) hk_), (Kd.fresh' (Kd.N_lt (y3 HO313.out)) k_ hk_), (Kd.freshB (g := gb307) (o := .cells #[.int .i64 a0_0, .slice (some ad309) l0_1.length c0_1] 25 (0, 0)) (y0 BK307.out) k_ hk_), (Kd.freshB (g := gb308) (o := .cells #[.int .i64 0, .slice none 0 0] 25 (0, 0)) (y0 BK308.out) k_ hk_)⟩)) (below_size (y2 HB.out GE307.out GE308.out)))
    replace HO313 := Aside0.mk (Kd.N_elder' (y3 HO313.out) (Kd.N_base ho0) hb)
    replace BK307 := zbb BK307 hb
    replace BK308 := zbb BK308 hb
    replace HB := Aside0.mk (below_step (y2 HB.out GE307.out GE308.out) hb)
    (try clear hb)
    (try clear hb2)
    (try clear hk)
    (try clear hi)
    (try clear ho0)
    obtain ⟨Ao19, co19, eo19⟩ := Kd.N_slice HO313.out
    (first | subst eo19 | (injection eo19 with f1_ f2_ f3_; have f4_ := f1_.symm; have f5_ := f3_.symm; clear f1_ f2_ f3_; subst f4_; subst f5_))
    obtain ⟨Ao20, co20, eo20⟩ := Kd.N_slice HO318.out
    (first | subst eo20 | (injection eo20 with f1_ f2_ f3_; have f4_ := f1_.symm; have f5_ := f3_.symm; clear f1_ f2_ f3_; subst f4_; subst f5_))
    refine hK.out _ _ ⟨(blk_cell BK307.out 0).trans rfl, (blk_cell BK307.out 1).trans rfl, ((HB.out.cell (World.block_lt_of_cell? w _ hw309_0)).trans hw309_0), ((HB.out.cell (World.block_lt_of_cell? w _ hw309_1)).trans hw309_1), ((HB.out.cell (World.block_lt_of_cell? w _ hw314_0)).trans hw314_0), ((HB.out.cell (World.block_lt_of_cell? w _ hw314_1)).trans hw314_1)⟩ (fun hHeld => ?_)
    clear hK K
    refine norm_ (a' := ?_) ?_ ?_
    rotate_left
    ·show Act.put _ (some 19) _ = _
     simp only [Act.put, List.setIfInBounds_toArray, List.set_cons_zero, List.set_cons_succ, i64_w, i32_w]
     rfl
    refine one_ (i := 10) (N := some 20) #[true, true, true, true, true, true, true, true, true, true, true, false, false] rfl rfl (one_of HT_.out (by kernel_rfl)) (by decide) (fun K hK => ?_)
    refine Kd.N_lit_step k25 _ 25 ?hg (N' := 20) ?hd (xs := ([(⟨t310, t311⟩ : S25), (⟨t315, t316⟩ : S25)] : List (S25))) (inner := [.int .i64 t310, .slice Ao19 t311.length co19, .int .i64 t315, .slice Ao20 t316.length co20]) (ok := (fun k_ => (w.heap.size ≤ k_) ∧ k_ ≠ gb307 ∧ k_ ≠ gb308)) (okp := (fun k_ => (w.heap.size ≤ k_) ∧ k_ ≠ gb307 ∧ k_ ≠ gb308)) ?hr ?hp (fun _ hk => hk) ((show ∀ k_, w18.heap.size ≤ k_ → (fun k_ => (w.heap.size ≤ k_) ∧ k_ ≠ gb307 ∧ k_ ≠ gb308) k_ from fun k_ hk => ⟨(Nat.le_trans (below_size (y2 HB.out GE307.out GE308.out)) hk), Kd.freshB (g := gb307) (o := .cells #[.int .i64 a0_0, .slice (some ad309) l0_1.length c0_1] 25 (0, 0)) (y0 BK307.out) k_ hk, Kd.freshB (g := gb308) (o := .cells #[.int .i64 0, .slice none 0 0] 25 (0, 0)) (y0 BK308.out) k_ hk⟩) _ (Nat.le_refl _)) (Below.refl _ _) (Nat.le_refl _) (by simp) ?_; (case hd => rfl); (case hg => rfl); (case hr => first | (go_simp; done) | (go_simp; rfl)); (case hp => exact (Reps.c2 (show Kd.FK k25 _ _ (⟨t310, t311⟩ : S25) [.int .i64 t310, .slice Ao19 t311.length co19] from (k25_mkF _ _ (⟨t310, t311⟩ : S25) (Kd.N_reads' (Kd.N_mono (ok' := (fun k_ => (w.heap.size ≤ k_) ∧ k_ ≠ gb307 ∧ k_ ≠ gb308)) (HO313.out) (fun k_ hk => ⟨hk.1.1, ⟨hk.1.2.1, hk.1.2.2⟩⟩))).2.1 (Kd.N_F (Kd.N_mono (ok' := (fun k_ => (w.heap.size ≤ k_) ∧ k_ ≠ gb307 ∧ k_ ≠ gb308)) (HO313.out) (fun k_ hk => ⟨hk.1.1, ⟨hk.1.2.1, hk.1.2.2⟩⟩))))) (Reps.c2 (show Kd.FK k25 _ _ (⟨t315, t316⟩ : S25) [.int .i64 t315, .slice Ao20 t316.length co20] from (k25_mkF _ _ (⟨t315, t316⟩ : S25) (Kd.N_reads' (Kd.N_mono (ok' := (fun k_ => (w.heap.size ≤ k_) ∧ k_ ≠ gb307 ∧ k_ ≠ gb308)) (HO318.out) (fun k_ hk => ⟨hk.1, ⟨hk.2.2.1, hk.2.2.2⟩⟩))).2.1 (Kd.N_F (Kd.N_mono (ok' := (fun k_ => (w.heap.size ≤ k_) ∧ k_ ≠ gb307 ∧ k_ ≠ gb308)) (HO318.out) (fun k_ hk => ⟨hk.1, ⟨hk.2.2.1, hk.2.2.2⟩⟩))))) (Reps.none _ _))))
    intro v320 w21 ho22 hb hg_ hnew_
    clear hg_ hnew_
    (first | rw [← Ny319.out] at ho22 | (simp only [Int.reduceToNat] at ho22; rw [← Ny319.out] at ho22))
    have HO321 := Aside0.mk (Kd.N_lower ho22 (below_size (y2 HB.out GE307.out GE308.out)))
    replace BK307 := zbb BK307 hb
    replace BK308 := zbb BK308 hb
    replace HB := Aside0.mk (below_step (y2 HB.out GE307.out GE308.out) hb)
    clear HO313 HO318
    clear hb ho22
    obtain ⟨Ao23, co23, eo23⟩ := Kd.N_slice HO321.out
    (first | subst eo23 | (injection eo23 with f1_ f2_ f3_; have f4_ := f1_.symm; have f5_ := f3_.symm; clear f1_ f2_ f3_; subst f4_; subst f5_))
    refine hK.out _ _ ⟨(blk_cell BK307.out 0).trans rfl, (blk_cell BK307.out 1).trans rfl, ((HB.out.cell (World.block_lt_of_cell? w _ hw309_0)).trans hw309_0), ((HB.out.cell (World.block_lt_of_cell? w _ hw309_1)).trans hw309_1), ((HB.out.cell (World.block_lt_of_cell? w _ hw314_0)).trans hw314_0), ((HB.out.cell (World.block_lt_of_cell? w _ hw314_1)).trans hw314_1)⟩ (fun hHeld => ?_)
    clear hK K
    refine norm_ (a' := ?_) ?_ ?_
    rotate_left
    ·show Act.put _ (some 20) _ = _
     simp only [Act.put, List.setIfInBounds_toArray, List.set_cons_zero, List.set_cons_succ, i64_w, i32_w]
     rfl
    refine zp 11 (some 21) HT_ ?_
    refine one_ (i := 12) (N := none) #[true, true, true, true, true, true, true, true, true, true, true, true, true] rfl rfl (one_of HT_.out (by kernel_rfl)) (by decide) (fun K hK => ?_)
    have hs24 : w21.cell? ⟨gb308, 0, none⟩ = some (.int .i64 0) := (blk_cell BK308.out 0).trans rfl
    have hfs24 := zfr BK308 0
    have hns24_0 := NB307_308.out
    have hms24_0 := NB308_307.out
    have hs25 : w21.cell? ⟨gb308, 1, none⟩ = some (.slice none 0 0) := (blk_cell BK308.out 1).trans rfl
    have hfs25 := zfr BK308 1
    have hns25_0 := NB307_308.out
    have hms25_0 := NB308_307.out
    refine skip_ (w1 := ?_) (by rfl) rfl ?_ ?_
    rotate_left
    ·go_simp
     rfl
    refine hK.out _ _ ⟨((cell_far (p := ⟨gb308, _, none⟩) NB307_308.out _).trans (((cell_far (p := ⟨gb308, _, none⟩) NB307_308.out _).trans (hHeld.1)))), ((cell_far (p := ⟨gb308, _, none⟩) NB307_308.out _).trans (((cell_far (p := ⟨gb308, _, none⟩) NB307_308.out _).trans (hHeld.2.1)))), ((cell_far (p := ⟨gb308, _, none⟩) (by first | exact Nat.ne_of_lt (Nat.lt_of_lt_of_le (by have := World.block_lt_of_cell? _ _ hw309_0; first | rwa [add_block] at this | exact this) GW308.out) | (rw [add_block]; exact Nat.ne_of_lt (Nat.lt_of_lt_of_le (by have := World.block_lt_of_cell? _ _ hw309_0; first | rwa [add_block] at this | exact this) GW308.out)) | (show (Addr.add _ _).block ≠ _; rw [add_block]; exact Nat.ne_of_lt (Nat.lt_of_lt_of_le (by have := World.block_lt_of_cell? _ _ hw309_0; first | rwa [add_block] at this | exact this) GW308.out)) | (dsimp only; exact Nat.ne_of_lt (Nat.lt_of_lt_of_le (by have := World.block_lt_of_cell? _ _ hw309_0; first | rwa [add_block] at this | exact this) GW308.out))) _).trans (((cell_far (p := ⟨gb308, _, none⟩) (by first | exact Nat.ne_of_lt (Nat.lt_of_lt_of_le (by have := World.block_lt_of_cell? _ _ hw309_0; first | rwa [add_block] at this | exact this) GW308.out) | (rw [add_block]; exact Nat.ne_of_lt (Nat.lt_of_lt_of_le (by have := World.block_lt_of_cell? _ _ hw309_0; first | rwa [add_block] at this | exact this) GW308.out)) | (show (Addr.add _ _).block ≠ _; rw [add_block]; exact Nat.ne_of_lt (Nat.lt_of_lt_of_le (by have := World.block_lt_of_cell? _ _ hw309_0; first | rwa [add_block] at this | exact this) GW308.out)) | (dsimp only; exact Nat.ne_of_lt (Nat.lt_of_lt_of_le (by have := World.block_lt_of_cell? _ _ hw309_0; first | rwa [add_block] at this | exact this) GW308.out))) _).trans (hHeld.2.2.1)))), ((cell_far (p := ⟨gb308, _, none⟩) (by first | exact Nat.ne_of_lt (Nat.lt_of_lt_of_le (by have := World.block_lt_of_cell? _ _ hw309_1; first | rwa [add_block] at this | exact this) GW308.out) | (rw [add_block]; exact Nat.ne_of_lt (Nat.lt_of_lt_of_le (by have := World.block_lt_of_cell? _ _ hw309_1; first | rwa [add_block] at this | exact this) GW308.out)) | (show (Addr.add _ _).block ≠ _; rw [add_block]; exact Nat.ne_of_lt (Nat.lt_of_lt_of_le (by have := World.block_lt_of_cell? _ _ hw309_1; first | rwa [add_block] at this | exact this) GW308.out)) | (dsimp only; exact Nat.ne_of_lt (Nat.lt_of_lt_of_le (by have := World.block_lt_of_cell? _ _ hw309_1; first | rwa [add_block] at this | exact this) GW308.out))) _).trans (((cell_far (p := ⟨gb308, _, none⟩) (by first | exact Nat.ne_of_lt (Nat.lt_of_lt_of_le (by have := World.block_lt_of_cell? _ _ hw309_1; first | rwa [add_block] at this | exact this) GW308.out) | (rw [add_block]; exact Nat.ne_of_lt (Nat.lt_of_lt_of_le (by have := World.block_lt_of_cell? _ _ hw309_1; first | rwa [add_block] at this | exact this) GW308.out)) | (show (Addr.add _ _).block ≠ _; rw [add_block]; exact Nat.ne_of_lt (Nat.lt_of_lt_of_le (by have := World.block_lt_of_cell? _ _ hw309_1; first | rwa [add_block] at this | exact this) GW308.out)) | (dsimp only; exact Nat.ne_of_lt (Nat.lt_of_lt_of_le (by have := World.block_lt_of_cell? _ _ hw309_1; first | rwa [add_block] at this | exact this) GW308.out))) _).trans (hHeld.2.2.2.1)))), ((cell_far (p := ⟨gb308, _, none⟩) (by first | exact Nat.ne_of_lt (Nat.lt_of_lt_of_le (by have := World.block_lt_of_cell? _ _ hw314_0; first | rwa [add_block] at this | exact this) GW308.out) | (rw [add_block]; exact Nat.ne_of_lt (Nat.lt_of_lt_of_le (by have := World.block_lt_of_cell? _ _ hw314_0; first | rwa [add_block] at this | exact this) GW308.out)) | (show (Addr.add _ _).block ≠ _; rw [add_block]; exact Nat.ne_of_lt (Nat.lt_of_lt_of_le (by have := World.block_lt_of_cell? _ _ hw314_0; first | rwa [add_block] at this | exact this) GW308.out)) | (dsimp only; exact Nat.ne_of_lt (Nat.lt_of_lt_of_le (by have := World.block_lt_of_cell? _ _ hw314_0; first | rwa [add_block] at this | exact this) GW308.out))) _).trans (((cell_far (p := ⟨gb308, _, none⟩) (by first | exact Nat.ne_of_lt (Nat.lt_of_lt_of_le (by have := World.block_lt_of_cell? _ _ hw314_0; first | rwa [add_block] at this | exact this) GW308.out) | (rw [add_block]; exact Nat.ne_of_lt (Nat.lt_of_lt_of_le (by have := World.block_lt_of_cell? _ _ hw314_0; first | rwa [add_block] at this | exact this) GW308.out)) | (show (Addr.add _ _).block ≠ _; rw [add_block]; exact Nat.ne_of_lt (Nat.lt_of_lt_of_le (by have := World.block_lt_of_cell? _ _ hw314_0; first | rwa [add_block] at this | exact this) GW308.out)) | (dsimp only; exact Nat.ne_of_lt (Nat.lt_of_lt_of_le (by have := World.block_lt_of_cell? _ _ hw314_0; first | rwa [add_block] at this | exact this) GW308.out))) _).trans (hHeld.2.2.2.2.1)))), ((cell_far (p := ⟨gb308, _, none⟩) (by first | exact Nat.ne_of_lt (Nat.lt_of_lt_of_le (by have := World.block_lt_of_cell? _ _ hw314_1; first | rwa [add_block] at this | exact this) GW308.out) | (rw [add_block]; exact Nat.ne_of_lt (Nat.lt_of_lt_of_le (by have := World.block_lt_of_cell? _ _ hw314_1; first | rwa [add_block] at this | exact this) GW308.out)) | (show (Addr.add _ _).block ≠ _; rw [add_block]; exact Nat.ne_of_lt (Nat.lt_of_lt_of_le (by have := World.block_lt_of_cell? _ _ hw314_1; first | rwa [add_block] at this | exact this) GW308.out)) | (dsimp only; exact Nat.ne_of_lt (Nat.lt_of_lt_of_le (by have := World.block_lt_of_cell? _ _ hw314_1; first | rwa [add_block] at this | exact this) GW308.out))) _).trans (((cell_far (p := ⟨gb308, _, none⟩) (by first | exact Nat.ne_of_lt (Nat.lt_of_lt_of_le (by have := World.block_lt_of_cell? _ _ hw314_1; first | rwa [add_block] at this | exact this) GW308.out) | (rw [add_block]; exact Nat.ne_of_lt (Nat.lt_of_lt_of_le (by have := World.block_lt_of_cell? _ _ hw314_1; first | rwa [add_block] at this | exact this) GW308.out)) | (show (Addr.add _ _).block ≠ _; rw [add_block]; exact Nat.ne_of_lt (Nat.lt_of_lt_of_le (by have := World.block_lt_of_cell? _ _ hw314_1; first | rwa [add_block] at this | exact this) GW308.out)) | (dsimp only; exact Nat.ne_of_lt (Nat.lt_of_lt_of_le (by have := World.block_lt_of_cell? _ _ hw314_1; first | rwa [add_block] at this | exact this) GW308.out))) _).trans (hHeld.2.2.2.2.2))))⟩ (fun hHeld => ?_)
    clear hK K
    refine done_ (done_of HT_.out (by kernel_rfl)) ?_
    try go_wp2
    refine bodyPost_ret (results_cell_row rfl _ _ gb308 25 #[.int .i64 0, .slice Ao23 y319.length co23] (0, 0) _ rfl (by (with_reducible repeat (first | refine blk_drewN ?_ _ | refine blk_drew ?_ | refine blk_alloc ?_ _)); refine blk_put (cs := #[.int .i64 0, .slice none 0 0]) ?_ 1 _ rfl; (with_reducible repeat (first | refine blk_drewN ?_ _ | refine blk_drew ?_ | refine blk_alloc ?_ _)); apply blk_put (i := 0); (case h => exact y0 BK308.out); (case e => rfl)) Try.underlying25 rfl (by kernel_rfl)) rfl ?_
    exact ⟨_, y19, (by (with_reducible repeat (first | apply Kd.N_alloc | apply Kd.N_drewN | apply Kd.N_drew)); exact Kd.N_mono (Kd.N_far (p := ⟨gb308, 1, none⟩) (Kd.N_far (p := ⟨gb308, 0, none⟩) (Kd.N_mono HO321.out (fun k_ hk => (⟨hk, hk.2.2⟩ : _ ∧ k_ ≠ gb308))) (fun _ hk => hk.2) (.int .i64 0)) (fun _ hk => hk.2) (.slice Ao23 y319.length co23)) (fun _ hk => hk.1.1)), (y2 HB.out GE307.out GE308.out)⟩
   ·rw [if_neg c10] at H
    exact absurd H (by simp)
  ·rw [if_neg c8] at H
   exact absurd H (by simp)
end Go.Proofs.Ythfflieeifakdaa.PA
end
section
namespace Go.Proofs.Ythfflieeifakdaa.PA
open Go.RowKit Go.Proofs.YthfflieeifakdaaW.PrintWords Go.Proofs.YthfflieeifakdaaW.PrintLast Go.Proofs.YthfflieeifakdaaW.PrintMore
attribute [local go_sem] max2_int min2_int max_two min_two max_three min_three max_four min_four
set_option linter.unusedVariables false
set_option linter.unusedSimpArgs false
def impl_ValAt.f (k : Nat) (a0_0 : Int) (l0_1 : List (S25)) (l1 : List Int) : Option (Int × (List (S25)) × Bool) := (impl_valTyped.f k a0_0 l0_1).bind fun bt324 => (if bt324.2 = true then ((impl_Val.f k a0_0 l0_1 l1).bind fun bt329 => (if bt329.2.2 = true then ((impl_valCopy.f k bt329.1 bt329.2.1).bind fun bt335 => (some (bt335.1, bt335.2, true))) else (some (0, ([] : List (S25)), false)))) else (some (0, ([] : List (S25)), false)))
theorem impl_ValAt.mono : ∀ a0 a1 a2 k, LeO (impl_ValAt.f k a0 a1 a2) (impl_ValAt.f (k + 1) a0 a1 a2) := by
 intro a0 a1 a2 k
 unfold impl_ValAt.f
 repeat' first
   | (with_reducible exact impl_Val.mono _ _ _ _)
   | (with_reducible exact impl_valCopy.mono _ _ _)
   | (with_reducible exact impl_valTyped.mono _ _ _)
   | (with_reducible exact LeO.refl _)
   | (with_reducible exact LeO.none _)
   | (with_reducible refine LeO.ite ?_ ?_)
   | (with_reducible refine LeO.bind ?_ (fun _ => ?_))
   | exact impl_Val.mono _ _ _ _
   | exact impl_valCopy.mono _ _ _
   | exact impl_valTyped.mono _ _ _
   | exact LeO.none _
   | refine LeO.ite ?_ ?_
   | refine LeO.bind ?_ (fun _ => ?_)
set_option maxHeartbeats 8000000 in
set_option maxRecDepth 100000 in
theorem impl_ValAt.calls (k : Nat) (a0_0 : Int) (P0_1_ : Nat → Prop) (A0_1 : Option Addr) (c0_1 : Nat) (l0_1 : List (S25)) (A1 : Option Addr) (c1 : Nat) (l1 : List Int) (r1 : Int) (r2 : List (S25)) (r3 : Bool) (w : World) (hs0_1 : Kd.V k25 25 w w.heap.size (fun k_ => P0_1_ k_) (.slice A0_1 l0_1.length c0_1) l0_1) (hr1 : Kd.C (Kd.int .i64) w A1 l1.length l1) (hc1 : l1.length ≤ c1) (h : impl_ValAt.f k a0_0 l0_1 l1 = some (r1, r2, r3)) :
  Calls Try.prog 14 #[.agg #[.int .i64 a0_0, .slice A0_1 l0_1.length c0_1], .slice A1 l1.length c1] w fun e w' => ∃ v1_ : Value, e = .returned (.tuple #[.agg #[.int .i64 r1, v1_], .bool r3]) ∧ Kd.N k25 25 w' w.heap.size (fun k_ => (P0_1_ k_ ∨ w.heap.size ≤ k_)) v1_ r2 ∧ Below w.heap.size w w' := by
 have hu25 := Try.underlying25
 have hu50 := Try.underlying50
 have HO0_1 := Aside0.mk (show Kd.V k25 25 w w.heap.size (fun k_ => (P0_1_ k_ ∨ w.heap.size ≤ k_)) (.slice A0_1 l0_1.length c0_1) l0_1 from Kd.V_mono hs0_1 (fun k_ hk => .inl hk))
 have HR1 := Aside0.mk hr1
 have HC1 := Aside0.mk hc1
 clear hr1 hc1
 have HB := Aside0.mk (Below.refl w.heap.size w)
 have H : ((impl_valTyped.f k a0_0 l0_1).bind fun bt324 => (if bt324.2 = true then ((impl_Val.f k a0_0 l0_1 l1).bind fun bt329 => (if bt329.2.2 = true then ((impl_valCopy.f k bt329.1 bt329.2.1).bind fun bt335 => (some (bt335.1, bt335.2, true))) else (some (0, ([] : List (S25)), false)))) else (some (0, ([] : List (S25)), false)))) = some (r1, r2, r3) := h
 clear h
 obtain ⟨⟨t324, t327⟩, A30, H⟩ := ob H
 have A3 := Aside0.mk A30
 clear A30
 by_cases c4 : t327 = true
 ·subst c4
  rw [if_pos rfl] at H
  obtain ⟨⟨t329, t330, t333⟩, A50, H⟩ := ob H
  have A5 := Aside0.mk A50
  clear A50
  by_cases c6 : t333 = true
  ·subst c6
   rw [if_pos rfl] at H
   obtain ⟨⟨t335, t336⟩, A70, H⟩ := ob H
   have A7 := Aside0.mk A70
   clear A70
   simp only [Option.some.injEq, Prod.mk.injEq] at H
   obtain ⟨rfl, rfl, rfl⟩ := H
   go_enter Try.func14, Try.ntmps14
   go_wp2_with (first | ((with_reducible refine gate_dst (N := 2) rfl ?_); refine zbx 2 #[.int .i64 a0_0, .slice A0_1 l0_1.length c0_1] 25 ?_; intro gb322 hg w8 hbox hb; replace HO0_1 := Aside0.mk (Kd.V_below (Kd.V_elderB (y10 HO0_1.out) gb322 (Nat.le_of_eq hg.symm)) hb); have BK322 := Aside0.mk hbox; have GW322 := Aside0.mk ((y9 hg HB.out : w.heap.size ≤ gb322)); have GE322 := Aside0.mk ((y9 hg HB.out : w.heap.size ≤ gb322)); replace HB := Aside0.mk (below_step (y5 HB.out) hb); clear hb hbox hg) | ((with_reducible refine gate_dst (N := 4) rfl ?_); refine zbx 4 #[.int .i64 0, .slice none 0 0] 25 ?_; intro gb323 hg w9 hbox hb; replace HO0_1 := Aside0.mk (Kd.V_below (Kd.V_elderB (y10 HO0_1.out) gb323 (Nat.le_of_eq hg.symm)) hb); have BK323 := Aside0.mk hbox; have GW323 := Aside0.mk ((y11 hg HB.out GE322.out : w.heap.size ≤ gb323)); have GE323 := Aside0.mk ((y11 hg HB.out GE322.out : w.heap.size ≤ gb323)); replace HB := Aside0.mk (below_step (y6 HB.out GE322.out) hb); have NB322_323 := zltn hg BK322; have NB323_322 := zgtn hg BK322; replace BK322 := zbb BK322 hb; clear hb hbox hg; have hnb10 := NB322_323.out; have hnc10 := NB323_322.out; have hcz11_0 := zh BK322; have hcz11_1 := zh1 BK322; have hfz11_0 := zfr BK322 0; have hfz11_1 := zfr BK322 1) | ((with_reducible refine gate_callee (f := 38) rfl ?_); refine goesL_ (some 12) rfl rfl Try.func38 (by kernel_rfl) rfl #[.agg #[.int .i64 a0_0, .slice A0_1 l0_1.length c0_1]] rfl y8 ?_; (with_reducible refine (impl_valTyped.calls k a0_0 _ _ l0_1 t324 true _ ?side1 ?side2 A3.out).mono ?_); (case side1 => exact y35 HO0_1.out); (case side2 => exact (Kd.V_reads' HO0_1.out).2.1); rintro e w12 ⟨v325, rfl, ho0, hb⟩; refine ⟨_, rfl, ?_⟩; replace HO0_1 := Aside0.mk (Kd.V_elder' (y10 HO0_1.out) (Kd.N_base ho0) hb); have HO326 := Aside0.mk (Kd.N_lower (Kd.N_mono (ok' := fun k_ => (P0_1_ k_ ∨ w.heap.size ≤ k_) ∧ k_ ≠ gb322 ∧ k_ ≠ gb323) ho0 (fun k_ hk_ => ⟨(.inr (Nat.le_trans (below_size (y2 HB.out GE322.out GE323.out)) hk_)), (Kd.freshB (g := gb322) (o := .cells #[.int .i64 a0_0, .slice A0_1 l0_1.length c0_1] 25 (0, 0)) (y0 BK322.out) k_ hk_), (Kd.freshB (g := gb323) (o := .cells #[.int .i64 0, .slice none 0 0] 25 (0, 0)) (y0 BK323.out) k_ hk_)⟩)) (below_size (y2 HB.out GE322.out GE323.out))); replace BK322 := zbb BK322 hb; replace BK323 := zbb BK323 hb; replace HB := Aside0.mk (below_step (y2 HB.out GE322.out GE323.out) hb); (try clear hb); (try clear hb2); (try clear hk); (try clear hi); (try clear ho0)) | ((with_reducible refine gate_dst (N := 6) rfl ?_); refine zbx 6 #[.slice none 0 0] 50 ?_; intro gb328 hg w13 hbox hb; replace HO0_1 := Aside0.mk (Kd.V_below (Kd.V_elderB (y10 HO0_1.out) gb328 (Nat.le_of_eq hg.symm)) hb); replace HO326 := Aside0.mk (Kd.N_below (Kd.N_elderB (y3 HO326.out) gb328 (Nat.le_of_eq hg.symm)) hb); have BK328 := Aside0.mk hbox; have GW328 := Aside0.mk ((y16 hg HB.out GE322.out GE323.out : w.heap.size ≤ gb328)); have GE328 := Aside0.mk ((y16 hg HB.out GE322.out GE323.out : w.heap.size ≤ gb328)); replace HB := Aside0.mk (below_step (y2 HB.out GE322.out GE323.out) hb); have NB322_328 := zltn hg BK322; have NB328_322 := zgtn hg BK322; replace BK322 := zbb BK322 hb; have NB323_328 := zltn hg BK323; have NB328_323 := zgtn hg BK323; replace BK323 := zbb BK323 hb; clear hb hbox hg; obtain ⟨Ao14, co14, eo14⟩ := Kd.N_slice HO326.out; subst eo14; have hnb15 := NB328_322.out; have hnc15 := NB322_328.out; have hnb16 := NB328_323.out; have hnc16 := NB323_328.out; have hcz17_0 := zh BK328; have hfz17_0 := zfr BK328 0) | ((with_reducible refine gate_store (t := 50) (p := 6) rfl ?_); refine store_event (t := 50) (p := 6) (v := ?vo_w18) (w1 := (w13.setCell ⟨gb328, 0, none⟩ (.slice Ao14 t324.length co14))) ?hg ?ho ?hn ?hr ?_; (case ho => rfl); (case hg => rfl); (case hn => rfl); (case hr => first | (go_simp; done) | (go_simp; rfl)); intro w18 hw; have n0_ : Aside0 (Kd.V k25 25 w18 w.heap.size (fun k_ => (P0_1_ k_ ∨ w.heap.size ≤ k_) ∧ some k_ ≠ (.slice Ao14 t324.length co14 : Value).ownBlock ∧ k_ ≠ gb322 ∧ k_ ≠ gb323 ∧ k_ ≠ gb328) (.slice A0_1 l0_1.length c0_1) l0_1) := ⟨(by rw [hw]; exact (by (with_reducible repeat (first | apply Kd.V_alloc | apply Kd.V_drewN | apply Kd.V_drew)); exact Kd.V_mono (Kd.V_far (p := ⟨gb328, 0, none⟩) (Kd.V_mono HO0_1.out (fun k_ hk => (⟨hk, hk.2⟩ : _ ∧ k_ ≠ gb328))) (fun _ hk => hk.2) (.slice Ao14 t324.length co14)) (fun _ hk => ⟨hk.1.1.1.1.1, ⟨hk.1.1.2, ⟨hk.1.1.1.1.2, ⟨hk.1.1.1.2, hk.1.2⟩⟩⟩⟩)))⟩; have n1_ : Aside0 (Kd.N k50 50 w18 w.heap.size (fun k_ => (P0_1_ k_ ∨ w.heap.size ≤ k_) ∧ k_ ≠ gb322 ∧ k_ ≠ gb323 ∧ k_ ≠ gb328) (.slice Ao14 t324.length co14) t324) := ⟨(by rw [hw]; exact (by (with_reducible repeat (first | apply Kd.N_alloc | apply Kd.N_drewN | apply Kd.N_drew)); exact Kd.N_mono (Kd.N_far (p := ⟨gb328, 0, none⟩) (Kd.N_mono HO326.out (fun k_ hk => (⟨hk, hk.2⟩ : _ ∧ k_ ≠ gb328))) (fun _ hk => hk.2) (.slice Ao14 t324.length co14)) (fun _ hk => ⟨hk.1.1.1, ⟨hk.1.1.2.1, ⟨hk.1.1.2.2, hk.1.2⟩⟩⟩)))⟩; have n2_ : Aside0 (w18.heap[gb322]? = some (.cells #[.int .i64 a0_0, .slice A0_1 l0_1.length c0_1] 25 (0, 0))) := ⟨(by rw [hw]; exact (y13 NB322_328.out BK322.out))⟩; have n3_ : Aside0 (w18.heap[gb323]? = some (.cells #[.int .i64 0, .slice none 0 0] 25 (0, 0))) := ⟨(by rw [hw]; exact (y13 NB323_328.out BK323.out))⟩; have n4_ : Aside0 (w18.heap[gb328]? = some (.cells #[.slice Ao14 t324.length co14] 50 (0, 0))) := ⟨(by rw [hw]; exact (by (with_reducible repeat (first | refine blk_drewN ?_ _ | refine blk_drew ?_ | refine blk_alloc ?_ _)); apply blk_put (i := 0); (case h => exact y0 BK328.out); (case e => rfl)))⟩; have n5_ : Aside0 (Below w.heap.size w w18) := ⟨(by rw [hw]; exact (y4 HB.out GE322.out GE323.out GE328.out))⟩; clear hw; clear HO0_1; clear HO326; clear BK322; clear BK323; clear BK328; clear HB; have HO0_1 := n0_; have HO326 := n1_; have BK322 := n2_; have BK323 := n3_; have BK328 := n4_; have HB := n5_; clear n0_ n1_ n2_ n3_ n4_ n5_; have hcz19_0 := zh BK322; have hcz19_1 := zh1 BK322; have hfz19_0 := zfr BK322 0; have hfz19_1 := zfr BK322 1) | ((with_reducible refine gate_callee (f := 39) rfl ?_); refine goesL_ (some 21) rfl rfl Try.func39 (by kernel_rfl) rfl #[.agg #[.int .i64 a0_0, .slice A0_1 l0_1.length c0_1], .slice A1 l1.length c1] rfl y8 ?_; (with_reducible refine (impl_Val.calls k a0_0 (fun k_ => ((P0_1_ k_ ∨ w.heap.size ≤ k_) ∧ (some k_ ≠ (.slice Ao14 t324.length co14 : Value).ownBlock ∧ (k_ ≠ gb322 ∧ (k_ ≠ gb323 ∧ k_ ≠ gb328))))) _ _ l0_1 _ _ l1 t329 t330 true _ ?side1 ?side2 ?side3 A5.out).mono ?_); (case side1 => exact HO0_1.out); (case side2 => exact y15 HR1.out HB.out); (case side3 => exact HC1.out); rintro e w20 ⟨v331, rfl, ho0, hb⟩; refine ⟨_, rfl, ?_⟩; replace HO0_1 := Aside0.mk (Kd.V_below (y10 HO0_1.out) hb); have HO332 := Aside0.mk (Kd.V_lower (Kd.V_mono (ok' := fun k_ => (P0_1_ k_ ∨ w.heap.size ≤ k_) ∧ some k_ ≠ (.slice Ao14 t324.length co14 : Value).ownBlock ∧ k_ ≠ gb322 ∧ k_ ≠ gb323 ∧ k_ ≠ gb328) ho0 (fun k_ hk_ => ⟨Or.elim hk_ (fun hs_ => hs_.1) (fun hn_ => (.inr (Nat.le_trans (below_size (y4 HB.out GE322.out GE323.out GE328.out)) hn_))), Or.elim hk_ (fun hs_ => hs_.2.1) (fun hn_ => (Kd.fresh' (Kd.N_lt (y3 HO326.out)) k_ hn_)), Or.elim hk_ (fun hs_ => hs_.2.2.1) (fun hn_ => (Kd.freshB (g := gb322) (o := .cells #[.int .i64 a0_0, .slice A0_1 l0_1.length c0_1] 25 (0, 0)) (y0 BK322.out) k_ hn_)), Or.elim hk_ (fun hs_ => hs_.2.2.2.1) (fun hn_ => (Kd.freshB (g := gb323) (o := .cells #[.int .i64 0, .slice none 0 0] 25 (0, 0)) (y0 BK323.out) k_ hn_)), Or.elim hk_ (fun hs_ => hs_.2.2.2.2) (fun hn_ => (Kd.freshB (g := gb328) (o := .cells #[.slice Ao14 t324.length co14] 50 (0, 0)) (y0 BK328.out) k_ hn_))⟩)) (below_size (y4 HB.out GE322.out GE323.out GE328.out))); replace HO326 := Aside0.mk (Kd.N_below (y3 HO326.out) hb); replace BK322 := zbb BK322 hb; replace BK323 := zbb BK323 hb; replace BK328 := zbb BK328 hb; replace HB := Aside0.mk (below_step (y4 HB.out GE322.out GE323.out GE328.out) hb); (try clear hb); (try clear hb2); (try clear hk); (try clear hi); (try clear ho0)) | ((with_reducible refine gate_dst (N := 8) rfl ?_); refine zbx 8 #[.int .i64 0, .slice none 0 0] 25 ?_; intro gb334 hg w21 hbox hb; replace HO0_1 := Aside0.mk (Kd.V_below (Kd.V_elderB (y10 HO0_1.out) gb334 (Nat.le_of_eq hg.symm)) hb); replace HO326 := Aside0.mk (Kd.N_below (Kd.N_elderB (y3 HO326.out) gb334 (Nat.le_of_eq hg.symm)) hb); replace HO332 := Aside0.mk (Kd.V_below (Kd.V_elderB (y10 HO332.out) gb334 (Nat.le_of_eq hg.symm)) hb); have BK334 := Aside0.mk hbox; have GW334 := Aside0.mk ((y22 hg HB.out GE322.out GE323.out GE328.out : w.heap.size ≤ gb334)); have GE334 := Aside0.mk ((y22 hg HB.out GE322.out GE323.out GE328.out : w.heap.size ≤ gb334)); replace HB := Aside0.mk (below_step (y4 HB.out GE322.out GE323.out GE328.out) hb); have NB322_334 := zltn hg BK322; have NB334_322 := zgtn hg BK322; replace BK322 := zbb BK322 hb; have NB323_334 := zltn hg BK323; have NB334_323 := zgtn hg BK323; replace BK323 := zbb BK323 hb; have NB328_334 := zltn hg BK328; have NB334_328 := zgtn hg BK328; replace BK328 := zbb BK328 hb; clear hb hbox hg; have hnb22 := NB334_322.out; have hnc22 := NB322_334.out; have hnb23 := NB334_323.out; have hnc23 := NB323_334.out; have hnb24 := NB334_328.out; have hnc24 := NB328_334.out; have hcz25_0 := zh BK334; have hcz25_1 := zh1 BK334; have hfz25_0 := zfr BK334 0; have hfz25_1 := zfr BK334 1; obtain ⟨Ao26, co26, eo26⟩ := Kd.V_slice HO332.out; subst eo26) | ((with_reducible refine gate_callee (f := 40) rfl ?_); refine goesL_ (some 28) rfl rfl Try.func40 (by kernel_rfl) rfl #[.agg #[.int .i64 t329, .slice Ao26 t330.length co26]] rfl y8 ?_; (with_reducible refine (impl_valCopy.calls k t329 _ _ t330 t335 t336 _ ?side1 ?side2 A7.out).mono ?_); (case side1 => refine (Kd.V_reads' (e := 25) (base := w.heap.size) (ok := fun k_ => (((P0_1_ k_ ∨ w.heap.size ≤ k_) ∧ (some k_ ≠ (.slice Ao14 t324.length co14 : Value).ownBlock ∧ (k_ ≠ gb322 ∧ (k_ ≠ gb323 ∧ k_ ≠ gb328)))) ∧ k_ ≠ gb334)) (n := t330.length) (c := co26) ?_).2.2; exact (by (with_reducible repeat (first | apply Kd.V_alloc | apply Kd.V_drewN | apply Kd.V_drew)); exact (Kd.V_mono (Kd.V_far (p := ⟨gb334, 1, none⟩) (Kd.V_far (p := ⟨gb334, 0, none⟩) (Kd.V_mono HO332.out (fun k_ hk => (⟨hk, hk.2⟩ : _ ∧ k_ ≠ gb334))) (fun _ hk => hk.2) (.int .i64 t329)) (fun _ hk => hk.2) (.slice Ao26 t330.length co26)) (fun _ h_ => h_.1)))); (case side2 => exact (Kd.V_reads' HO332.out).2.1); rintro e w27 ⟨v337, rfl, ho0, hb⟩; refine ⟨_, rfl, ?_⟩; replace HO0_1 := Aside0.mk (Kd.V_elder' (by (with_reducible repeat (first | apply Kd.V_alloc | apply Kd.V_drewN | apply Kd.V_drew)); exact (Kd.V_mono (Kd.V_far (p := ⟨gb334, 1, none⟩) (Kd.V_far (p := ⟨gb334, 0, none⟩) (Kd.V_mono HO0_1.out (fun k_ hk => (⟨hk, hk.2⟩ : _ ∧ k_ ≠ gb334))) (fun _ hk => hk.2) (.int .i64 t329)) (fun _ hk => hk.2) (.slice Ao26 t330.length co26)) (fun _ h_ => h_.1))) (Kd.N_base ho0) hb); replace HO332 := Aside0.mk (Kd.V_elder' (by (with_reducible repeat (first | apply Kd.V_alloc | apply Kd.V_drewN | apply Kd.V_drew)); exact (Kd.V_mono (Kd.V_far (p := ⟨gb334, 1, none⟩) (Kd.V_far (p := ⟨gb334, 0, none⟩) (Kd.V_mono HO332.out (fun k_ hk => (⟨hk, hk.2⟩ : _ ∧ k_ ≠ gb334))) (fun _ hk => hk.2) (.int .i64 t329)) (fun _ hk => hk.2) (.slice Ao26 t330.length co26)) (fun _ h_ => h_.1))) (Kd.N_base ho0) hb); have HO338 := Aside0.mk (Kd.N_lower (Kd.N_mono (ok' := fun k_ => (P0_1_ k_ ∨ w.heap.size ≤ k_) ∧ some k_ ≠ (.slice Ao14 t324.length co14 : Value).ownBlock ∧ k_ ≠ gb322 ∧ k_ ≠ gb323 ∧ k_ ≠ gb328 ∧ k_ ≠ gb334) ho0 (fun k_ hk_ => ⟨(.inr (Nat.le_trans (below_size (y7 HB.out GE322.out GE323.out GE328.out GE334.out)) hk_)), (Kd.fresh' (Kd.N_lt (by (with_reducible repeat (first | apply Kd.N_alloc | apply Kd.N_drewN | apply Kd.N_drew)); exact (Kd.N_mono (Kd.N_far (p := ⟨gb334, 1, none⟩) (Kd.N_far (p := ⟨gb334, 0, none⟩) (Kd.N_mono HO326.out (fun k_ hk => (⟨hk, hk.2⟩ : _ ∧ k_ ≠ gb334))) (fun _ hk => hk.2) (.int .i64 t329)) (fun _ hk => hk.2) (.slice Ao26 t330.length co26)) (fun _ h_ => h_.1)))) k_ hk_), (Kd.freshB (g := gb322) (o := .cells #[.int .i64 a0_0, .slice A0_1 l0_1.length c0_1] 25 (0, 0)) (y1 NB322_334.out BK322.out) k_ hk_), (Kd.freshB (g := gb323) (o := .cells #[.int .i64 0, .slice none 0 0] 25 (0, 0)) (y1 NB323_334.out BK323.out) k_ hk_), (Kd.freshB (g := gb328) (o := .cells #[.slice Ao14 t324.length co14] 50 (0, 0)) (y1 NB328_334.out BK328.out) k_ hk_), (Kd.freshB (g := gb334) (o := .cells #[.int .i64 t329, .slice Ao26 t330.length co26] 25 (0, 0)) (by (with_reducible repeat (first | refine blk_drewN ?_ _ | refine blk_drew ?_ | refine blk_alloc ?_ _)); refine blk_put (cs := #[.int .i64 t329, .slice none 0 0]) ?_ 1 _ rfl; (with_reducible repeat (first | refine blk_drewN ?_ _ | refine blk_drew ?_ | refine blk_alloc ?_ _)); apply blk_put (i := 0); (case h => exact y0 BK334.out); (case e => rfl)) k_ hk_)⟩)) (below_size (y7 HB.out GE322.out GE323.out GE328.out GE334.out))); replace HO326 := Aside0.mk (Kd.N_elder' (by (with_reducible repeat (first | apply Kd.N_alloc | apply Kd.N_drewN | apply Kd.N_drew)); exact (Kd.N_mono (Kd.N_far (p := ⟨gb334, 1, none⟩) (Kd.N_far (p := ⟨gb334, 0, none⟩) (Kd.N_mono HO326.out (fun k_ hk => (⟨hk, hk.2⟩ : _ ∧ k_ ≠ gb334))) (fun _ hk => hk.2) (.int .i64 t329)) (fun _ hk => hk.2) (.slice Ao26 t330.length co26)) (fun _ h_ => h_.1))) (Kd.N_base ho0) hb); replace BK322 := Aside0.mk (blk_below (g := gb322) (o := .cells #[.int .i64 a0_0, .slice A0_1 l0_1.length c0_1] 25 (0, 0)) (y1 NB322_334.out BK322.out) hb); replace BK323 := Aside0.mk (blk_below (g := gb323) (o := .cells #[.int .i64 0, .slice none 0 0] 25 (0, 0)) (y1 NB323_334.out BK323.out) hb); replace BK328 := Aside0.mk (blk_below (g := gb328) (o := .cells #[.slice Ao14 t324.length co14] 50 (0, 0)) (y1 NB328_334.out BK328.out) hb); replace BK334 := Aside0.mk (blk_below (g := gb334) (o := .cells #[.int .i64 t329, .slice Ao26 t330.length co26] 25 (0, 0)) (by (with_reducible repeat (first | refine blk_drewN ?_ _ | refine blk_drew ?_ | refine blk_alloc ?_ _)); refine blk_put (cs := #[.int .i64 t329, .slice none 0 0]) ?_ 1 _ rfl; (with_reducible repeat (first | refine blk_drewN ?_ _ | refine blk_drew ?_ | refine blk_alloc ?_ _)); apply blk_put (i := 0); (case h => exact y0 BK334.out); (case e => rfl)) hb); replace HB := Aside0.mk (below_step (y7 HB.out GE322.out GE323.out GE328.out GE334.out) hb); (try clear hb); (try clear hb2); (try clear hk); (try clear hi); (try clear ho0); have hcz28_0 := zh BK323; have hcz28_1 := zh1 BK323; have hfz28_0 := zfr BK323 0; have hfz28_1 := zfr BK323 1; obtain ⟨Ao29, co29, eo29⟩ := Kd.N_slice HO338.out; subst eo29))
   refine bodyPost_ret (results_ct rfl _ _ gb323 25 #[.int .i64 t335, .slice Ao29 t336.length co29] (0, 0) _ rfl (by (with_reducible repeat (first | refine blk_drewN ?_ _ | refine blk_drew ?_ | refine blk_alloc ?_ _)); refine blk_put (cs := #[.int .i64 t335, .slice none 0 0]) ?_ 1 _ rfl; (with_reducible repeat (first | refine blk_drewN ?_ _ | refine blk_drew ?_ | refine blk_alloc ?_ _)); apply blk_put (i := 0); (case h => exact y0 BK323.out); (case e => rfl)) Try.underlying25 rfl (by kernel_rfl)) rfl ?_
   exact ⟨_, y19, (by (with_reducible repeat (first | apply Kd.N_alloc | apply Kd.N_drewN | apply Kd.N_drew)); exact Kd.N_mono (Kd.N_far (p := ⟨gb323, 1, none⟩) (Kd.N_far (p := ⟨gb323, 0, none⟩) (Kd.N_mono HO338.out (fun k_ hk => (⟨hk, hk.2.2.2.1⟩ : _ ∧ k_ ≠ gb323))) (fun _ hk => hk.2) (.int .i64 t335)) (fun _ hk => hk.2) (.slice Ao29 t336.length co29)) (fun _ hk => hk.1.1)), (y7 HB.out GE322.out GE323.out GE328.out GE334.out)⟩
  ·replace c6 := Bool.eq_false_iff.mpr c6
   subst c6
   rw [if_neg (show ¬ (false = true) by decide)] at H
   simp only [Option.some.injEq, Prod.mk.injEq] at H
   obtain ⟨rfl, rfl, rfl⟩ := H
   go_enter Try.func14, Try.ntmps14
   go_wp2_with (first | ((with_reducible refine gate_dst (N := 2) rfl ?_); refine zbx 2 #[.int .i64 a0_0, .slice A0_1 l0_1.length c0_1] 25 ?_; intro gb322 hg w30 hbox hb; replace HO0_1 := Aside0.mk (Kd.V_below (Kd.V_elderB (y10 HO0_1.out) gb322 (Nat.le_of_eq hg.symm)) hb); have BK322 := Aside0.mk hbox; have GW322 := Aside0.mk ((y9 hg HB.out : w.heap.size ≤ gb322)); have GE322 := Aside0.mk ((y9 hg HB.out : w.heap.size ≤ gb322)); replace HB := Aside0.mk (below_step (y5 HB.out) hb); clear hb hbox hg) | ((with_reducible refine gate_dst (N := 4) rfl ?_); refine zbx 4 #[.int .i64 0, .slice none 0 0] 25 ?_; intro gb323 hg w31 hbox hb; replace HO0_1 := Aside0.mk (Kd.V_below (Kd.V_elderB (y10 HO0_1.out) gb323 (Nat.le_of_eq hg.symm)) hb); have BK323 := Aside0.mk hbox; have GW323 := Aside0.mk ((y11 hg HB.out GE322.out : w.heap.size ≤ gb323)); have GE323 := Aside0.mk ((y11 hg HB.out GE322.out : w.heap.size ≤ gb323)); replace HB := Aside0.mk (below_step (y6 HB.out GE322.out) hb); have NB322_323 := zltn hg BK322; have NB323_322 := zgtn hg BK322; replace BK322 := zbb BK322 hb; clear hb hbox hg; have hnb32 := NB322_323.out; have hnc32 := NB323_322.out; have hcz33_0 := zh BK322; have hcz33_1 := zh1 BK322; have hfz33_0 := zfr BK322 0; have hfz33_1 := zfr BK322 1) | ((with_reducible refine gate_callee (f := 38) rfl ?_); refine goesL_ (some 12) rfl rfl Try.func38 (by kernel_rfl) rfl #[.agg #[.int .i64 a0_0, .slice A0_1 l0_1.length c0_1]] rfl y8 ?_; (with_reducible refine (impl_valTyped.calls k a0_0 _ _ l0_1 t324 true _ ?side1 ?side2 A3.out).mono ?_); (case side1 => exact y35 HO0_1.out); (case side2 => exact (Kd.V_reads' HO0_1.out).2.1); rintro e w34 ⟨v325, rfl, ho0, hb⟩; refine ⟨_, rfl, ?_⟩; replace HO0_1 := Aside0.mk (Kd.V_elder' (y10 HO0_1.out) (Kd.N_base ho0) hb); have HO326 := Aside0.mk (Kd.N_lower (Kd.N_mono (ok' := fun k_ => (P0_1_ k_ ∨ w.heap.size ≤ k_) ∧ k_ ≠ gb322 ∧ k_ ≠ gb323) ho0 (fun k_ hk_ => ⟨(.inr (Nat.le_trans (below_size (y2 HB.out GE322.out GE323.out)) hk_)), (Kd.freshB (g := gb322) (o := .cells #[.int .i64 a0_0, .slice A0_1 l0_1.length c0_1] 25 (0, 0)) (y0 BK322.out) k_ hk_), (Kd.freshB (g := gb323) (o := .cells #[.int .i64 0, .slice none 0 0] 25 (0, 0)) (y0 BK323.out) k_ hk_)⟩)) (below_size (y2 HB.out GE322.out GE323.out))); replace BK322 := zbb BK322 hb; replace BK323 := zbb BK323 hb; replace HB := Aside0.mk (below_step (y2 HB.out GE322.out GE323.out) hb); (try clear hb); (try clear hb2); (try clear hk); (try clear hi); (try clear ho0)) | ((with_reducible refine gate_dst (N := 6) rfl ?_); refine zbx 6 #[.slice none 0 0] 50 ?_; intro gb328 hg w35 hbox hb; replace HO0_1 := Aside0.mk (Kd.V_below (Kd.V_elderB (y10 HO0_1.out) gb328 (Nat.le_of_eq hg.symm)) hb); replace HO326 := Aside0.mk (Kd.N_below (Kd.N_elderB (y3 HO326.out) gb328 (Nat.le_of_eq hg.symm)) hb); have BK328 := Aside0.mk hbox; have GW328 := Aside0.mk ((y16 hg HB.out GE322.out GE323.out : w.heap.size ≤ gb328)); have GE328 := Aside0.mk ((y16 hg HB.out GE322.out GE323.out : w.heap.size ≤ gb328)); replace HB := Aside0.mk (below_step (y2 HB.out GE322.out GE323.out) hb); have NB322_328 := zltn hg BK322; have NB328_322 := zgtn hg BK322; replace BK322 := zbb BK322 hb; have NB323_328 := zltn hg BK323; have NB328_323 := zgtn hg BK323; replace BK323 := zbb BK323 hb; clear hb hbox hg; obtain ⟨Ao36, co36, eo36⟩ := Kd.N_slice HO326.out; subst eo36; have hnb37 := NB328_322.out; have hnc37 := NB322_328.out; have hnb38 := NB328_323.out; have hnc38 := NB323_328.out; have hcz39_0 := zh BK328; have hfz39_0 := zfr BK328 0) | ((with_reducible refine gate_store (t := 50) (p := 6) rfl ?_); refine store_event (t := 50) (p := 6) (v := ?vo_w40) (w1 := (w35.setCell ⟨gb328, 0, none⟩ (.slice Ao36 t324.length co36))) ?hg ?ho ?hn ?hr ?_; (case ho => rfl); (case hg => rfl); (case hn => rfl); (case hr => first | (go_simp; done) | (go_simp; rfl)); intro w40 hw; have n0_ : Aside0 (Kd.V k25 25 w40 w.heap.size (fun k_ => (P0_1_ k_ ∨ w.heap.size ≤ k_) ∧ some k_ ≠ (.slice Ao36 t324.length co36 : Value).ownBlock ∧ k_ ≠ gb322 ∧ k_ ≠ gb323 ∧ k_ ≠ gb328) (.slice A0_1 l0_1.length c0_1) l0_1) := ⟨(by rw [hw]; exact (by (with_reducible repeat (first | apply Kd.V_alloc | apply Kd.V_drewN | apply Kd.V_drew)); exact Kd.V_mono (Kd.V_far (p := ⟨gb328, 0, none⟩) (Kd.V_mono HO0_1.out (fun k_ hk => (⟨hk, hk.2⟩ : _ ∧ k_ ≠ gb328))) (fun _ hk => hk.2) (.slice Ao36 t324.length co36)) (fun _ hk => ⟨hk.1.1.1.1.1, ⟨hk.1.1.2, ⟨hk.1.1.1.1.2, ⟨hk.1.1.1.2, hk.1.2⟩⟩⟩⟩)))⟩; have n1_ : Aside0 (Kd.N k50 50 w40 w.heap.size (fun k_ => (P0_1_ k_ ∨ w.heap.size ≤ k_) ∧ k_ ≠ gb322 ∧ k_ ≠ gb323 ∧ k_ ≠ gb328) (.slice Ao36 t324.length co36) t324) := ⟨(by rw [hw]; exact (by (with_reducible repeat (first | apply Kd.N_alloc | apply Kd.N_drewN | apply Kd.N_drew)); exact Kd.N_mono (Kd.N_far (p := ⟨gb328, 0, none⟩) (Kd.N_mono HO326.out (fun k_ hk => (⟨hk, hk.2⟩ : _ ∧ k_ ≠ gb328))) (fun _ hk => hk.2) (.slice Ao36 t324.length co36)) (fun _ hk => ⟨hk.1.1.1, ⟨hk.1.1.2.1, ⟨hk.1.1.2.2, hk.1.2⟩⟩⟩)))⟩; have n2_ : Aside0 (w40.heap[gb322]? = some (.cells #[.int .i64 a0_0, .slice A0_1 l0_1.length c0_1] 25 (0, 0))) := ⟨(by rw [hw]; exact (y13 NB322_328.out BK322.out))⟩; have n3_ : Aside0 (w40.heap[gb323]? = some (.cells #[.int .i64 0, .slice none 0 0] 25 (0, 0))) := ⟨(by rw [hw]; exact (y13 NB323_328.out BK323.out))⟩; have n4_ : Aside0 (w40.heap[gb328]? = some (.cells #[.slice Ao36 t324.length co36] 50 (0, 0))) := ⟨(by rw [hw]; exact (by (with_reducible repeat (first | refine blk_drewN ?_ _ | refine blk_drew ?_ | refine blk_alloc ?_ _)); apply blk_put (i := 0); (case h => exact y0 BK328.out); (case e => rfl)))⟩; have n5_ : Aside0 (Below w.heap.size w w40) := ⟨(by rw [hw]; exact (y4 HB.out GE322.out GE323.out GE328.out))⟩; clear hw; clear HO0_1; clear HO326; clear BK322; clear BK323; clear BK328; clear HB; have HO0_1 := n0_; have HO326 := n1_; have BK322 := n2_; have BK323 := n3_; have BK328 := n4_; have HB := n5_; clear n0_ n1_ n2_ n3_ n4_ n5_; have hcz41_0 := zh BK322; have hcz41_1 := zh1 BK322; have hfz41_0 := zfr BK322 0; have hfz41_1 := zfr BK322 1) | ((with_reducible refine gate_callee (f := 39) rfl ?_); refine goesL_ (some 21) rfl rfl Try.func39 (by kernel_rfl) rfl #[.agg #[.int .i64 a0_0, .slice A0_1 l0_1.length c0_1], .slice A1 l1.length c1] rfl y8 ?_; (with_reducible refine (impl_Val.calls k a0_0 (fun k_ => ((P0_1_ k_ ∨ w.heap.size ≤ k_) ∧ (some k_ ≠ (.slice Ao36 t324.length co36 : Value).ownBlock ∧ (k_ ≠ gb322 ∧ (k_ ≠ gb323 ∧ k_ ≠ gb328))))) _ _ l0_1 _ _ l1 t329 t330 false _ ?side1 ?side2 ?side3 A5.out).mono ?_); (case side1 => exact HO0_1.out); (case side2 => exact y15 HR1.out HB.out); (case side3 => exact HC1.out); rintro e w42 ⟨v331, rfl, ho0, hb⟩; refine ⟨_, rfl, ?_⟩; replace HO0_1 := Aside0.mk (Kd.V_below (y10 HO0_1.out) hb); have HO332 := Aside0.mk (Kd.V_lower (Kd.V_mono (ok' := fun k_ => (P0_1_ k_ ∨ w.heap.size ≤ k_) ∧ some k_ ≠ (.slice Ao36 t324.length co36 : Value).ownBlock ∧ k_ ≠ gb322 ∧ k_ ≠ gb323 ∧ k_ ≠ gb328) ho0 (fun k_ hk_ => ⟨Or.elim hk_ (fun hs_ => hs_.1) (fun hn_ => (.inr (Nat.le_trans (below_size (y4 HB.out GE322.out GE323.out GE328.out)) hn_))), Or.elim hk_ (fun hs_ => hs_.2.1) (fun hn_ => (Kd.fresh' (Kd.N_lt (y3 HO326.out)) k_ hn_)), Or.elim hk_ (fun hs_ => hs_.2.2.1) (fun hn_ => (Kd.freshB (g := gb322) (o := .cells #[.int .i64 a0_0, .slice A0_1 l0_1.length c0_1] 25 (0, 0)) (y0 BK322.out) k_ hn_)), Or.elim hk_ (fun hs_ => hs_.2.2.2.1) (fun hn_ => (Kd.freshB (g := gb323) (o := .cells #[.int .i64 0, .slice none 0 0] 25 (0, 0)) (y0 BK323.out) k_ hn_)), Or.elim hk_ (fun hs_ => hs_.2.2.2.2) (fun hn_ => (Kd.freshB (g := gb328) (o := .cells #[.slice Ao36 t324.length co36] 50 (0, 0)) (y0 BK328.out) k_ hn_))⟩)) (below_size (y4 HB.out GE322.out GE323.out GE328.out))); replace HO326 := Aside0.mk (Kd.N_below (y3 HO326.out) hb); replace BK322 := zbb BK322 hb; replace BK323 := zbb BK323 hb; replace BK328 := zbb BK328 hb; replace HB := Aside0.mk (below_step (y4 HB.out GE322.out GE323.out GE328.out) hb); (try clear hb); (try clear hb2); (try clear hk); (try clear hi); (try clear ho0)) | ((with_reducible refine gate_dst (N := 8) rfl ?_); refine zbx 8 #[.int .i64 0, .slice none 0 0] 25 ?_; intro gb334 hg w43 hbox hb; replace HO0_1 := Aside0.mk (Kd.V_below (Kd.V_elderB (y10 HO0_1.out) gb334 (Nat.le_of_eq hg.symm)) hb); replace HO326 := Aside0.mk (Kd.N_below (Kd.N_elderB (y3 HO326.out) gb334 (Nat.le_of_eq hg.symm)) hb); replace HO332 := Aside0.mk (Kd.V_below (Kd.V_elderB (y10 HO332.out) gb334 (Nat.le_of_eq hg.symm)) hb); have BK334 := Aside0.mk hbox; have GW334 := Aside0.mk ((y22 hg HB.out GE322.out GE323.out GE328.out : w.heap.size ≤ gb334)); have GE334 := Aside0.mk ((y22 hg HB.out GE322.out GE323.out GE328.out : w.heap.size ≤ gb334)); replace HB := Aside0.mk (below_step (y4 HB.out GE322.out GE323.out GE328.out) hb); have NB322_334 := zltn hg BK322; have NB334_322 := zgtn hg BK322; replace BK322 := zbb BK322 hb; have NB323_334 := zltn hg BK323; have NB334_323 := zgtn hg BK323; replace BK323 := zbb BK323 hb; have NB328_334 := zltn hg BK328; have NB334_328 := zgtn hg BK328; replace BK328 := zbb BK328 hb; clear hb hbox hg; have hnb44 := NB334_322.out; have hnc44 := NB322_334.out; have hnb45 := NB334_323.out; have hnc45 := NB323_334.out; have hnb46 := NB334_328.out; have hnc46 := NB328_334.out; have hcz47_0 := zh BK334; have hcz47_1 := zh1 BK334; have hfz47_0 := zfr BK334 0; have hfz47_1 := zfr BK334 1; obtain ⟨Ao48, co48, eo48⟩ := Kd.V_slice HO332.out; subst eo48; have hcz49_0 := zh BK323; have hcz49_1 := zh1 BK323; have hfz49_0 := zfr BK323 0; have hfz49_1 := zfr BK323 1))
   refine bodyPost_ret (results_ct rfl _ _ gb323 25 #[.int .i64 0, .slice none 0 0] (0, 0) _ rfl (by (with_reducible repeat (first | refine blk_drewN ?_ _ | refine blk_drew ?_ | refine blk_alloc ?_ _)); refine blk_put (cs := #[.int .i64 0, .slice none 0 0]) ?_ 1 _ rfl; (with_reducible repeat (first | refine blk_drewN ?_ _ | refine blk_drew ?_ | refine blk_alloc ?_ _)); refine blk_put (cs := #[.int .i64 0, .slice none 0 0]) ?_ 0 _ rfl; (with_reducible repeat (first | refine blk_drewN ?_ _ | refine blk_drew ?_ | refine blk_alloc ?_ _)); refine blk_far ?_ NB323_334.out _; (with_reducible repeat (first | refine blk_drewN ?_ _ | refine blk_drew ?_ | refine blk_alloc ?_ _)); refine blk_far ?_ NB323_334.out _; (with_reducible repeat (first | refine blk_drewN ?_ _ | refine blk_drew ?_ | refine blk_alloc ?_ _)); exact BK323.out) Try.underlying25 rfl (by kernel_rfl)) rfl ?_
   exact ⟨_, y19, y37, (y7 HB.out GE322.out GE323.out GE328.out GE334.out)⟩
 ·replace c4 := Bool.eq_false_iff.mpr c4
  subst c4
  rw [if_neg (show ¬ (false = true) by decide)] at H
  simp only [Option.some.injEq, Prod.mk.injEq] at H
  obtain ⟨rfl, rfl, rfl⟩ := H
  go_enter Try.func14, Try.ntmps14
  go_wp2_with (first | ((with_reducible refine gate_dst (N := 2) rfl ?_); refine zbx 2 #[.int .i64 a0_0, .slice A0_1 l0_1.length c0_1] 25 ?_; intro gb322 hg w50 hbox hb; replace HO0_1 := Aside0.mk (Kd.V_below (Kd.V_elderB (y10 HO0_1.out) gb322 (Nat.le_of_eq hg.symm)) hb); have BK322 := Aside0.mk hbox; have GW322 := Aside0.mk ((y9 hg HB.out : w.heap.size ≤ gb322)); have GE322 := Aside0.mk ((y9 hg HB.out : w.heap.size ≤ gb322)); replace HB := Aside0.mk (below_step (y5 HB.out) hb); clear hb hbox hg) | ((with_reducible refine gate_dst (N := 4) rfl ?_); refine zbx 4 #[.int .i64 0, .slice none 0 0] 25 ?_; intro gb323 hg w51 hbox hb; replace HO0_1 := Aside0.mk (Kd.V_below (Kd.V_elderB (y10 HO0_1.out) gb323 (Nat.le_of_eq hg.symm)) hb); have BK323 := Aside0.mk hbox; have GW323 := Aside0.mk ((y11 hg HB.out GE322.out : w.heap.size ≤ gb323)); have GE323 := Aside0.mk ((y11 hg HB.out GE322.out : w.heap.size ≤ gb323)); replace HB := Aside0.mk (below_step (y6 HB.out GE322.out) hb); have NB322_323 := zltn hg BK322; have NB323_322 := zgtn hg BK322; replace BK322 := zbb BK322 hb; clear hb hbox hg; have hnb52 := NB322_323.out; have hnc52 := NB323_322.out; have hcz53_0 := zh BK322; have hcz53_1 := zh1 BK322; have hfz53_0 := zfr BK322 0; have hfz53_1 := zfr BK322 1) | ((with_reducible refine gate_callee (f := 38) rfl ?_); refine goesL_ (some 12) rfl rfl Try.func38 (by kernel_rfl) rfl #[.agg #[.int .i64 a0_0, .slice A0_1 l0_1.length c0_1]] rfl y8 ?_; (with_reducible refine (impl_valTyped.calls k a0_0 _ _ l0_1 t324 false _ ?side1 ?side2 A3.out).mono ?_); (case side1 => exact y35 HO0_1.out); (case side2 => exact (Kd.V_reads' HO0_1.out).2.1); rintro e w54 ⟨v325, rfl, ho0, hb⟩; refine ⟨_, rfl, ?_⟩; replace HO0_1 := Aside0.mk (Kd.V_elder' (y10 HO0_1.out) (Kd.N_base ho0) hb); have HO326 := Aside0.mk (Kd.N_lower (Kd.N_mono (ok' := fun k_ => (P0_1_ k_ ∨ w.heap.size ≤ k_) ∧ k_ ≠ gb322 ∧ k_ ≠ gb323) ho0 (fun k_ hk_ => ⟨(.inr (Nat.le_trans (below_size (y2 HB.out GE322.out GE323.out)) hk_)), (Kd.freshB (g := gb322) (o := .cells #[.int .i64 a0_0, .slice A0_1 l0_1.length c0_1] 25 (0, 0)) (y0 BK322.out) k_ hk_), (Kd.freshB (g := gb323) (o := .cells #[.int .i64 0, .slice none 0 0] 25 (0, 0)) (y0 BK323.out) k_ hk_)⟩)) (below_size (y2 HB.out GE322.out GE323.out))); replace BK322 := zbb BK322 hb; replace BK323 := zbb BK323 hb; replace HB := Aside0.mk (below_step (y2 HB.out GE322.out GE323.out) hb); (try clear hb); (try clear hb2); (try clear hk); (try clear hi); (try clear ho0)) | ((with_reducible refine gate_dst (N := 6) rfl ?_); refine zbx 6 #[.slice none 0 0] 50 ?_; intro gb328 hg w55 hbox hb; replace HO0_1 := Aside0.mk (Kd.V_below (Kd.V_elderB (y10 HO0_1.out) gb328 (Nat.le_of_eq hg.symm)) hb); replace HO326 := Aside0.mk (Kd.N_below (Kd.N_elderB (y3 HO326.out) gb328 (Nat.le_of_eq hg.symm)) hb); have BK328 := Aside0.mk hbox; have GW328 := Aside0.mk ((y16 hg HB.out GE322.out GE323.out : w.heap.size ≤ gb328)); have GE328 := Aside0.mk ((y16 hg HB.out GE322.out GE323.out : w.heap.size ≤ gb328)); replace HB := Aside0.mk (below_step (y2 HB.out GE322.out GE323.out) hb); have NB322_328 := zltn hg BK322; have NB328_322 := zgtn hg BK322; replace BK322 := zbb BK322 hb; have NB323_328 := zltn hg BK323; have NB328_323 := zgtn hg BK323; replace BK323 := zbb BK323 hb; clear hb hbox hg; obtain ⟨Ao56, co56, eo56⟩ := Kd.N_slice HO326.out; subst eo56; have hnb57 := NB328_322.out; have hnc57 := NB322_328.out; have hnb58 := NB328_323.out; have hnc58 := NB323_328.out; have hcz59_0 := zh BK328; have hfz59_0 := zfr BK328 0; have hcz60_0 := zh BK323; have hcz60_1 := zh1 BK323; have hfz60_0 := zfr BK323 0; have hfz60_1 := zfr BK323 1))
  refine bodyPost_ret (results_ct rfl _ _ gb323 25 #[.int .i64 0, .slice none 0 0] (0, 0) _ rfl (by (with_reducible repeat (first | refine blk_drewN ?_ _ | refine blk_drew ?_ | refine blk_alloc ?_ _)); refine blk_put (cs := #[.int .i64 0, .slice none 0 0]) ?_ 1 _ rfl; (with_reducible repeat (first | refine blk_drewN ?_ _ | refine blk_drew ?_ | refine blk_alloc ?_ _)); refine blk_put (cs := #[.int .i64 0, .slice none 0 0]) ?_ 0 _ rfl; (with_reducible repeat (first | refine blk_drewN ?_ _ | refine blk_drew ?_ | refine blk_alloc ?_ _)); refine blk_far ?_ NB323_328.out _; (with_reducible repeat (first | refine blk_drewN ?_ _ | refine blk_drew ?_ | refine blk_alloc ?_ _)); exact BK323.out) Try.underlying25 rfl (by kernel_rfl)) rfl ?_
  exact ⟨_, y19, y37, (y4 HB.out GE322.out GE323.out GE328.out)⟩
end Go.Proofs.Ythfflieeifakdaa.PA
end
section
namespace Go.Proofs.Ythfflieeifakdaa.PA
open Go.RowKit Go.Proofs.YthfflieeifakdaaW.PrintWords Go.Proofs.YthfflieeifakdaaW.PrintLast Go.Proofs.YthfflieeifakdaaW.PrintMore
attribute [local go_sem] max2_int min2_int max_two min_two max_three min_three max_four min_four
set_option linter.unusedVariables false
set_option linter.unusedSimpArgs false
mutual
def laws_lhVal.j0 : Nat → Bool → Int → List (S25) → Int → List (S25) → Option (Bool)
 | 0, _, _, _, _, _ => none
 | k + 1, x19, x340000, x340001, x341000, x341001 => if x19 = true then (some false) else (laws_lhVal.l0 k 0 x340000 x340001 x341000 x341001)
def laws_lhVal.l0 : Nat → Int → Int → List (S25) → Int → List (S25) → Option (Bool)
 | 0, _, _, _, _, _ => none
 | k + 1, x5, x340000, x340001, x341000, x341001 => if x5 < (x340001.length : Int) then (if 0 ≤ x5 then (if x5 < (x341001.length : Int) then ((laws_lhVal.f k ((rd_T25 x340001 x5).f0) ((rd_T25 x340001 x5).f1) ((rd_T25 x341001 x5).f0) ((rd_T25 x341001 x5).f1)).bind fun t343 => (if t343 = true then (laws_lhVal.l0 k (wrap64 (x5 + 1)) x340000 x340001 x341000 x341001) else (some false))) else (none)) else (none)) else (some true)
def laws_lhVal.f : Nat → Int → List (S25) → Int → List (S25) → Option (Bool)
 | 0, _, _, _, _ => none
 | k + 1, a0_0, l0_1, a1_0, l1_1 => if a0_0 = a1_0 then (laws_lhVal.j0 k ((l0_1.length : Int) != (l1_1.length : Int)) a0_0 l0_1 a1_0 l1_1) else (laws_lhVal.j0 k true a0_0 l0_1 a1_0 l1_1)
end
theorem laws_lhVal.mono_l : ∀ k, (∀ y0 y1 y2 y3, LeO (laws_lhVal.f k y0 y1 y2 y3) (laws_lhVal.f (k + 1) y0 y1 y2 y3)) ∧ (∀ y0 y1 y2 y3 y4, LeO (laws_lhVal.j0 k y0 y1 y2 y3 y4) (laws_lhVal.j0 (k + 1) y0 y1 y2 y3 y4)) ∧ (∀ y0 y1 y2 y3 y4, LeO (laws_lhVal.l0 k y0 y1 y2 y3 y4) (laws_lhVal.l0 (k + 1) y0 y1 y2 y3 y4))
 | 0 => ⟨fun _ _ _ _ r h => by simp [laws_lhVal.f] at h, fun _ _ _ _ _ r h => by simp [laws_lhVal.j0] at h, fun _ _ _ _ _ r h => by simp [laws_lhVal.l0] at h⟩
 | k + 1 => by
  obtain ⟨ih0, ih1, ih2⟩ := laws_lhVal.mono_l k
  refine ⟨?_, ?_, ?_⟩
  ·intro y0 y1 y2 y3
   unfold laws_lhVal.f
   repeat' first
   | (with_reducible exact ih0 _ _ _ _)
   | (with_reducible exact ih1 _ _ _ _ _)
   | (with_reducible exact ih2 _ _ _ _ _)
   | (with_reducible exact LeO.refl _)
   | (with_reducible exact LeO.none _)
   | (with_reducible refine LeO.ite ?_ ?_)
   | (with_reducible refine LeO.bind ?_ (fun _ => ?_))
   | exact ih0 _ _ _ _
   | exact ih1 _ _ _ _ _
   | exact ih2 _ _ _ _ _
   | exact LeO.none _
   | refine LeO.ite ?_ ?_
   | refine LeO.bind ?_ (fun _ => ?_)
  ·intro y0 y1 y2 y3 y4
   unfold laws_lhVal.j0
   repeat' first
   | (with_reducible exact ih0 _ _ _ _)
   | (with_reducible exact ih1 _ _ _ _ _)
   | (with_reducible exact ih2 _ _ _ _ _)
   | (with_reducible exact LeO.refl _)
   | (with_reducible exact LeO.none _)
   | (with_reducible refine LeO.ite ?_ ?_)
   | (with_reducible refine LeO.bind ?_ (fun _ => ?_))
   | exact ih0 _ _ _ _
   | exact ih1 _ _ _ _ _
   | exact ih2 _ _ _ _ _
   | exact LeO.none _
   | refine LeO.ite ?_ ?_
   | refine LeO.bind ?_ (fun _ => ?_)
  ·intro y0 y1 y2 y3 y4
   unfold laws_lhVal.l0
   repeat' first
   | (with_reducible exact ih0 _ _ _ _)
   | (with_reducible exact ih1 _ _ _ _ _)
   | (with_reducible exact ih2 _ _ _ _ _)
   | (with_reducible exact LeO.refl _)
   | (with_reducible exact LeO.none _)
   | (with_reducible refine LeO.ite ?_ ?_)
   | (with_reducible refine LeO.bind ?_ (fun _ => ?_))
   | exact ih0 _ _ _ _
   | exact ih1 _ _ _ _ _
   | exact ih2 _ _ _ _ _
   | exact LeO.none _
   | refine LeO.ite ?_ ?_
   | refine LeO.bind ?_ (fun _ => ?_)
theorem laws_lhVal.mono : ∀ a0 a1 a2 a3 k, LeO (laws_lhVal.f k a0 a1 a2 a3) (laws_lhVal.f (k + 1) a0 a1 a2 a3) := by
 intro a0 a1 a2 a3 k
 obtain ⟨ih0, ih1, ih2⟩ := laws_lhVal.mono_l k
 exact ih0 a0 a1 a2 a3
def laws_lhVal.T6 : Bool × List (List Nat × List Nat) := (true, [([], []), ([0], [0]), ([], []), ([1, 2], [1, 2]), ([3], [3]), ([], []), ([5], [5]), ([], []), ([6, 7], [6, 7]), ([8], [8]), ([4, 9], [4, 9]), ([10], [10])])
def laws_lhVal.B6 : List Nat := [0, 1, 0, 7, 15, 0, 32, 0, 224, 480, 1023, 2047]
theorem laws_lhVal.tab6 : rtab .any (opsOf Try.f15 6) = laws_lhVal.T6 := by kernel_rfl
theorem laws_lhVal.bits6 : waitsOk laws_lhVal.T6.2 laws_lhVal.B6 = true := by kernel_rfl
set_option maxHeartbeats 8000000 in
set_option maxRecDepth 100000 in
theorem laws_lhVal.calls (k : Nat) : ∀ (a0_0 : Int) (A0_1 : Option Addr) (c0_1 : Nat) (l0_1 : List (S25)) (a1_0 : Int) (A1_1 : Option Addr) (c1_1 : Nat) (l1_1 : List (S25)) (r : Bool) (w : World) (hr0_1 : Kd.C k25 w A0_1 l0_1.length l0_1) (hc0_1 : l0_1.length ≤ c0_1) (hr1_1 : Kd.C k25 w A1_1 l1_1.length l1_1) (hc1_1 : l1_1.length ≤ c1_1) (h : laws_lhVal.f k a0_0 l0_1 a1_0 l1_1 = some r),
  Calls Try.prog 15 #[.agg #[.int .i64 a0_0, .slice A0_1 l0_1.length c0_1], .agg #[.int .i64 a1_0, .slice A1_1 l1_1.length c1_1]] w fun e w' => e = .returned (.bool r) ∧ Below w.heap.size w w' := by
 induction k using Nat.strongRecOn with
 | _ k ih =>
 intro a0_0 A0_1 c0_1 l0_1 a1_0 A1_1 c1_1 l1_1 r w hr0_1 hc0_1 hr1_1 hc1_1 h
 cases k with
 | zero => exact absurd h (by simp [laws_lhVal.f])
 | succ k =>
 simp only [laws_lhVal.f] at h
 have hu25 := Try.underlying25
 have HR0_1 := Aside0.mk hr0_1
 have HC0_1 := Aside0.mk hc0_1
 clear hr0_1 hc0_1
 have HR1_1 := Aside0.mk hr1_1
 have HC1_1 := Aside0.mk hc1_1
 clear hr1_1 hc1_1
 have HB := Aside0.mk (Below.refl w.heap.size w)
 have H : (if a0_0 = a1_0 then (laws_lhVal.j0 k ((l0_1.length : Int) != (l1_1.length : Int)) a0_0 l0_1 a1_0 l1_1) else (laws_lhVal.j0 k true a0_0 l0_1 a1_0 l1_1)) = some r := h
 clear h
 have HC3 := Aside0.mk H
 clear H
 go_enter Try.func15, Try.ntmps15
 go_upto_region 1 with (first | ((with_reducible refine gate_dst (N := 2) rfl ?_); (try (refine gate_guard (by rfl) ?_; dsimp only)); refine zbx 2 #[.int .i64 a0_0, .slice A0_1 l0_1.length c0_1] 25 ?_; intro gb339 hg w4 hbox hb; have BK339 := Aside0.mk hbox; have GW339 := Aside0.mk ((y9 hg HB.out : w.heap.size ≤ gb339)); have GE339 := Aside0.mk ((y9 hg HB.out : w.heap.size ≤ gb339)); replace HB := Aside0.mk (below_step (y5 HB.out) hb); clear hb hbox hg) | ((with_reducible refine gate_dst (N := 3) rfl ?_); (try (refine gate_guard (by rfl) ?_; dsimp only)); refine zbx 3 #[.int .i64 a1_0, .slice A1_1 l1_1.length c1_1] 25 ?_; intro gb340 hg w5 hbox hb; have BK340 := Aside0.mk hbox; have GW340 := Aside0.mk ((y11 hg HB.out GE339.out : w.heap.size ≤ gb340)); have GE340 := Aside0.mk ((y11 hg HB.out GE339.out : w.heap.size ≤ gb340)); replace HB := Aside0.mk (below_step (y6 HB.out GE339.out) hb); have NB339_340 := zltn hg BK339; have NB340_339 := zgtn hg BK339; replace BK339 := zbb BK339 hb; clear hb hbox hg))
 (try simp only [Act.put, List.setIfInBounds_toArray, List.set_cons_zero, List.set_cons_succ])
 go_cut [19] (fun v19 wc => ∃ (kq : Nat) (x19_2 : Bool), v19 = .bool x19_2 ∧ Aside0 (laws_lhVal.j0 kq x19_2 a0_0 l0_1 a1_0 l1_1 = some r) ∧ Aside0 (kq ≤ k) ∧ Aside0 (wc.heap[gb339]? = some (.cells #[.int .i64 a0_0, (.slice A0_1 l0_1.length c0_1)] 25 (0, 0))) ∧ Aside0 (wc.heap[gb340]? = some (.cells #[.int .i64 a1_0, (.slice A1_1 l1_1.length c1_1)] 25 (0, 0))) ∧ Aside0 (Below w.heap.size w wc))
 case first =>
  have H := HC3.out
  clear HC3
  by_cases c6 : a0_0 = a1_0
  ·rw [if_pos c6] at H
   have c6b0 : (a0_0 == a1_0) = true := beq_iff_eq.mpr c6
   have c6b1 : (a0_0 != a1_0) = false := bne_eq_false_iff_eq.mpr c6
   clear c6
   (first | rw [c6b0] | (simp only [i64_w, i32_w]; rw [c6b0]) | skip)
   have H' := Aside0.mk H
   clear H
   have hnb7 := NB339_340.out
   have hnc7 := NB340_339.out
   have hcz8_0 := zh BK339
   have hcz8_1 := zh1 BK339
   have hfz8_0 := zfr BK339 0
   have hfz8_1 := zfr BK339 1
   have hcz9_0 := zh BK340
   have hcz9_1 := zh1 BK340
   have hfz9_0 := zfr BK340 0
   have hfz9_1 := zfr BK340 1
   go_wp2
   go_meet
   case rel => exact ⟨_, (((l0_1.length : Int) != (l1_1.length : Int))), y34, H', ⟨y46⟩, ⟨(y0 BK339.out)⟩, ⟨(y0 BK340.out)⟩, ⟨(y2 HB.out GE339.out GE340.out)⟩⟩
  ·rw [if_neg c6] at H
   have c6b0 : (a0_0 == a1_0) = false := beq_eq_false_iff_ne.mpr c6
   have c6b1 : (a0_0 != a1_0) = true := bne_iff_ne.mpr c6
   (first | rw [c6b0] | (simp only [i64_w, i32_w]; rw [c6b0]) | skip)
   have H' := Aside0.mk H
   clear H
   have hnb10 := NB339_340.out
   have hnc10 := NB340_339.out
   have hcz11_0 := zh BK339
   have hcz11_1 := zh1 BK339
   have hfz11_0 := zfr BK339 0
   have hfz11_1 := zfr BK339 1
   have hcz12_0 := zh BK340
   have hcz12_1 := zh1 BK340
   have hfz12_0 := zfr BK340 0
   have hfz12_1 := zfr BK340 1
   go_wp2
   go_meet
   case rel => exact ⟨_, (true), y34, H', ⟨y46⟩, ⟨(y0 BK339.out)⟩, ⟨(y0 BK340.out)⟩, ⟨(y2 HB.out GE339.out GE340.out)⟩⟩
 case rest =>
  clear HC3
  try clear c1
  try clear p2
  try clear c6
  try clear c6b0
  try clear c6b1
  try clear c7
  try clear c10
  try clear hcz11_0
  try clear hcz11_1
  try clear hcz12_0
  try clear hcz12_1
  try clear hcz8_0
  try clear hcz8_1
  try clear hcz9_0
  try clear hcz9_1
  try clear hfz11_0
  try clear hfz11_1
  try clear hfz12_0
  try clear hfz12_1
  try clear hfz8_0
  try clear hfz8_1
  try clear hfz9_0
  try clear hfz9_1
  obtain ⟨kq, x19_2, rfl, HA, HJ2, BK339, BK340, HB⟩ := hcut
  cases kq with
  | zero => exact absurd HA.out (by simp [laws_lhVal.j0])
  | succ kj2 =>
   have H := HA.out
   clear HA
   simp only [laws_lhVal.j0] at H
   by_cases c13 : x19_2 = true
   ·subst c13
    rw [if_pos rfl] at H
    obtain rfl := Option.some.inj H
    go_wp2
    go_ret
    exact ⟨y19, (y2 HB.out GE339.out GE340.out)⟩
   ·replace c13 := Bool.eq_false_iff.mpr c13
    subst c13
    rw [if_neg (show ¬ (false = true) by decide)] at H
    have H' := Aside0.mk H
    clear H
    go_wp2
    go_loopg [5] kj2 (fun kq v5 w' => ∃ (x5_2 : Int), v5 = .int .i64 x5_2 ∧ Aside0 (laws_lhVal.l0 kq x5_2 a0_0 l0_1 a1_0 l1_1 = some r) ∧ Aside0 (kq ≤ kj2) ∧ Aside0 (w'.heap[gb339]? = some (.cells #[.int .i64 a0_0, (.slice A0_1 l0_1.length c0_1)] 25 (0, 0))) ∧ Aside0 (w'.heap[gb340]? = some (.cells #[.int .i64 a1_0, (.slice A1_1 l1_1.length c1_1)] 25 (0, 0))) ∧ Aside0 (Below w.heap.size w w'))
    case atStart => exact ⟨(0), y34, H', ⟨Nat.le_refl _⟩, ⟨(y0 BK339.out)⟩, ⟨(y0 BK340.out)⟩, ⟨(y2 HB.out GE339.out GE340.out)⟩⟩
    case round =>
     clear H'
     try clear c1
     try clear p2
     try clear c6
     try clear c6b0
     try clear c6b1
     try clear c7
     try clear c10
     try clear c13
     try clear hcz11_0
     try clear hcz11_1
     try clear hcz12_0
     try clear hcz12_1
     try clear hcz8_0
     try clear hcz8_1
     try clear hcz9_0
     try clear hcz9_1
     try clear hfz11_0
     try clear hfz11_1
     try clear hfz12_0
     try clear hfz12_1
     try clear hfz8_0
     try clear hfz8_1
     try clear hfz9_0
     try clear hfz9_1
     try clear p2
     (try clear BK339); (try clear BK340)
     obtain ⟨x5_2, rfl, HA, HK2, BK339, BK340, HB⟩ := hrel
     cases gk with
     | zero => exact absurd HA.out (by simp [laws_lhVal.l0])
     | succ k2 =>
      have H := HA.out
      clear HA
      simp only [laws_lhVal.l0] at H
      by_cases c14 : x5_2 < (l0_1.length : Int)
      ·rw [if_pos c14] at H
       have c14b0 : decide (x5_2 < (l0_1.length : Int)) = true := decide_eq_true c14
       clear c14
       by_cases c15 : 0 ≤ x5_2
       ·rw [if_pos c15] at H
        have c15b0 : decide (0 ≤ x5_2) = true := decide_eq_true c15
        clear c15
        by_cases c16 : x5_2 < (l1_1.length : Int)
        ·rw [if_pos c16] at H
         have c16b0 : decide (x5_2 < (l1_1.length : Int)) = true := decide_eq_true c16
         clear c16
         obtain ⟨t343, A170, H⟩ := ob H
         have A17 := Aside0.mk A170
         clear A170
         by_cases c18 : t343 = true
         ·subst c18
          rw [if_pos rfl] at H
          have H' := Aside0.mk H
          clear H
          have hnb19 := NB339_340.out
          have hnc19 := NB340_339.out
          have hcz20_0 := zh BK339
          have hcz20_1 := zh1 BK339
          have hfz20_0 := zfr BK339 0
          have hfz20_1 := zfr BK339 1
          try go_wp2
          replace BK339 := Aside0.mk (blk_drew BK339.out)
          replace BK340 := Aside0.mk (blk_drew BK340.out)
          replace HB := Aside0.mk (below_drew1 HB.out)
          have p341 : 0 ≤ (x5_2 : Int) := of_decide_eq_true y23
          have q341 : x5_2 < (l0_1.length : Int) := of_decide_eq_true y23
          obtain ⟨ad341, A341_1, c341_1, e341, hx341_0, hx341_1, hl341_1, hi341_1⟩ := at_T25 HR0_1.out x5_2 p341 q341
          have hw341_1 := hx341_1
          have hw341_0 := hx341_0
          cases e341
          replace hx341_0 := (HB.out.cell (World.block_lt_of_cell? w _ hx341_0)).trans hx341_0
          replace hx341_1 := (HB.out.cell (World.block_lt_of_cell? w _ hx341_1)).trans hx341_1
          have HR341_1 := Aside0.mk hi341_1
          have HC341_1 := Aside0.mk hl341_1
          clear hi341_1 hl341_1
          replace p341 := eq_true p341
          replace q341 := eq_true q341
          have p342 : 0 ≤ (x5_2 : Int) := of_decide_eq_true y23
          have q342 : x5_2 < (l1_1.length : Int) := of_decide_eq_true y23
          obtain ⟨ad342, A342_1, c342_1, e342, hx342_0, hx342_1, hl342_1, hi342_1⟩ := at_T25 HR1_1.out x5_2 p342 q342
          have hw342_1 := hx342_1
          have hw342_0 := hx342_0
          cases e342
          replace hx342_0 := (HB.out.cell (World.block_lt_of_cell? w _ hx342_0)).trans hx342_0
          replace hx342_1 := (HB.out.cell (World.block_lt_of_cell? w _ hx342_1)).trans hx342_1
          have HR342_1 := Aside0.mk hi342_1
          have HC342_1 := Aside0.mk hl342_1
          clear hi342_1 hl342_1
          replace p342 := eq_true p342
          replace q342 := eq_true q342
          refine start_ (n := 12) (S := fun w' => w'.cell? ⟨gb339, 0, none⟩ = some (.int .i64 a0_0) ∧ w'.cell? ⟨gb339, 1, none⟩ = some (.slice (some ad341) l0_1.length c0_1) ∧ w'.cell? ⟨gb340, 0, none⟩ = some (.int .i64 a1_0) ∧ w'.cell? ⟨gb340, 1, none⟩ = some (.slice (some ad342) l1_1.length c1_1) ∧ w'.cell? (ad341.add ((x5_2).toNat * 2)) = some (.int .i64 ((rd_T25 l0_1 x5_2).f0)) ∧ w'.cell? ⟨(ad341.add ((x5_2).toNat * 2)).block, (ad341.add ((x5_2).toNat * 2)).off + 1, none⟩ = some (.slice A341_1 ((rd_T25 l0_1 x5_2).f1).length c341_1) ∧ w'.cell? (ad342.add ((x5_2).toNat * 2)) = some (.int .i64 ((rd_T25 l1_1 x5_2).f0)) ∧ w'.cell? ⟨(ad342.add ((x5_2).toNat * 2)).block, (ad342.add ((x5_2).toNat * 2)).off + 1, none⟩ = some (.slice A342_1 ((rd_T25 l1_1 x5_2).f1).length c342_1)) (ds := []) #[false, false, false, false, false, false, false, false, false, false, false, false] (by kernel_rfl) rfl rfl ⟨(blk_cell BK339.out 0).trans rfl, (blk_cell BK339.out 1).trans rfl, (blk_cell BK340.out 0).trans rfl, (blk_cell BK340.out 1).trans rfl, ((HB.out.cell (World.block_lt_of_cell? w _ hw341_0)).trans hw341_0), ((HB.out.cell (World.block_lt_of_cell? w _ hw341_1)).trans hw341_1), ((HB.out.cell (World.block_lt_of_cell? w _ hw342_0)).trans hw342_0), ((HB.out.cell (World.block_lt_of_cell? w _ hw342_1)).trans hw342_1)⟩ (fun hHeld => ?_); refine with_tabW laws_lhVal.tab6 laws_lhVal.bits6 (fun HT_ HW_ => ?_)
          generalize wr.drew = w21 at BK339 BK340 HB HR341_1 HR342_1 hx341_0 hx341_1 hx342_0 hx342_1 hHeld ⊢
          refine zp 0 (some 27) HT_ ?_
          refine zp 2 (some 29) HT_ ?_
          refine zp 5 (some 32) HT_ ?_
          refine zp 7 (some 34) HT_ ?_
          refine zt8 1 (some 28) HT_ HW_ hHeld ?_
          refine zp 3 (some 30) HT_ ?_
          refine zt8 4 (some 31) HT_ HW_ hHeld ?_
          refine zt8 6 (some 33) HT_ HW_ hHeld ?_
          refine zp 8 (some 35) HT_ ?_
          refine zt8 9 (some 36) HT_ HW_ hHeld ?_
          refine one_ (i := 10) (N := some 37) #[true, true, true, true, true, true, true, true, true, true, true, false] rfl rfl (one_of HT_.out (by kernel_rfl)) (by decide) (fun K hK => ?_)
          refine goes_ Try.func15 (by kernel_rfl) rfl #[.agg #[.int .i64 ((rd_T25 l0_1 x5_2).f0), .slice A341_1 ((rd_T25 l0_1 x5_2).f1).length c341_1], .agg #[.int .i64 ((rd_T25 l1_1 x5_2).f0), .slice A342_1 ((rd_T25 l1_1 x5_2).f1).length c342_1]] (by rfl) rfl rfl y8 ?_
          with_reducible refine (ih k2 (y87 HJ2.out HK2.out) ((rd_T25 l0_1 x5_2).f0) _ _ ((rd_T25 l0_1 x5_2).f1) ((rd_T25 l1_1 x5_2).f0) _ _ ((rd_T25 l1_1 x5_2).f1) true _ ?side1 ?side2 ?side3 ?side4 A17.out).mono ?_
          (case side1 => exact y15 HR341_1.out HB.out)
          (case side2 => exact HC341_1.out)
          (case side3 => exact y15 HR342_1.out HB.out)
          (case side4 => exact HC342_1.out)
          rintro e w22 ⟨rfl, hb⟩
          refine ⟨_, rfl, ?_⟩
          replace BK339 := zbb BK339 hb
          replace BK340 := zbb BK340 hb
          replace HB := Aside0.mk (below_step (y2 HB.out GE339.out GE340.out) hb)
          (try clear hb)
          (try clear hb2)
          (try clear hk)
          (try clear hi)
          refine hK.out _ _ ⟨(blk_cell BK339.out 0).trans rfl, (blk_cell BK339.out 1).trans rfl, (blk_cell BK340.out 0).trans rfl, (blk_cell BK340.out 1).trans rfl, ((HB.out.cell (World.block_lt_of_cell? w _ hw341_0)).trans hw341_0), ((HB.out.cell (World.block_lt_of_cell? w _ hw341_1)).trans hw341_1), ((HB.out.cell (World.block_lt_of_cell? w _ hw342_0)).trans hw342_0), ((HB.out.cell (World.block_lt_of_cell? w _ hw342_1)).trans hw342_1)⟩ (fun hHeld => ?_)
          clear hK K
          refine norm_ (a' := ?_) ?_ ?_
          rotate_left
          ·show Act.put _ (some 37) _ = _
           simp only [Act.put, List.setIfInBounds_toArray, List.set_cons_zero, List.set_cons_succ, i64_w, i32_w]
           rfl
          refine zp 11 (some 38) HT_ ?_
          refine done_ (done_of HT_.out (by kernel_rfl)) ?_
          try go_wp2
          go_roundg k2
          case measure => have := HJ2.out; have := HK2.out; omega
          case rel => exact ⟨(wrap64 (x5_2 + 1)), y34, H', ⟨(y87 HJ2.out HK2.out)⟩, ⟨(y0 BK339.out)⟩, ⟨(y0 BK340.out)⟩, ⟨(y2 HB.out GE339.out GE340.out)⟩⟩
         ·replace c18 := Bool.eq_false_iff.mpr c18
          subst c18
          rw [if_neg (show ¬ (false = true) by decide)] at H
          obtain rfl := Option.some.inj H
          have hnb23 := NB339_340.out
          have hnc23 := NB340_339.out
          have hcz24_0 := zh BK339
          have hcz24_1 := zh1 BK339
          have hfz24_0 := zfr BK339 0
          have hfz24_1 := zfr BK339 1
          try go_wp2
          replace BK339 := Aside0.mk (blk_drew BK339.out)
          replace BK340 := Aside0.mk (blk_drew BK340.out)
          replace HB := Aside0.mk (below_drew1 HB.out)
          have p341 : 0 ≤ (x5_2 : Int) := of_decide_eq_true y23
          have q341 : x5_2 < (l0_1.length : Int) := of_decide_eq_true y23
          obtain ⟨ad341, A341_1, c341_1, e341, hx341_0, hx341_1, hl341_1, hi341_1⟩ := at_T25 HR0_1.out x5_2 p341 q341
          have hw341_1 := hx341_1
          have hw341_0 := hx341_0
          cases e341
          replace hx341_0 := (HB.out.cell (World.block_lt_of_cell? w _ hx341_0)).trans hx341_0
          replace hx341_1 := (HB.out.cell (World.block_lt_of_cell? w _ hx341_1)).trans hx341_1
          have HR341_1 := Aside0.mk hi341_1
          have HC341_1 := Aside0.mk hl341_1
          clear hi341_1 hl341_1
          replace p341 := eq_true p341
          replace q341 := eq_true q341
          have p342 : 0 ≤ (x5_2 : Int) := of_decide_eq_true y23
          have q342 : x5_2 < (l1_1.length : Int) := of_decide_eq_true y23
          obtain ⟨ad342, A342_1, c342_1, e342, hx342_0, hx342_1, hl342_1, hi342_1⟩ := at_T25 HR1_1.out x5_2 p342 q342
          have hw342_1 := hx342_1
          have hw342_0 := hx342_0
          cases e342
          replace hx342_0 := (HB.out.cell (World.block_lt_of_cell? w _ hx342_0)).trans hx342_0
          replace hx342_1 := (HB.out.cell (World.block_lt_of_cell? w _ hx342_1)).trans hx342_1
          have HR342_1 := Aside0.mk hi342_1
          have HC342_1 := Aside0.mk hl342_1
          clear hi342_1 hl342_1
          replace p342 := eq_true p342
          replace q342 := eq_true q342
          refine start_ (n := 12) (S := fun w' => w'.cell? ⟨gb339, 0, none⟩ = some (.int .i64 a0_0) ∧ w'.cell? ⟨gb339, 1, none⟩ = some (.slice (some ad341) l0_1.length c0_1) ∧ w'.cell? ⟨gb340, 0, none⟩ = some (.int .i64 a1_0) ∧ w'.cell? ⟨gb340, 1, none⟩ = some (.slice (some ad342) l1_1.length c1_1) ∧ w'.cell? (ad341.add ((x5_2).toNat * 2)) = some (.int .i64 ((rd_T25 l0_1 x5_2).f0)) ∧ w'.cell? ⟨(ad341.add ((x5_2).toNat * 2)).block, (ad341.add ((x5_2).toNat * 2)).off + 1, none⟩ = some (.slice A341_1 ((rd_T25 l0_1 x5_2).f1).length c341_1) ∧ w'.cell? (ad342.add ((x5_2).toNat * 2)) = some (.int .i64 ((rd_T25 l1_1 x5_2).f0)) ∧ w'.cell? ⟨(ad342.add ((x5_2).toNat * 2)).block, (ad342.add ((x5_2).toNat * 2)).off + 1, none⟩ = some (.slice A342_1 ((rd_T25 l1_1 x5_2).f1).length c342_1)) (ds := []) #[false, false, false, false, false, false, false, false, false, false, false, false] (by kernel_rfl) rfl rfl ⟨(blk_cell BK339.out 0).trans rfl, (blk_cell BK339.out 1).trans rfl, (blk_cell BK340.out 0).trans rfl, (blk_cell BK340.out 1).trans rfl, ((HB.out.cell (World.block_lt_of_cell? w _ hw341_0)).trans hw341_0), ((HB.out.cell (World.block_lt_of_cell? w _ hw341_1)).trans hw341_1), ((HB.out.cell (World.block_lt_of_cell? w _ hw342_0)).trans hw342_0), ((HB.out.cell (World.block_lt_of_cell? w _ hw342_1)).trans hw342_1)⟩ (fun hHeld => ?_); refine with_tabW laws_lhVal.tab6 laws_lhVal.bits6 (fun HT_ HW_ => ?_)
          generalize wr.drew = w25 at BK339 BK340 HB HR341_1 HR342_1 hx341_0 hx341_1 hx342_0 hx342_1 hHeld ⊢
          refine zp 0 (some 27) HT_ ?_
          refine zp 2 (some 29) HT_ ?_
          refine zp 5 (some 32) HT_ ?_
          refine zp 7 (some 34) HT_ ?_
          refine zt8 1 (some 28) HT_ HW_ hHeld ?_
          refine zp 3 (some 30) HT_ ?_
          refine zt8 4 (some 31) HT_ HW_ hHeld ?_
          refine zt8 6 (some 33) HT_ HW_ hHeld ?_
          refine zp 8 (some 35) HT_ ?_
          refine zt8 9 (some 36) HT_ HW_ hHeld ?_
          refine one_ (i := 10) (N := some 37) #[true, true, true, true, true, true, true, true, true, true, true, false] rfl rfl (one_of HT_.out (by kernel_rfl)) (by decide) (fun K hK => ?_)
          refine goes_ Try.func15 (by kernel_rfl) rfl #[.agg #[.int .i64 ((rd_T25 l0_1 x5_2).f0), .slice A341_1 ((rd_T25 l0_1 x5_2).f1).length c341_1], .agg #[.int .i64 ((rd_T25 l1_1 x5_2).f0), .slice A342_1 ((rd_T25 l1_1 x5_2).f1).length c342_1]] (by rfl) rfl rfl y8 ?_
          with_reducible refine (ih k2 (y87 HJ2.out HK2.out) ((rd_T25 l0_1 x5_2).f0) _ _ ((rd_T25 l0_1 x5_2).f1) ((rd_T25 l1_1 x5_2).f0) _ _ ((rd_T25 l1_1 x5_2).f1) false _ ?side1 ?side2 ?side3 ?side4 A17.out).mono ?_
          (case side1 => exact y15 HR341_1.out HB.out)
          (case side2 => exact HC341_1.out)
          (case side3 => exact y15 HR342_1.out HB.out)
          (case side4 => exact HC342_1.out)
          rintro e w26 ⟨rfl, hb⟩
          refine ⟨_, rfl, ?_⟩
          replace BK339 := zbb BK339 hb
          replace BK340 := zbb BK340 hb
          replace HB := Aside0.mk (below_step (y2 HB.out GE339.out GE340.out) hb)
          (try clear hb)
          (try clear hb2)
          (try clear hk)
          (try clear hi)
          refine hK.out _ _ ⟨(blk_cell BK339.out 0).trans rfl, (blk_cell BK339.out 1).trans rfl, (blk_cell BK340.out 0).trans rfl, (blk_cell BK340.out 1).trans rfl, ((HB.out.cell (World.block_lt_of_cell? w _ hw341_0)).trans hw341_0), ((HB.out.cell (World.block_lt_of_cell? w _ hw341_1)).trans hw341_1), ((HB.out.cell (World.block_lt_of_cell? w _ hw342_0)).trans hw342_0), ((HB.out.cell (World.block_lt_of_cell? w _ hw342_1)).trans hw342_1)⟩ (fun hHeld => ?_)
          clear hK K
          refine norm_ (a' := ?_) ?_ ?_
          rotate_left
          ·show Act.put _ (some 37) _ = _
           simp only [Act.put, List.setIfInBounds_toArray, List.set_cons_zero, List.set_cons_succ, i64_w, i32_w]
           rfl
          refine zp 11 (some 38) HT_ ?_
          refine done_ (done_of HT_.out (by kernel_rfl)) ?_
          try go_wp2
          go_ret
          exact ⟨y19, (y2 HB.out GE339.out GE340.out)⟩
        ·rw [if_neg c16] at H
         exact absurd H (by simp)
       ·rw [if_neg c15] at H
        exact absurd H (by simp)
      ·rw [if_neg c14] at H
       have c14b0 : decide (x5_2 < (l0_1.length : Int)) = false := decide_eq_false c14
       clear c14
       obtain rfl := Option.some.inj H
       have hnb27 := NB339_340.out
       have hnc27 := NB340_339.out
       have hcz28_0 := zh BK339
       have hcz28_1 := zh1 BK339
       have hfz28_0 := zfr BK339 0
       have hfz28_1 := zfr BK339 1
       go_wp2
       go_ret
       exact ⟨y19, (y2 HB.out GE339.out GE340.out)⟩
end Go.Proofs.Ythfflieeifakdaa.PA
end
