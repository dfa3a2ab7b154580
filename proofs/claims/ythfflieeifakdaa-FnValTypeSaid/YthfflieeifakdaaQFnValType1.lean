-- Ythfflieeifakdaa's texts for the statement FnValType, one behind the other (merge.py).
import Derived.Test.YthfflieeifakdaaQFnValType0
section
namespace Go.Proofs.Ythfflieeifakdaa.PA
open Go.RowKit Go.Proofs.YthfflieeifakdaaW.PrintWords Go.Proofs.YthfflieeifakdaaW.PrintLast Go.Proofs.YthfflieeifakdaaW.PrintMore
attribute [local go_sem] max2_int min2_int max_two min_two max_three min_three max_four min_four
set_option linter.unusedVariables false
set_option linter.unusedSimpArgs false
mutual
def spec_l1Val.j0 : Nat → Bool → List (S50) → Int → List (S25) → Option (Bool)
 | 0, _, _, _, _ => none
 | k + 1, x29, x223000, x224000, x224001 => if x29 = true then (some false) else (spec_l1Val.l0 k 0 x223000 x224000 x224001)
def spec_l1Val.l0 : Nat → Int → List (S50) → Int → List (S25) → Option (Bool)
 | 0, _, _, _, _ => none
 | k + 1, x5, x223000, x224000, x224001 => if x5 < (x224001.length : Int) then (if 0 ≤ x5 then (if x5 < (x223000.length : Int) then ((spec_l1Val.f k ((rd_T50 x223000 x5).f0) ((rd_T25 x224001 x5).f0) ((rd_T25 x224001 x5).f1)).bind fun t228 => (if t228 = true then (spec_l1Val.l0 k (wrap64 (x5 + 1)) x223000 x224000 x224001) else (some false))) else (none)) else (none)) else (some true)
def spec_l1Val.f : Nat → List (S50) → Int → List (S25) → Option (Bool)
 | 0, _, _, _ => none
 | k + 1, l0_0, a1_0, l1_1 => if (l1_1.length : Int) = (l0_0.length : Int) then (if (l1_1.length : Int) > 0 then (if a1_0 = 0 then ((spec_l6In.f a1_0 0 9999).bind fun t224 => (spec_l1Val.j0 k (!t224) l0_0 a1_0 l1_1)) else (spec_l1Val.j0 k true l0_0 a1_0 l1_1)) else ((spec_l6In.f a1_0 0 9999).bind fun t225 => (spec_l1Val.j0 k (!t225) l0_0 a1_0 l1_1))) else (spec_l1Val.j0 k true l0_0 a1_0 l1_1)
end
theorem spec_l1Val.mono_l : ∀ k, (∀ y0 y1 y2, LeO (spec_l1Val.f k y0 y1 y2) (spec_l1Val.f (k + 1) y0 y1 y2)) ∧ (∀ y0 y1 y2 y3, LeO (spec_l1Val.j0 k y0 y1 y2 y3) (spec_l1Val.j0 (k + 1) y0 y1 y2 y3)) ∧ (∀ y0 y1 y2 y3, LeO (spec_l1Val.l0 k y0 y1 y2 y3) (spec_l1Val.l0 (k + 1) y0 y1 y2 y3))
 | 0 => ⟨fun _ _ _ r h => by simp [spec_l1Val.f] at h, fun _ _ _ _ r h => by simp [spec_l1Val.j0] at h, fun _ _ _ _ r h => by simp [spec_l1Val.l0] at h⟩
 | k + 1 => by
  obtain ⟨ih0, ih1, ih2⟩ := spec_l1Val.mono_l k
  refine ⟨?_, ?_, ?_⟩
  ·intro y0 y1 y2
   unfold spec_l1Val.f
   repeat' first
   | (with_reducible exact ih0 _ _ _)
   | (with_reducible exact ih1 _ _ _ _)
   | (with_reducible exact ih2 _ _ _ _)
   | (with_reducible exact LeO.refl _)
   | (with_reducible exact LeO.none _)
   | (with_reducible refine LeO.ite ?_ ?_)
   | (with_reducible refine LeO.bind ?_ (fun _ => ?_))
   | exact ih0 _ _ _
   | exact ih1 _ _ _ _
   | exact ih2 _ _ _ _
   | exact LeO.none _
   | refine LeO.ite ?_ ?_
   | refine LeO.bind ?_ (fun _ => ?_)
  ·intro y0 y1 y2 y3
   unfold spec_l1Val.j0
   repeat' first
   | (with_reducible exact ih0 _ _ _)
   | (with_reducible exact ih1 _ _ _ _)
   | (with_reducible exact ih2 _ _ _ _)
   | (with_reducible exact LeO.refl _)
   | (with_reducible exact LeO.none _)
   | (with_reducible refine LeO.ite ?_ ?_)
   | (with_reducible refine LeO.bind ?_ (fun _ => ?_))
   | exact ih0 _ _ _
   | exact ih1 _ _ _ _
   | exact ih2 _ _ _ _
   | exact LeO.none _
   | refine LeO.ite ?_ ?_
   | refine LeO.bind ?_ (fun _ => ?_)
  ·intro y0 y1 y2 y3
   unfold spec_l1Val.l0
   repeat' first
   | (with_reducible exact ih0 _ _ _)
   | (with_reducible exact ih1 _ _ _ _)
   | (with_reducible exact ih2 _ _ _ _)
   | (with_reducible exact LeO.refl _)
   | (with_reducible exact LeO.none _)
   | (with_reducible refine LeO.ite ?_ ?_)
   | (with_reducible refine LeO.bind ?_ (fun _ => ?_))
   | exact ih0 _ _ _
   | exact ih1 _ _ _ _
   | exact ih2 _ _ _ _
   | exact LeO.none _
   | refine LeO.ite ?_ ?_
   | refine LeO.bind ?_ (fun _ => ?_)
theorem spec_l1Val.mono : ∀ a0 a1 a2 k, LeO (spec_l1Val.f k a0 a1 a2) (spec_l1Val.f (k + 1) a0 a1 a2) := by
 intro a0 a1 a2 k
 obtain ⟨ih0, ih1, ih2⟩ := spec_l1Val.mono_l k
 exact ih0 a0 a1 a2
def spec_l1Val.T6 : Bool × List (List Nat × List Nat) := (true, [([], []), ([0], [0]), ([], []), ([1, 2], [1, 2]), ([3], [3]), ([], []), ([5], [5]), ([], []), ([6, 7], [6, 7]), ([8], [8]), ([4, 9], [4, 9]), ([10], [10])])
def spec_l1Val.B6 : List Nat := [0, 1, 0, 7, 15, 0, 32, 0, 224, 480, 1023, 2047]
theorem spec_l1Val.tab6 : rtab .any (opsOf Try.f54 6) = spec_l1Val.T6 := by kernel_rfl
theorem spec_l1Val.bits6 : waitsOk spec_l1Val.T6.2 spec_l1Val.B6 = true := by kernel_rfl
set_option maxHeartbeats 8000000 in
set_option maxRecDepth 100000 in
theorem spec_l1Val.calls (k : Nat) : ∀ (A0_0 : Option Addr) (c0_0 : Nat) (l0_0 : List (S50)) (a1_0 : Int) (A1_1 : Option Addr) (c1_1 : Nat) (l1_1 : List (S25)) (r : Bool) (w : World) (hr0_0 : Kd.C k50 w A0_0 l0_0.length l0_0) (hc0_0 : l0_0.length ≤ c0_0) (hr1_1 : Kd.C k25 w A1_1 l1_1.length l1_1) (hc1_1 : l1_1.length ≤ c1_1) (h : spec_l1Val.f k l0_0 a1_0 l1_1 = some r),
  Calls Try.prog 54 #[.agg #[.slice A0_0 l0_0.length c0_0], .agg #[.int .i64 a1_0, .slice A1_1 l1_1.length c1_1]] w fun e w' => e = .returned (.bool r) ∧ Below w.heap.size w w' := by
 induction k using Nat.strongRecOn with
 | _ k ih =>
 intro A0_0 c0_0 l0_0 a1_0 A1_1 c1_1 l1_1 r w hr0_0 hc0_0 hr1_1 hc1_1 h
 cases k with
 | zero => exact absurd h (by simp [spec_l1Val.f])
 | succ k =>
 simp only [spec_l1Val.f] at h
 have hu50 := Try.underlying50
 have hu25 := Try.underlying25
 have HR0_0 := Aside0.mk hr0_0
 have HC0_0 := Aside0.mk hc0_0
 clear hr0_0 hc0_0
 have HR1_1 := Aside0.mk hr1_1
 have HC1_1 := Aside0.mk hc1_1
 clear hr1_1 hc1_1
 have HB := Aside0.mk (Below.refl w.heap.size w)
 have H : (if (l1_1.length : Int) = (l0_0.length : Int) then (if (l1_1.length : Int) > 0 then (if a1_0 = 0 then ((spec_l6In.f a1_0 0 9999).bind fun t224 => (spec_l1Val.j0 k (!t224) l0_0 a1_0 l1_1)) else (spec_l1Val.j0 k true l0_0 a1_0 l1_1)) else ((spec_l6In.f a1_0 0 9999).bind fun t225 => (spec_l1Val.j0 k (!t225) l0_0 a1_0 l1_1))) else (spec_l1Val.j0 k true l0_0 a1_0 l1_1)) = some r := h
 clear h
 have HC3 := Aside0.mk H
 clear H
 go_enter Try.func54, Try.ntmps54
 go_upto_region 1 with (first | ((with_reducible refine gate_dst (N := 2) rfl ?_); (try (refine gate_guard (by rfl) ?_; dsimp only)); refine zbx 2 #[.slice A0_0 l0_0.length c0_0] 50 ?_; intro gb222 hg w4 hbox hb; have BK222 := Aside0.mk hbox; have GW222 := Aside0.mk ((y10 hg HB.out : w.heap.size ≤ gb222)); have GE222 := Aside0.mk ((y10 hg HB.out : w.heap.size ≤ gb222)); replace HB := Aside0.mk (below_step (y6 HB.out) hb); clear hb hbox hg) | ((with_reducible refine gate_dst (N := 3) rfl ?_); (try (refine gate_guard (by rfl) ?_; dsimp only)); refine zbx 3 #[.int .i64 a1_0, .slice A1_1 l1_1.length c1_1] 25 ?_; intro gb223 hg w5 hbox hb; have BK223 := Aside0.mk hbox; have GW223 := Aside0.mk ((y12 hg HB.out GE222.out : w.heap.size ≤ gb223)); have GE223 := Aside0.mk ((y12 hg HB.out GE222.out : w.heap.size ≤ gb223)); replace HB := Aside0.mk (below_step (y7 HB.out GE222.out) hb); have NB222_223 := zltn hg BK222; have NB223_222 := zgtn hg BK222; replace BK222 := zbb BK222 hb; clear hb hbox hg))
 (try simp only [Act.put, List.setIfInBounds_toArray, List.set_cons_zero, List.set_cons_succ])
 go_cut [29] (fun v29 wc => ∃ (kq : Nat) (x29_2 : Bool), v29 = .bool x29_2 ∧ Aside0 (spec_l1Val.j0 kq x29_2 l0_0 a1_0 l1_1 = some r) ∧ Aside0 (kq ≤ k) ∧ Aside0 (wc.heap[gb222]? = some (.cells #[(.slice A0_0 l0_0.length c0_0)] 50 (0, 0))) ∧ Aside0 (wc.heap[gb223]? = some (.cells #[.int .i64 a1_0, (.slice A1_1 l1_1.length c1_1)] 25 (0, 0))) ∧ Aside0 (Below w.heap.size w wc))
 case first =>
  have H := HC3.out
  clear HC3
  by_cases c6 : (l1_1.length : Int) = (l0_0.length : Int)
  ·rw [if_pos c6] at H
   have c6b0 : ((l1_1.length : Int) == (l0_0.length : Int)) = true := beq_iff_eq.mpr c6
   have c6b1 : ((l1_1.length : Int) != (l0_0.length : Int)) = false := bne_eq_false_iff_eq.mpr c6
   have c6b2 : (l1_1.length == l0_0.length) = true := by first | simpa using c6 | (simp at c6 ⊢; omega)
   clear c6
   (first | rw [c6b0] | (simp only [i64_w, i32_w]; rw [c6b0]) | skip)
   by_cases c7 : (l1_1.length : Int) > 0
   ·rw [if_pos c7] at H
    have c7b0 : decide (0 < (l1_1.length : Int)) = true := decide_eq_true c7
    have c7b1 : decide (0 < l1_1.length) = true := decide_eq_true (by omega)
    clear c7
    by_cases c8 : a1_0 = 0
    ·rw [if_pos c8] at H
     have c8b0 : (a1_0 == 0) = true := beq_iff_eq.mpr c8
     have c8b1 : (a1_0 != 0) = false := bne_eq_false_iff_eq.mpr c8
     clear c8
     obtain ⟨t224, A90, H⟩ := ob H
     have A9 := Aside0.mk A90
     clear A90
     have H' := Aside0.mk H
     clear H
     have hnb10 := NB223_222.out
     have hnc10 := NB222_223.out
     have hcz11_0 := zh BK223
     have hcz11_1 := zh1 BK223
     have hfz11_0 := zfr BK223 0
     have hfz11_1 := zfr BK223 1
     have hcz12_0 := zh BK222
     have hfz12_0 := zfr BK222 0
     go_wp2_with (first | (go_at_call 36; (with_reducible refine (spec_l6In.calls a1_0 0 9999 t224 _ A9.out).mono ?_); rintro e w' ⟨rfl, ⟨nd, rfl⟩⟩))
     go_meet
     case rel => exact ⟨_, (!t224), y29, H', ⟨y50⟩, ⟨(y0 BK222.out)⟩, ⟨(y0 BK223.out)⟩, ⟨(y3 HB.out GE222.out GE223.out)⟩⟩
    ·rw [if_neg c8] at H
     have c8b0 : (a1_0 == 0) = false := beq_eq_false_iff_ne.mpr c8
     have c8b1 : (a1_0 != 0) = true := bne_iff_ne.mpr c8
     have H' := Aside0.mk H
     clear H
     have hnb13 := NB223_222.out
     have hnc13 := NB222_223.out
     have hcz14_0 := zh BK223
     have hcz14_1 := zh1 BK223
     have hfz14_0 := zfr BK223 0
     have hfz14_1 := zfr BK223 1
     have hcz15_0 := zh BK222
     have hfz15_0 := zfr BK222 0
     go_wp2
     go_meet
     case rel => exact ⟨_, (true), y29, H', ⟨y50⟩, ⟨(y0 BK222.out)⟩, ⟨(y0 BK223.out)⟩, ⟨(y3 HB.out GE222.out GE223.out)⟩⟩
   ·rw [if_neg c7] at H
    have c7b0 : decide (0 < (l1_1.length : Int)) = false := decide_eq_false c7
    have c7b1 : decide (0 < l1_1.length) = false := decide_eq_false (by omega)
    clear c7
    obtain ⟨t225, A160, H⟩ := ob H
    have A16 := Aside0.mk A160
    clear A160
    have H' := Aside0.mk H
    clear H
    have hnb17 := NB223_222.out
    have hnc17 := NB222_223.out
    have hcz18_0 := zh BK223
    have hcz18_1 := zh1 BK223
    have hfz18_0 := zfr BK223 0
    have hfz18_1 := zfr BK223 1
    have hcz19_0 := zh BK222
    have hfz19_0 := zfr BK222 0
    go_wp2_with (first | (go_at_call 36; (with_reducible refine (spec_l6In.calls a1_0 0 9999 t225 _ A16.out).mono ?_); rintro e w' ⟨rfl, ⟨nd, rfl⟩⟩))
    go_meet
    case rel => exact ⟨_, (!t225), y29, H', ⟨y50⟩, ⟨(y0 BK222.out)⟩, ⟨(y0 BK223.out)⟩, ⟨(y3 HB.out GE222.out GE223.out)⟩⟩
  ·rw [if_neg c6] at H
   have c6b0 : ((l1_1.length : Int) == (l0_0.length : Int)) = false := beq_eq_false_iff_ne.mpr c6
   have c6b1 : ((l1_1.length : Int) != (l0_0.length : Int)) = true := bne_iff_ne.mpr c6
   have c6b2 : (l1_1.length == l0_0.length) = false := by first | simpa using c6 | (simp at c6 ⊢; omega)
   (first | rw [c6b0] | (simp only [i64_w, i32_w]; rw [c6b0]) | skip)
   have H' := Aside0.mk H
   clear H
   have hnb20 := NB223_222.out
   have hnc20 := NB222_223.out
   have hcz21_0 := zh BK223
   have hcz21_1 := zh1 BK223
   have hfz21_0 := zfr BK223 0
   have hfz21_1 := zfr BK223 1
   have hcz22_0 := zh BK222
   have hfz22_0 := zfr BK222 0
   go_wp2
   go_meet
   case rel => exact ⟨_, (true), y29, H', ⟨y50⟩, ⟨(y0 BK222.out)⟩, ⟨(y0 BK223.out)⟩, ⟨(y3 HB.out GE222.out GE223.out)⟩⟩
 case rest =>
  clear HC3
  try clear c1
  try clear c2
  try clear p2
  try clear c5
  try clear c6
  try clear c6b0
  try clear c6b1
  try clear c6b2
  try clear c7
  try clear c7b0
  try clear c7b1
  try clear c8
  try clear c8b0
  try clear c8b1
  try clear c10
  try clear c13
  try clear c17
  try clear c20
  try clear hcz11_0
  try clear hcz11_1
  try clear hcz12_0
  try clear hcz14_0
  try clear hcz14_1
  try clear hcz15_0
  try clear hcz18_0
  try clear hcz18_1
  try clear hcz19_0
  try clear hcz21_0
  try clear hcz21_1
  try clear hcz22_0
  try clear hfz11_0
  try clear hfz11_1
  try clear hfz12_0
  try clear hfz14_0
  try clear hfz14_1
  try clear hfz15_0
  try clear hfz18_0
  try clear hfz18_1
  try clear hfz19_0
  try clear hfz21_0
  try clear hfz21_1
  try clear hfz22_0
  obtain ⟨kq, x29_2, rfl, HA, HJ2, BK222, BK223, HB⟩ := hcut
  cases kq with
  | zero => exact absurd HA.out (by simp [spec_l1Val.j0])
  | succ kj2 =>
   have H := HA.out
   clear HA
   simp only [spec_l1Val.j0] at H
   by_cases c23 : x29_2 = true
   ·subst c23
    rw [if_pos rfl] at H
    obtain rfl := Option.some.inj H
    go_wp2
    go_ret
    exact ⟨y15, (y3 HB.out GE222.out GE223.out)⟩
   ·replace c23 := Bool.eq_false_iff.mpr c23
    subst c23
    rw [if_neg (show ¬ (false = true) by decide)] at H
    have H' := Aside0.mk H
    clear H
    go_wp2
    go_loopg [5] kj2 (fun kq v5 w' => ∃ (x5_2 : Int), v5 = .int .i64 x5_2 ∧ Aside0 (spec_l1Val.l0 kq x5_2 l0_0 a1_0 l1_1 = some r) ∧ Aside0 (kq ≤ kj2) ∧ Aside0 (w'.heap[gb222]? = some (.cells #[(.slice A0_0 l0_0.length c0_0)] 50 (0, 0))) ∧ Aside0 (w'.heap[gb223]? = some (.cells #[.int .i64 a1_0, (.slice A1_1 l1_1.length c1_1)] 25 (0, 0))) ∧ Aside0 (Below w.heap.size w w'))
    case atStart => exact ⟨(0), y29, H', ⟨Nat.le_refl _⟩, ⟨(y0 BK222.out)⟩, ⟨(y0 BK223.out)⟩, ⟨(y3 HB.out GE222.out GE223.out)⟩⟩
    case round =>
     clear H'
     try clear c1
     try clear c2
     try clear p2
     try clear c5
     try clear c6
     try clear c6b0
     try clear c6b1
     try clear c6b2
     try clear c7
     try clear c7b0
     try clear c7b1
     try clear c8
     try clear c8b0
     try clear c8b1
     try clear c10
     try clear c13
     try clear c17
     try clear c20
     try clear c23
     try clear hcz11_0
     try clear hcz11_1
     try clear hcz12_0
     try clear hcz14_0
     try clear hcz14_1
     try clear hcz15_0
     try clear hcz18_0
     try clear hcz18_1
     try clear hcz19_0
     try clear hcz21_0
     try clear hcz21_1
     try clear hcz22_0
     try clear hfz11_0
     try clear hfz11_1
     try clear hfz12_0
     try clear hfz14_0
     try clear hfz14_1
     try clear hfz15_0
     try clear hfz18_0
     try clear hfz18_1
     try clear hfz19_0
     try clear hfz21_0
     try clear hfz21_1
     try clear hfz22_0
     try clear p2
     (try clear BK222); (try clear BK223)
     obtain ⟨x5_2, rfl, HA, HK2, BK222, BK223, HB⟩ := hrel
     cases gk with
     | zero => exact absurd HA.out (by simp [spec_l1Val.l0])
     | succ k2 =>
      have H := HA.out
      clear HA
      simp only [spec_l1Val.l0] at H
      by_cases c24 : x5_2 < (l1_1.length : Int)
      ·rw [if_pos c24] at H
       have c24b0 : decide (x5_2 < (l1_1.length : Int)) = true := decide_eq_true c24
       clear c24
       by_cases c25 : 0 ≤ x5_2
       ·rw [if_pos c25] at H
        have c25b0 : decide (0 ≤ x5_2) = true := decide_eq_true c25
        clear c25
        by_cases c26 : x5_2 < (l0_0.length : Int)
        ·rw [if_pos c26] at H
         have c26b0 : decide (x5_2 < (l0_0.length : Int)) = true := decide_eq_true c26
         clear c26
         obtain ⟨t228, A270, H⟩ := ob H
         have A27 := Aside0.mk A270
         clear A270
         have HZ28 := Aside0.mk H
         clear H
         have hnb29 := NB223_222.out
         have hnc29 := NB222_223.out
         have hcz30_0 := zh BK223
         have hcz30_1 := zh1 BK223
         have hfz30_0 := zfr BK223 0
         have hfz30_1 := zfr BK223 1
         try go_wp2
         replace BK222 := Aside0.mk (blk_drew BK222.out)
         replace BK223 := Aside0.mk (blk_drew BK223.out)
         replace HB := Aside0.mk (below_drew1 HB.out)
         have p226 : 0 ≤ (x5_2 : Int) := of_decide_eq_true y23
         have q226 : x5_2 < (l0_0.length : Int) := of_decide_eq_true y23
         obtain ⟨ad226, A226_0, c226_0, e226, hx226_0, hl226_0, hi226_0⟩ := at_T50 HR0_0.out x5_2 p226 q226
         have hw226_0 := hx226_0
         cases e226
         replace hx226_0 := (HB.out.cell (World.block_lt_of_cell? w _ hx226_0)).trans hx226_0
         have HR226_0 := Aside0.mk hi226_0
         have HC226_0 := Aside0.mk hl226_0
         clear hi226_0 hl226_0
         replace p226 := eq_true p226
         replace q226 := eq_true q226
         have p227 : 0 ≤ (x5_2 : Int) := of_decide_eq_true y23
         have q227 : x5_2 < (l1_1.length : Int) := of_decide_eq_true y23
         obtain ⟨ad227, A227_1, c227_1, e227, hx227_0, hx227_1, hl227_1, hi227_1⟩ := at_T25 HR1_1.out x5_2 p227 q227
         have hw227_1 := hx227_1
         have hw227_0 := hx227_0
         cases e227
         replace hx227_0 := (HB.out.cell (World.block_lt_of_cell? w _ hx227_0)).trans hx227_0
         replace hx227_1 := (HB.out.cell (World.block_lt_of_cell? w _ hx227_1)).trans hx227_1
         have HR227_1 := Aside0.mk hi227_1
         have HC227_1 := Aside0.mk hl227_1
         clear hi227_1 hl227_1
         replace p227 := eq_true p227
         replace q227 := eq_true q227
         refine start_ (n := 12) (S := fun w' => w'.cell? ⟨gb222, 0, none⟩ = some (.slice (some ad226) l0_0.length c0_0) ∧ w'.cell? ⟨gb223, 0, none⟩ = some (.int .i64 a1_0) ∧ w'.cell? ⟨gb223, 1, none⟩ = some (.slice (some ad227) l1_1.length c1_1) ∧ w'.cell? (ad226.add (x5_2).toNat) = some (.slice A226_0 ((rd_T50 l0_0 x5_2).f0).length c226_0) ∧ w'.cell? (ad227.add ((x5_2).toNat * 2)) = some (.int .i64 ((rd_T25 l1_1 x5_2).f0)) ∧ w'.cell? ⟨(ad227.add ((x5_2).toNat * 2)).block, (ad227.add ((x5_2).toNat * 2)).off + 1, none⟩ = some (.slice A227_1 ((rd_T25 l1_1 x5_2).f1).length c227_1)) (ds := []) #[false, false, false, false, false, false, false, false, false, false, false, false] (by kernel_rfl) rfl rfl ⟨(blk_cell BK222.out 0).trans rfl, (blk_cell BK223.out 0).trans rfl, (blk_cell BK223.out 1).trans rfl, ((HB.out.cell (World.block_lt_of_cell? w _ hw226_0)).trans hw226_0), ((HB.out.cell (World.block_lt_of_cell? w _ hw227_0)).trans hw227_0), ((HB.out.cell (World.block_lt_of_cell? w _ hw227_1)).trans hw227_1)⟩ (fun hHeld => ?_); refine with_tabW spec_l1Val.tab6 spec_l1Val.bits6 (fun HT_ HW_ => ?_)
         generalize wr.drew = w31 at BK222 BK223 HB HR226_0 HR227_1 hx226_0 hx227_0 hx227_1 hHeld ⊢
         refine zp 0 (some 37) HT_ ?_
         refine zp 2 (some 39) HT_ ?_
         refine zp 5 (some 42) HT_ ?_
         refine zp 7 (some 44) HT_ ?_
         refine zt6 1 (some 38) HT_ HW_ hHeld ?_
         refine zp 3 (some 40) HT_ ?_
         refine zt6 4 (some 41) HT_ HW_ hHeld ?_
         refine zt6 6 (some 43) HT_ HW_ hHeld ?_
         refine zp 8 (some 45) HT_ ?_
         refine zt6 9 (some 46) HT_ HW_ hHeld ?_
         refine one_ (i := 10) (N := some 47) #[true, true, true, true, true, true, true, true, true, true, true, false] rfl rfl (one_of HT_.out (by kernel_rfl)) (by decide) (fun K hK => ?_)
         refine goes_ Try.func54 (by kernel_rfl) rfl #[.agg #[.slice A226_0 ((rd_T50 l0_0 x5_2).f0).length c226_0], .agg #[.int .i64 ((rd_T25 l1_1 x5_2).f0), .slice A227_1 ((rd_T25 l1_1 x5_2).f1).length c227_1]] (by rfl) rfl rfl y9 ?_
         with_reducible refine (ih k2 (y108 HJ2.out HK2.out) _ _ ((rd_T50 l0_0 x5_2).f0) ((rd_T25 l1_1 x5_2).f0) _ _ ((rd_T25 l1_1 x5_2).f1) t228 _ ?side1 ?side2 ?side3 ?side4 A27.out).mono ?_
         (case side1 => exact y18 HR226_0.out HB.out)
         (case side2 => exact HC226_0.out)
         (case side3 => exact y18 HR227_1.out HB.out)
         (case side4 => exact HC227_1.out)
         rintro e w32 ⟨rfl, hb⟩
         refine ⟨_, rfl, ?_⟩
         replace BK222 := zbb BK222 hb
         replace BK223 := zbb BK223 hb
         replace HB := Aside0.mk (below_step (y3 HB.out GE222.out GE223.out) hb)
         (try clear hb)
         (try clear hb2)
         (try clear hk)
         (try clear hi)
         refine hK.out _ _ ⟨(blk_cell BK222.out 0).trans rfl, (blk_cell BK223.out 0).trans rfl, (blk_cell BK223.out 1).trans rfl, ((HB.out.cell (World.block_lt_of_cell? w _ hw226_0)).trans hw226_0), ((HB.out.cell (World.block_lt_of_cell? w _ hw227_0)).trans hw227_0), ((HB.out.cell (World.block_lt_of_cell? w _ hw227_1)).trans hw227_1)⟩ (fun hHeld => ?_)
         clear hK K
         refine norm_ (a' := ?_) ?_ ?_
         rotate_left
         ·show Act.put _ (some 47) _ = _
          simp only [Act.put, List.setIfInBounds_toArray, List.set_cons_zero, List.set_cons_succ, i64_w, i32_w]
          rfl
         refine zp 11 (some 48) HT_ ?_
         refine done_ (done_of HT_.out (by kernel_rfl)) ?_
         have H := HZ28.out
         clear HZ28
         by_cases c33 : t228 = true
         ·subst c33
          rw [if_pos rfl] at H
          have H' := Aside0.mk H
          clear H
          go_wp2
          go_roundg k2
          case measure => have := HJ2.out; have := HK2.out; omega
          case rel => exact ⟨(wrap64 (x5_2 + 1)), y29, H', ⟨(y108 HJ2.out HK2.out)⟩, ⟨(y0 BK222.out)⟩, ⟨(y0 BK223.out)⟩, ⟨(y3 HB.out GE222.out GE223.out)⟩⟩
         ·replace c33 := Bool.eq_false_iff.mpr c33
          subst c33
          rw [if_neg (show ¬ (false = true) by decide)] at H
          obtain rfl := Option.some.inj H
          go_wp2
          go_ret
          exact ⟨y15, (y3 HB.out GE222.out GE223.out)⟩
        ·rw [if_neg c26] at H
         exact absurd H (by simp)
       ·rw [if_neg c25] at H
        exact absurd H (by simp)
      ·rw [if_neg c24] at H
       have c24b0 : decide (x5_2 < (l1_1.length : Int)) = false := decide_eq_false c24
       clear c24
       obtain rfl := Option.some.inj H
       have hnb34 := NB223_222.out
       have hnc34 := NB222_223.out
       have hcz35_0 := zh BK223
       have hcz35_1 := zh1 BK223
       have hfz35_0 := zfr BK223 0
       have hfz35_1 := zfr BK223 1
       go_wp2
       go_ret
       exact ⟨y15, (y3 HB.out GE222.out GE223.out)⟩
end Go.Proofs.Ythfflieeifakdaa.PA
end
section
namespace Go.Proofs.Ythfflieeifakdaa.PA
open Go.RowKit Go.Proofs.YthfflieeifakdaaW.PrintWords Go.Proofs.YthfflieeifakdaaW.PrintLast Go.Proofs.YthfflieeifakdaaW.PrintMore
attribute [local go_sem] max2_int min2_int max_two min_two max_three min_three max_four min_four
set_option linter.unusedVariables false
set_option linter.unusedSimpArgs false
def spec_ValOk.f (k : Nat) (l0_0 : List (S50)) (a1_0 : Int) (l1_1 : List (S25)) : Option (Bool) := (spec_TypeOk.f k l0_0).bind fun t231 => (if t231 = true then ((spec_l1Val.f k l0_0 a1_0 l1_1).bind fun t232 => (some t232)) else (some false))
theorem spec_ValOk.mono : ∀ a0 a1 a2 k, LeO (spec_ValOk.f k a0 a1 a2) (spec_ValOk.f (k + 1) a0 a1 a2) := by
 intro a0 a1 a2 k
 unfold spec_ValOk.f
 repeat' first
   | (with_reducible exact spec_TypeOk.mono _ _)
   | (with_reducible exact spec_l1Val.mono _ _ _ _)
   | (with_reducible exact LeO.refl _)
   | (with_reducible exact LeO.none _)
   | (with_reducible refine LeO.ite ?_ ?_)
   | (with_reducible refine LeO.bind ?_ (fun _ => ?_))
   | exact spec_TypeOk.mono _ _
   | exact spec_l1Val.mono _ _ _ _
   | exact LeO.none _
   | refine LeO.ite ?_ ?_
   | refine LeO.bind ?_ (fun _ => ?_)
set_option maxHeartbeats 8000000 in
set_option maxRecDepth 100000 in
theorem spec_ValOk.calls (k : Nat) (A0_0 : Option Addr) (c0_0 : Nat) (l0_0 : List (S50)) (a1_0 : Int) (A1_1 : Option Addr) (c1_1 : Nat) (l1_1 : List (S25)) (r : Bool) (w : World) (hr0_0 : Kd.C k50 w A0_0 l0_0.length l0_0) (hc0_0 : l0_0.length ≤ c0_0) (hr1_1 : Kd.C k25 w A1_1 l1_1.length l1_1) (hc1_1 : l1_1.length ≤ c1_1) (h : spec_ValOk.f k l0_0 a1_0 l1_1 = some r) :
  Calls Try.prog 29 #[.agg #[.slice A0_0 l0_0.length c0_0], .agg #[.int .i64 a1_0, .slice A1_1 l1_1.length c1_1]] w fun e w' => e = .returned (.bool r) ∧ Below w.heap.size w w' := by
 have hu50 := Try.underlying50
 have hu25 := Try.underlying25
 have HR0_0 := Aside0.mk hr0_0
 have HC0_0 := Aside0.mk hc0_0
 clear hr0_0 hc0_0
 have HR1_1 := Aside0.mk hr1_1
 have HC1_1 := Aside0.mk hc1_1
 clear hr1_1 hc1_1
 have HB := Aside0.mk (Below.refl w.heap.size w)
 have H : ((spec_TypeOk.f k l0_0).bind fun t231 => (if t231 = true then ((spec_l1Val.f k l0_0 a1_0 l1_1).bind fun t232 => (some t232)) else (some false))) = some r := h
 clear h
 obtain ⟨t231, A30, H⟩ := ob H
 have A3 := Aside0.mk A30
 clear A30
 by_cases c4 : t231 = true
 ·subst c4
  rw [if_pos rfl] at H
  obtain ⟨t232, A50, H⟩ := ob H
  have A5 := Aside0.mk A50
  clear A50
  obtain rfl := Option.some.inj H
  go_enter Try.func29, Try.ntmps29
  go_wp2_with (first | ((with_reducible refine gate_dst (N := 2) rfl ?_); refine zbx 2 #[.slice A0_0 l0_0.length c0_0] 50 ?_; intro gb229 hg w6 hbox hb; have BK229 := Aside0.mk hbox; have GW229 := Aside0.mk ((y10 hg HB.out : w.heap.size ≤ gb229)); have GE229 := Aside0.mk ((y10 hg HB.out : w.heap.size ≤ gb229)); replace HB := Aside0.mk (below_step (y6 HB.out) hb); clear hb hbox hg) | ((with_reducible refine gate_dst (N := 3) rfl ?_); refine zbx 3 #[.int .i64 a1_0, .slice A1_1 l1_1.length c1_1] 25 ?_; intro gb230 hg w7 hbox hb; have BK230 := Aside0.mk hbox; have GW230 := Aside0.mk ((y12 hg HB.out GE229.out : w.heap.size ≤ gb230)); have GE230 := Aside0.mk ((y12 hg HB.out GE229.out : w.heap.size ≤ gb230)); replace HB := Aside0.mk (below_step (y7 HB.out GE229.out) hb); have NB229_230 := zltn hg BK229; have NB230_229 := zgtn hg BK229; replace BK229 := zbb BK229 hb; clear hb hbox hg; have hnb8 := NB229_230.out; have hnc8 := NB230_229.out; have hcz9_0 := zh BK229; have hfz9_0 := zfr BK229 0) | ((with_reducible refine gate_callee (f := 53) rfl ?_); refine goesL_ (some 6) rfl rfl Try.func53 (by kernel_rfl) rfl #[.agg #[.slice A0_0 l0_0.length c0_0]] rfl y9 ?_; (with_reducible refine (spec_TypeOk.calls k _ _ l0_0 true _ ?side1 ?side2 A3.out).mono ?_); (case side1 => exact y18 HR0_0.out HB.out); (case side2 => exact HC0_0.out); rintro e w10 ⟨rfl, hb⟩; refine ⟨_, rfl, ?_⟩; replace BK229 := zbb BK229 hb; replace BK230 := zbb BK230 hb; replace HB := Aside0.mk (below_step (y3 HB.out GE229.out GE230.out) hb); (try clear hb); (try clear hb2); (try clear hk); (try clear hi); have hcz11_0 := zh BK229; have hfz11_0 := zfr BK229 0; have hcz12_0 := zh BK230; have hcz12_1 := zh1 BK230; have hfz12_0 := zfr BK230 0; have hfz12_1 := zfr BK230 1) | (go_at_call 54; (with_reducible refine (spec_l1Val.calls k _ _ l0_0 a1_0 _ _ l1_1 t232 _ ?side1 ?side2 ?side3 ?side4 A5.out).mono ?_); (case side1 => exact y18 HR0_0.out HB.out); (case side2 => exact HC0_0.out); (case side3 => exact y18 HR1_1.out HB.out); (case side4 => exact HC1_1.out); rintro e w13 ⟨rfl, hb⟩; replace BK229 := zbb BK229 hb; replace BK230 := zbb BK230 hb; replace HB := Aside0.mk (below_step (y3 HB.out GE229.out GE230.out) hb); (try clear hb); (try clear hb2); (try clear hk); (try clear hi)))
  go_ret
  exact ⟨y15, (y3 HB.out GE229.out GE230.out)⟩
 ·replace c4 := Bool.eq_false_iff.mpr c4
  subst c4
  rw [if_neg (show ¬ (false = true) by decide)] at H
  obtain rfl := Option.some.inj H
  go_enter Try.func29, Try.ntmps29
  go_wp2_with (first | ((with_reducible refine gate_dst (N := 2) rfl ?_); refine zbx 2 #[.slice A0_0 l0_0.length c0_0] 50 ?_; intro gb229 hg w14 hbox hb; have BK229 := Aside0.mk hbox; have GW229 := Aside0.mk ((y10 hg HB.out : w.heap.size ≤ gb229)); have GE229 := Aside0.mk ((y10 hg HB.out : w.heap.size ≤ gb229)); replace HB := Aside0.mk (below_step (y6 HB.out) hb); clear hb hbox hg) | ((with_reducible refine gate_dst (N := 3) rfl ?_); refine zbx 3 #[.int .i64 a1_0, .slice A1_1 l1_1.length c1_1] 25 ?_; intro gb230 hg w15 hbox hb; have BK230 := Aside0.mk hbox; have GW230 := Aside0.mk ((y12 hg HB.out GE229.out : w.heap.size ≤ gb230)); have GE230 := Aside0.mk ((y12 hg HB.out GE229.out : w.heap.size ≤ gb230)); replace HB := Aside0.mk (below_step (y7 HB.out GE229.out) hb); have NB229_230 := zltn hg BK229; have NB230_229 := zgtn hg BK229; replace BK229 := zbb BK229 hb; clear hb hbox hg; have hnb16 := NB229_230.out; have hnc16 := NB230_229.out; have hcz17_0 := zh BK229; have hfz17_0 := zfr BK229 0) | ((with_reducible refine gate_callee (f := 53) rfl ?_); refine goesL_ (some 6) rfl rfl Try.func53 (by kernel_rfl) rfl #[.agg #[.slice A0_0 l0_0.length c0_0]] rfl y9 ?_; (with_reducible refine (spec_TypeOk.calls k _ _ l0_0 false _ ?side1 ?side2 A3.out).mono ?_); (case side1 => exact y18 HR0_0.out HB.out); (case side2 => exact HC0_0.out); rintro e w18 ⟨rfl, hb⟩; refine ⟨_, rfl, ?_⟩; replace BK229 := zbb BK229 hb; replace BK230 := zbb BK230 hb; replace HB := Aside0.mk (below_step (y3 HB.out GE229.out GE230.out) hb); (try clear hb); (try clear hb2); (try clear hk); (try clear hi)))
  go_ret
  exact ⟨y15, (y3 HB.out GE229.out GE230.out)⟩
end Go.Proofs.Ythfflieeifakdaa.PA
end
section
namespace Go.Proofs.Ythfflieeifakdaa.PA
open Go.RowKit Go.Proofs.YthfflieeifakdaaW.PrintWords Go.Proofs.YthfflieeifakdaaW.PrintLast Go.Proofs.YthfflieeifakdaaW.PrintMore
attribute [local go_sem] max2_int min2_int max_two min_two max_three min_three max_four min_four
set_option linter.unusedVariables false
set_option linter.unusedSimpArgs false
mutual
def laws_lhVal.j0 : Nat → Bool → Int → List (S25) → Int → List (S25) → Option (Bool)
 | 0, _, _, _, _, _ => none
 | k + 1, x19, x374000, x374001, x375000, x375001 => if x19 = true then (some false) else (laws_lhVal.l0 k 0 x374000 x374001 x375000 x375001)
def laws_lhVal.l0 : Nat → Int → Int → List (S25) → Int → List (S25) → Option (Bool)
 | 0, _, _, _, _, _ => none
 | k + 1, x5, x374000, x374001, x375000, x375001 => if x5 < (x374001.length : Int) then (if 0 ≤ x5 then (if x5 < (x375001.length : Int) then ((laws_lhVal.f k ((rd_T25 x374001 x5).f0) ((rd_T25 x374001 x5).f1) ((rd_T25 x375001 x5).f0) ((rd_T25 x375001 x5).f1)).bind fun t377 => (if t377 = true then (laws_lhVal.l0 k (wrap64 (x5 + 1)) x374000 x374001 x375000 x375001) else (some false))) else (none)) else (none)) else (some true)
def laws_lhVal.f : Nat → Int → List (S25) → Int → List (S25) → Option (Bool)
 | 0, _, _, _, _ => none
 | k + 1, a0_0, l0_1, a1_0, l1_1 => if a0_0 = a1_0 then (laws_lhVal.j0 k ((l0_1.length : Int) != (l1_1.length : Int)) a0_0 l0_1 a1_0 l1_1) else (laws_lhVal.j0 k true a0_0 l0_1 a1_0 l1_1)
end
theorem laws_lhVal.mono_l : ∀ k, (∀ y0 y1 y2 y3, LeO (laws_lhVal.f k y0 y1 y2 y3) (laws_lhVal.f (k + 1) y0 y1 y2 y3)) ∧ (∀ y0 y1 y2 y3 y4, LeO (laws_lhVal.j0 k y0 y1 y2 y3 y4) (laws_lhVal.j0 (k + 1) y0 y1 y2 y3 y4)) ∧ (∀ y0 y1 y2 y3 y4, LeO (laws_lhVal.l0 k y0 y1 y2 y3 y4) (laws_lhVal.l0 (k + 1) y0 y1 y2 y3 y4))
 | 0 => ⟨fun _ _ _ _ r h => by simp [laws_lhVal.f] at h, fun _ _ _ _ _ r h => by simp [laws_lhVal.j0] at h, fun _ _ _ _ _ r h => by simp [laws_lhVal.l0] at h⟩
 | k + 1 => by
  obtain ⟨ih0, ih1, ih2⟩ := laws_lhVal.mono_l k
  refine ⟨?_, ?_, ?_⟩
  ·intro y0 y1 y2 y3
   unfold laws_lhVal.f
   repeat' first
   | (with_reducible exact ih0 _ _ _ _)
   | (with_reducible exact ih1 _ _ _ _ _)
   | (with_reducible exact ih2 _ _ _ _ _)
   | (with_reducible exact LeO.refl _)
   | (with_reducible exact LeO.none _)
   | (with_reducible refine LeO.ite ?_ ?_)
   | (with_reducible refine LeO.bind ?_ (fun _ => ?_))
   | exact ih0 _ _ _ _
   | exact ih1 _ _ _ _ _
   | exact ih2 _ _ _ _ _
   | exact LeO.none _
   | refine LeO.ite ?_ ?_
   | refine LeO.bind ?_ (fun _ => ?_)
  ·intro y0 y1 y2 y3 y4
   unfold laws_lhVal.j0
   repeat' first
   | (with_reducible exact ih0 _ _ _ _)
   | (with_reducible exact ih1 _ _ _ _ _)
   | (with_reducible exact ih2 _ _ _ _ _)
   | (with_reducible exact LeO.refl _)
   | (with_reducible exact LeO.none _)
   | (with_reducible refine LeO.ite ?_ ?_)
   | (with_reducible refine LeO.bind ?_ (fun _ => ?_))
   | exact ih0 _ _ _ _
   | exact ih1 _ _ _ _ _
   | exact ih2 _ _ _ _ _
   | exact LeO.none _
   | refine LeO.ite ?_ ?_
   | refine LeO.bind ?_ (fun _ => ?_)
  ·intro y0 y1 y2 y3 y4
   unfold laws_lhVal.l0
   repeat' first
   | (with_reducible exact ih0 _ _ _ _)
   | (with_reducible exact ih1 _ _ _ _ _)
   | (with_reducible exact ih2 _ _ _ _ _)
   | (with_reducible exact LeO.refl _)
   | (with_reducible exact LeO.none _)
   | (with_reducible refine LeO.ite ?_ ?_)
   | (with_reducible refine LeO.bind ?_ (fun _ => ?_))
   | exact ih0 _ _ _ _
   | exact ih1 _ _ _ _ _
   | exact ih2 _ _ _ _ _
   | exact LeO.none _
   | refine LeO.ite ?_ ?_
   | refine LeO.bind ?_ (fun _ => ?_)
theorem laws_lhVal.mono : ∀ a0 a1 a2 a3 k, LeO (laws_lhVal.f k a0 a1 a2 a3) (laws_lhVal.f (k + 1) a0 a1 a2 a3) := by
 intro a0 a1 a2 a3 k
 obtain ⟨ih0, ih1, ih2⟩ := laws_lhVal.mono_l k
 exact ih0 a0 a1 a2 a3
def laws_lhVal.T6 : Bool × List (List Nat × List Nat) := (true, [([], []), ([0], [0]), ([], []), ([1, 2], [1, 2]), ([3], [3]), ([], []), ([5], [5]), ([], []), ([6, 7], [6, 7]), ([8], [8]), ([4, 9], [4, 9]), ([10], [10])])
def laws_lhVal.B6 : List Nat := [0, 1, 0, 7, 15, 0, 32, 0, 224, 480, 1023, 2047]
theorem laws_lhVal.tab6 : rtab .any (opsOf Try.f15 6) = laws_lhVal.T6 := by kernel_rfl
theorem laws_lhVal.bits6 : waitsOk laws_lhVal.T6.2 laws_lhVal.B6 = true := by kernel_rfl
set_option maxHeartbeats 8000000 in
set_option maxRecDepth 100000 in
theorem laws_lhVal.calls (k : Nat) : ∀ (a0_0 : Int) (A0_1 : Option Addr) (c0_1 : Nat) (l0_1 : List (S25)) (a1_0 : Int) (A1_1 : Option Addr) (c1_1 : Nat) (l1_1 : List (S25)) (r : Bool) (w : World) (hr0_1 : Kd.C k25 w A0_1 l0_1.length l0_1) (hc0_1 : l0_1.length ≤ c0_1) (hr1_1 : Kd.C k25 w A1_1 l1_1.length l1_1) (hc1_1 : l1_1.length ≤ c1_1) (h : laws_lhVal.f k a0_0 l0_1 a1_0 l1_1 = some r),
  Calls Try.prog 15 #[.agg #[.int .i64 a0_0, .slice A0_1 l0_1.length c0_1], .agg #[.int .i64 a1_0, .slice A1_1 l1_1.length c1_1]] w fun e w' => e = .returned (.bool r) ∧ Below w.heap.size w w' := by
 induction k using Nat.strongRecOn with
 | _ k ih =>
 intro a0_0 A0_1 c0_1 l0_1 a1_0 A1_1 c1_1 l1_1 r w hr0_1 hc0_1 hr1_1 hc1_1 h
 cases k with
 | zero => exact absurd h (by simp [laws_lhVal.f])
 | succ k =>
 simp only [laws_lhVal.f] at h
 have hu25 := Try.underlying25
 have HR0_1 := Aside0.mk hr0_1
 have HC0_1 := Aside0.mk hc0_1
 clear hr0_1 hc0_1
 have HR1_1 := Aside0.mk hr1_1
 have HC1_1 := Aside0.mk hc1_1
 clear hr1_1 hc1_1
 have HB := Aside0.mk (Below.refl w.heap.size w)
 have H : (if a0_0 = a1_0 then (laws_lhVal.j0 k ((l0_1.length : Int) != (l1_1.length : Int)) a0_0 l0_1 a1_0 l1_1) else (laws_lhVal.j0 k true a0_0 l0_1 a1_0 l1_1)) = some r := h
 clear h
 have HC3 := Aside0.mk H
 clear H
 go_enter Try.func15, Try.ntmps15
 go_upto_region 1 with (first | ((with_reducible refine gate_dst (N := 2) rfl ?_); (try (refine gate_guard (by rfl) ?_; dsimp only)); refine zbx 2 #[.int .i64 a0_0, .slice A0_1 l0_1.length c0_1] 25 ?_; intro gb373 hg w4 hbox hb; have BK373 := Aside0.mk hbox; have GW373 := Aside0.mk ((y10 hg HB.out : w.heap.size ≤ gb373)); have GE373 := Aside0.mk ((y10 hg HB.out : w.heap.size ≤ gb373)); replace HB := Aside0.mk (below_step (y6 HB.out) hb); clear hb hbox hg) | ((with_reducible refine gate_dst (N := 3) rfl ?_); (try (refine gate_guard (by rfl) ?_; dsimp only)); refine zbx 3 #[.int .i64 a1_0, .slice A1_1 l1_1.length c1_1] 25 ?_; intro gb374 hg w5 hbox hb; have BK374 := Aside0.mk hbox; have GW374 := Aside0.mk ((y12 hg HB.out GE373.out : w.heap.size ≤ gb374)); have GE374 := Aside0.mk ((y12 hg HB.out GE373.out : w.heap.size ≤ gb374)); replace HB := Aside0.mk (below_step (y7 HB.out GE373.out) hb); have NB373_374 := zltn hg BK373; have NB374_373 := zgtn hg BK373; replace BK373 := zbb BK373 hb; clear hb hbox hg))
 (try simp only [Act.put, List.setIfInBounds_toArray, List.set_cons_zero, List.set_cons_succ])
 go_cut [19] (fun v19 wc => ∃ (kq : Nat) (x19_2 : Bool), v19 = .bool x19_2 ∧ Aside0 (laws_lhVal.j0 kq x19_2 a0_0 l0_1 a1_0 l1_1 = some r) ∧ Aside0 (kq ≤ k) ∧ Aside0 (wc.heap[gb373]? = some (.cells #[.int .i64 a0_0, (.slice A0_1 l0_1.length c0_1)] 25 (0, 0))) ∧ Aside0 (wc.heap[gb374]? = some (.cells #[.int .i64 a1_0, (.slice A1_1 l1_1.length c1_1)] 25 (0, 0))) ∧ Aside0 (Below w.heap.size w wc))
 case first =>
  have H := HC3.out
  clear HC3
  by_cases c6 : a0_0 = a1_0
  ·rw [if_pos c6] at H
   have c6b0 : (a0_0 == a1_0) = true := beq_iff_eq.mpr c6
   have c6b1 : (a0_0 != a1_0) = false := bne_eq_false_iff_eq.mpr c6
   clear c6
   (first | rw [c6b0] | (simp only [i64_w, i32_w]; rw [c6b0]) | skip)
   have H' := Aside0.mk H
   clear H
   have hnb7 := NB373_374.out
   have hnc7 := NB374_373.out
   have hcz8_0 := zh BK373
   have hcz8_1 := zh1 BK373
   have hfz8_0 := zfr BK373 0
   have hfz8_1 := zfr BK373 1
   have hcz9_0 := zh BK374
   have hcz9_1 := zh1 BK374
   have hfz9_0 := zfr BK374 0
   have hfz9_1 := zfr BK374 1
   go_wp2
   go_meet
   case rel => exact ⟨_, (((l0_1.length : Int) != (l1_1.length : Int))), y29, H', ⟨y50⟩, ⟨(y0 BK373.out)⟩, ⟨(y0 BK374.out)⟩, ⟨(y3 HB.out GE373.out GE374.out)⟩⟩
  ·rw [if_neg c6] at H
   have c6b0 : (a0_0 == a1_0) = false := beq_eq_false_iff_ne.mpr c6
   have c6b1 : (a0_0 != a1_0) = true := bne_iff_ne.mpr c6
   (first | rw [c6b0] | (simp only [i64_w, i32_w]; rw [c6b0]) | skip)
   have H' := Aside0.mk H
   clear H
   have hnb10 := NB373_374.out
   have hnc10 := NB374_373.out
   have hcz11_0 := zh BK373
   have hcz11_1 := zh1 BK373
   have hfz11_0 := zfr BK373 0
   have hfz11_1 := zfr BK373 1
   have hcz12_0 := zh BK374
   have hcz12_1 := zh1 BK374
   have hfz12_0 := zfr BK374 0
   have hfz12_1 := zfr BK374 1
   go_wp2
   go_meet
   case rel => exact ⟨_, (true), y29, H', ⟨y50⟩, ⟨(y0 BK373.out)⟩, ⟨(y0 BK374.out)⟩, ⟨(y3 HB.out GE373.out GE374.out)⟩⟩
 case rest =>
  clear HC3
  try clear c1
  try clear p2
  try clear c6
  try clear c6b0
  try clear c6b1
  try clear c7
  try clear c10
  try clear hcz11_0
  try clear hcz11_1
  try clear hcz12_0
  try clear hcz12_1
  try clear hcz8_0
  try clear hcz8_1
  try clear hcz9_0
  try clear hcz9_1
  try clear hfz11_0
  try clear hfz11_1
  try clear hfz12_0
  try clear hfz12_1
  try clear hfz8_0
  try clear hfz8_1
  try clear hfz9_0
  try clear hfz9_1
  obtain ⟨kq, x19_2, rfl, HA, HJ2, BK373, BK374, HB⟩ := hcut
  cases kq with
  | zero => exact absurd HA.out (by simp [laws_lhVal.j0])
  | succ kj2 =>
   have H := HA.out
   clear HA
   simp only [laws_lhVal.j0] at H
   by_cases c13 : x19_2 = true
   ·subst c13
    rw [if_pos rfl] at H
    obtain rfl := Option.some.inj H
    go_wp2
    go_ret
    exact ⟨y15, (y3 HB.out GE373.out GE374.out)⟩
   ·replace c13 := Bool.eq_false_iff.mpr c13
    subst c13
    rw [if_neg (show ¬ (false = true) by decide)] at H
    have H' := Aside0.mk H
    clear H
    go_wp2
    go_loopg [5] kj2 (fun kq v5 w' => ∃ (x5_2 : Int), v5 = .int .i64 x5_2 ∧ Aside0 (laws_lhVal.l0 kq x5_2 a0_0 l0_1 a1_0 l1_1 = some r) ∧ Aside0 (kq ≤ kj2) ∧ Aside0 (w'.heap[gb373]? = some (.cells #[.int .i64 a0_0, (.slice A0_1 l0_1.length c0_1)] 25 (0, 0))) ∧ Aside0 (w'.heap[gb374]? = some (.cells #[.int .i64 a1_0, (.slice A1_1 l1_1.length c1_1)] 25 (0, 0))) ∧ Aside0 (Below w.heap.size w w'))
    case atStart => exact ⟨(0), y29, H', ⟨Nat.le_refl _⟩, ⟨(y0 BK373.out)⟩, ⟨(y0 BK374.out)⟩, ⟨(y3 HB.out GE373.out GE374.out)⟩⟩
    case round =>
     clear H'
     try clear c1
     try clear p2
     try clear c6
     try clear c6b0
     try clear c6b1
     try clear c7
     try clear c10
     try clear c13
     try clear hcz11_0
     try clear hcz11_1
     try clear hcz12_0
     try clear hcz12_1
     try clear hcz8_0
     try clear hcz8_1
     try clear hcz9_0
     try clear hcz9_1
     try clear hfz11_0
     try clear hfz11_1
     try clear hfz12_0
     try clear hfz12_1
     try clear hfz8_0
     try clear hfz8_1
     try clear hfz9_0
     try clear hfz9_1
     try clear p2
     (try clear BK373); (try clear BK374)
     obtain ⟨x5_2, rfl, HA, HK2, BK373, BK374, HB⟩ := hrel
     cases gk with
     | zero => exact absurd HA.out (by simp [laws_lhVal.l0])
     | succ k2 =>
      have H := HA.out
      clear HA
      simp only [laws_lhVal.l0] at H
      by_cases c14 : x5_2 < (l0_1.length : Int)
      ·rw [if_pos c14] at H
       have c14b0 : decide (x5_2 < (l0_1.length : Int)) = true := decide_eq_true c14
       clear c14
       by_cases c15 : 0 ≤ x5_2
       ·rw [if_pos c15] at H
        have c15b0 : decide (0 ≤ x5_2) = true := decide_eq_true c15
        clear c15
        by_cases c16 : x5_2 < (l1_1.length : Int)
        ·rw [if_pos c16] at H
         have c16b0 : decide (x5_2 < (l1_1.length : Int)) = true := decide_eq_true c16
         clear c16
         obtain ⟨t377, A170, H⟩ := ob H
         have A17 := Aside0.mk A170
         clear A170
         have HZ18 := Aside0.mk H
         clear H
         have hnb19 := NB373_374.out
         have hnc19 := NB374_373.out
         have hcz20_0 := zh BK373
         have hcz20_1 := zh1 BK373
         have hfz20_0 := zfr BK373 0
         have hfz20_1 := zfr BK373 1
         try go_wp2
         replace BK373 := Aside0.mk (blk_drew BK373.out)
         replace BK374 := Aside0.mk (blk_drew BK374.out)
         replace HB := Aside0.mk (below_drew1 HB.out)
         have p375 : 0 ≤ (x5_2 : Int) := of_decide_eq_true y23
         have q375 : x5_2 < (l0_1.length : Int) := of_decide_eq_true y23
         obtain ⟨ad375, A375_1, c375_1, e375, hx375_0, hx375_1, hl375_1, hi375_1⟩ := at_T25 HR0_1.out x5_2 p375 q375
         have hw375_1 := hx375_1
         have hw375_0 := hx375_0
         cases e375
         replace hx375_0 := (HB.out.cell (World.block_lt_of_cell? w _ hx375_0)).trans hx375_0
         replace hx375_1 := (HB.out.cell (World.block_lt_of_cell? w _ hx375_1)).trans hx375_1
         have HR375_1 := Aside0.mk hi375_1
         have HC375_1 := Aside0.mk hl375_1
         clear hi375_1 hl375_1
         replace p375 := eq_true p375
         replace q375 := eq_true q375
         have p376 : 0 ≤ (x5_2 : Int) := of_decide_eq_true y23
         have q376 : x5_2 < (l1_1.length : Int) := of_decide_eq_true y23
         obtain ⟨ad376, A376_1, c376_1, e376, hx376_0, hx376_1, hl376_1, hi376_1⟩ := at_T25 HR1_1.out x5_2 p376 q376
         have hw376_1 := hx376_1
         have hw376_0 := hx376_0
         cases e376
         replace hx376_0 := (HB.out.cell (World.block_lt_of_cell? w _ hx376_0)).trans hx376_0
         replace hx376_1 := (HB.out.cell (World.block_lt_of_cell? w _ hx376_1)).trans hx376_1
         have HR376_1 := Aside0.mk hi376_1
         have HC376_1 := Aside0.mk hl376_1
         clear hi376_1 hl376_1
         replace p376 := eq_true p376
         replace q376 := eq_true q376
         refine start_ (n := 12) (S := fun w' => w'.cell? ⟨gb373, 0, none⟩ = some (.int .i64 a0_0) ∧ w'.cell? ⟨gb373, 1, none⟩ = some (.slice (some ad375) l0_1.length c0_1) ∧ w'.cell? ⟨gb374, 0, none⟩ = some (.int .i64 a1_0) ∧ w'.cell? ⟨gb374, 1, none⟩ = some (.slice (some ad376) l1_1.length c1_1) ∧ w'.cell? (ad375.add ((x5_2).toNat * 2)) = some (.int .i64 ((rd_T25 l0_1 x5_2).f0)) ∧ w'.cell? ⟨(ad375.add ((x5_2).toNat * 2)).block, (ad375.add ((x5_2).toNat * 2)).off + 1, none⟩ = some (.slice A375_1 ((rd_T25 l0_1 x5_2).f1).length c375_1) ∧ w'.cell? (ad376.add ((x5_2).toNat * 2)) = some (.int .i64 ((rd_T25 l1_1 x5_2).f0)) ∧ w'.cell? ⟨(ad376.add ((x5_2).toNat * 2)).block, (ad376.add ((x5_2).toNat * 2)).off + 1, none⟩ = some (.slice A376_1 ((rd_T25 l1_1 x5_2).f1).length c376_1)) (ds := []) #[false, false, false, false, false, false, false, false, false, false, false, false] (by kernel_rfl) rfl rfl ⟨(blk_cell BK373.out 0).trans rfl, (blk_cell BK373.out 1).trans rfl, (blk_cell BK374.out 0).trans rfl, (blk_cell BK374.out 1).trans rfl, ((HB.out.cell (World.block_lt_of_cell? w _ hw375_0)).trans hw375_0), ((HB.out.cell (World.block_lt_of_cell? w _ hw375_1)).trans hw375_1), ((HB.out.cell (World.block_lt_of_cell? w _ hw376_0)).trans hw376_0), ((HB.out.cell (World.block_lt_of_cell? w _ hw376_1)).trans hw376_1)⟩ (fun hHeld => ?_); refine with_tabW laws_lhVal.tab6 laws_lhVal.bits6 (fun HT_ HW_ => ?_)
         generalize wr.drew = w21 at BK373 BK374 HB HR375_1 HR376_1 hx375_0 hx375_1 hx376_0 hx376_1 hHeld ⊢
         refine zp 0 (some 27) HT_ ?_
         refine zp 2 (some 29) HT_ ?_
         refine zp 5 (some 32) HT_ ?_
         refine zp 7 (some 34) HT_ ?_
         refine zt8 1 (some 28) HT_ HW_ hHeld ?_
         refine zp 3 (some 30) HT_ ?_
         refine zt8 4 (some 31) HT_ HW_ hHeld ?_
         refine zt8 6 (some 33) HT_ HW_ hHeld ?_
         refine zp 8 (some 35) HT_ ?_
         refine zt8 9 (some 36) HT_ HW_ hHeld ?_
         refine one_ (i := 10) (N := some 37) #[true, true, true, true, true, true, true, true, true, true, true, false] rfl rfl (one_of HT_.out (by kernel_rfl)) (by decide) (fun K hK => ?_)
         refine goes_ Try.func15 (by kernel_rfl) rfl #[.agg #[.int .i64 ((rd_T25 l0_1 x5_2).f0), .slice A375_1 ((rd_T25 l0_1 x5_2).f1).length c375_1], .agg #[.int .i64 ((rd_T25 l1_1 x5_2).f0), .slice A376_1 ((rd_T25 l1_1 x5_2).f1).length c376_1]] (by rfl) rfl rfl y9 ?_
         with_reducible refine (ih k2 (y108 HJ2.out HK2.out) ((rd_T25 l0_1 x5_2).f0) _ _ ((rd_T25 l0_1 x5_2).f1) ((rd_T25 l1_1 x5_2).f0) _ _ ((rd_T25 l1_1 x5_2).f1) t377 _ ?side1 ?side2 ?side3 ?side4 A17.out).mono ?_
         (case side1 => exact y18 HR375_1.out HB.out)
         (case side2 => exact HC375_1.out)
         (case side3 => exact y18 HR376_1.out HB.out)
         (case side4 => exact HC376_1.out)
         rintro e w22 ⟨rfl, hb⟩
         refine ⟨_, rfl, ?_⟩
         replace BK373 := zbb BK373 hb
         replace BK374 := zbb BK374 hb
         replace HB := Aside0.mk (below_step (y3 HB.out GE373.out GE374.out) hb)
         (try clear hb)
         (try clear hb2)
         (try clear hk)
         (try clear hi)
         refine hK.out _ _ ⟨(blk_cell BK373.out 0).trans rfl, (blk_cell BK373.out 1).trans rfl, (blk_cell BK374.out 0).trans rfl, (blk_cell BK374.out 1).trans rfl, ((HB.out.cell (World.block_lt_of_cell? w _ hw375_0)).trans hw375_0), ((HB.out.cell (World.block_lt_of_cell? w _ hw375_1)).trans hw375_1), ((HB.out.cell (World.block_lt_of_cell? w _ hw376_0)).trans hw376_0), ((HB.out.cell (World.block_lt_of_cell? w _ hw376_1)).trans hw376_1)⟩ (fun hHeld => ?_)
         clear hK K
         refine norm_ (a' := ?_) ?_ ?_
         rotate_left
         ·show Act.put _ (some 37) _ = _
          simp only [Act.put, List.setIfInBounds_toArray, List.set_cons_zero, List.set_cons_succ, i64_w, i32_w]
          rfl
         refine zp 11 (some 38) HT_ ?_
         refine done_ (done_of HT_.out (by kernel_rfl)) ?_
         have H := HZ18.out
         clear HZ18
         by_cases c23 : t377 = true
         ·subst c23
          rw [if_pos rfl] at H
          have H' := Aside0.mk H
          clear H
          go_wp2
          go_roundg k2
          case measure => have := HJ2.out; have := HK2.out; omega
          case rel => exact ⟨(wrap64 (x5_2 + 1)), y29, H', ⟨(y108 HJ2.out HK2.out)⟩, ⟨(y0 BK373.out)⟩, ⟨(y0 BK374.out)⟩, ⟨(y3 HB.out GE373.out GE374.out)⟩⟩
         ·replace c23 := Bool.eq_false_iff.mpr c23
          subst c23
          rw [if_neg (show ¬ (false = true) by decide)] at H
          obtain rfl := Option.some.inj H
          go_wp2
          go_ret
          exact ⟨y15, (y3 HB.out GE373.out GE374.out)⟩
        ·rw [if_neg c16] at H
         exact absurd H (by simp)
       ·rw [if_neg c15] at H
        exact absurd H (by simp)
      ·rw [if_neg c14] at H
       have c14b0 : decide (x5_2 < (l0_1.length : Int)) = false := decide_eq_false c14
       clear c14
       obtain rfl := Option.some.inj H
       have hnb24 := NB373_374.out
       have hnc24 := NB374_373.out
       have hcz25_0 := zh BK373
       have hcz25_1 := zh1 BK373
       have hfz25_0 := zfr BK373 0
       have hfz25_1 := zfr BK373 1
       go_wp2
       go_ret
       exact ⟨y15, (y3 HB.out GE373.out GE374.out)⟩
end Go.Proofs.Ythfflieeifakdaa.PA
end
section
namespace Go.Proofs.Ythfflieeifakdaa.PA
open Go.RowKit Go.Proofs.YthfflieeifakdaaW.PrintWords Go.Proofs.YthfflieeifakdaaW.PrintLast Go.Proofs.YthfflieeifakdaaW.PrintMore
attribute [local go_sem] max2_int min2_int max_two min_two max_three min_three max_four min_four
set_option linter.unusedVariables false
set_option linter.unusedSimpArgs false
mutual
def impl_valType.j0 : Nat → Int → Bool → Int → List (S25) → Option ((List (S50)) × Bool)
 | 0, _, _, _, _ => none
 | k + 1, x1, x34, x292000, x292001 => if x34 = true then (some (([] : List (S50)), false)) else (if 0 < (x292001.length : Int) then ((impl_valType.f k ((rd_T25 x292001 0).f0) ((rd_T25 x292001 0).f1) (wrap64 (x1 - 1))).bind fun bt294 => (if 1 < (x292001.length : Int) then ((impl_valType.f k ((rd_T25 x292001 1).f0) ((rd_T25 x292001 1).f1) (wrap64 (x1 - 1))).bind fun bt300 => (if bt294.2 = true then (if bt300.2 = true then (some ((([(⟨bt294.1⟩ : S50), (⟨bt300.1⟩ : S50)] : List (S50))), true)) else (some (([] : List (S50)), false))) else (some (([] : List (S50)), false)))) else (none))) else (none))
def impl_valType.f : Nat → Int → List (S25) → Int → Option ((List (S50)) × Bool)
 | 0, _, _, _ => none
 | k + 1, a0_0, l0_1, a1 => if a1 < 1 then (some (([] : List (S50)), false)) else (if (l0_1.length : Int) = 0 then (if a0_0 ≥ 0 then (some (([] : List (S50)), decide (a0_0 ≤ 9999))) else (some (([] : List (S50)), false))) else (if (l0_1.length : Int) = 2 then (impl_valType.j0 k a1 (a0_0 != 0) a0_0 l0_1) else (impl_valType.j0 k a1 true a0_0 l0_1)))
end
theorem impl_valType.mono_l : ∀ k, (∀ y0 y1 y2, LeO (impl_valType.f k y0 y1 y2) (impl_valType.f (k + 1) y0 y1 y2)) ∧ (∀ y0 y1 y2 y3, LeO (impl_valType.j0 k y0 y1 y2 y3) (impl_valType.j0 (k + 1) y0 y1 y2 y3))
 | 0 => ⟨fun _ _ _ r h => by simp [impl_valType.f] at h, fun _ _ _ _ r h => by simp [impl_valType.j0] at h⟩
 | k + 1 => by
  obtain ⟨ih0, ih1⟩ := impl_valType.mono_l k
  refine ⟨?_, ?_⟩
  ·intro y0 y1 y2
   unfold impl_valType.f
   repeat' first
   | (with_reducible exact ih0 _ _ _)
   | (with_reducible exact ih1 _ _ _ _)
   | (with_reducible exact LeO.refl _)
   | (with_reducible exact LeO.none _)
   | (with_reducible refine LeO.ite ?_ ?_)
   | (with_reducible refine LeO.bind ?_ (fun _ => ?_))
   | exact ih0 _ _ _
   | exact ih1 _ _ _ _
   | exact LeO.none _
   | refine LeO.ite ?_ ?_
   | refine LeO.bind ?_ (fun _ => ?_)
  ·intro y0 y1 y2 y3
   unfold impl_valType.j0
   repeat' first
   | (with_reducible exact ih0 _ _ _)
   | (with_reducible exact ih1 _ _ _ _)
   | (with_reducible exact LeO.refl _)
   | (with_reducible exact LeO.none _)
   | (with_reducible refine LeO.ite ?_ ?_)
   | (with_reducible refine LeO.bind ?_ (fun _ => ?_))
   | exact ih0 _ _ _
   | exact ih1 _ _ _ _
   | exact LeO.none _
   | refine LeO.ite ?_ ?_
   | refine LeO.bind ?_ (fun _ => ?_)
theorem impl_valType.mono : ∀ a0 a1 a2 k, LeO (impl_valType.f k a0 a1 a2) (impl_valType.f (k + 1) a0 a1 a2) := by
 intro a0 a1 a2 k
 obtain ⟨ih0, ih1⟩ := impl_valType.mono_l k
 exact ih0 a0 a1 a2
def impl_valType.T4 : Bool × List (List Nat × List Nat) := (true, [([], []), ([], []), ([1], [1]), ([2], [2]), ([3], [3]), ([4], [4]), ([5, 4], [4, 5]), ([6, 4], [4, 6]), ([4, 7], [4, 7]), ([0, 4, 0], [0]), ([8, 9, 0, 1, 2, 3, 4, 5, 6, 7, 8, 9], [8])])
def impl_valType.B4 : List Nat := [0, 0, 2, 6, 14, 30, 62, 126, 254, 31, 1023]
theorem impl_valType.tab4 : rtab .any (opsOf Try.f57 4) = impl_valType.T4 := by kernel_rfl
theorem impl_valType.bits4 : waitsOk impl_valType.T4.2 impl_valType.B4 = true := by kernel_rfl
set_option maxHeartbeats 8000000 in
set_option maxRecDepth 100000 in
theorem impl_valType.calls (k : Nat) : ∀ (a0_0 : Int) (A0_1 : Option Addr) (c0_1 : Nat) (l0_1 : List (S25)) (a1 : Int) (r1 : List (S50)) (r2 : Bool) (w : World) (hr0_1 : Kd.C k25 w A0_1 l0_1.length l0_1) (hc0_1 : l0_1.length ≤ c0_1) (h : impl_valType.f k a0_0 l0_1 a1 = some (r1, r2)),
  Calls Try.prog 57 #[.agg #[.int .i64 a0_0, .slice A0_1 l0_1.length c0_1], .int .i64 a1] w fun e w' => ∃ v0_ : Value, e = .returned (.tuple #[.agg #[v0_], .bool r2]) ∧ Kd.N k50 50 w' w.heap.size (fun k_ => (w.heap.size ≤ k_)) v0_ r1 ∧ Below w.heap.size w w' := by
 induction k using Nat.strongRecOn with
 | _ k ih =>
 intro a0_0 A0_1 c0_1 l0_1 a1 r1 r2 w hr0_1 hc0_1 h
 cases k with
 | zero => exact absurd h (by simp [impl_valType.f])
 | succ k =>
 simp only [impl_valType.f] at h
 have hu25 := Try.underlying25
 have hu50 := Try.underlying50
 have HR0_1 := Aside0.mk hr0_1
 have HC0_1 := Aside0.mk hc0_1
 clear hr0_1 hc0_1
 have HB := Aside0.mk (Below.refl w.heap.size w)
 have H : (if a1 < 1 then (some (([] : List (S50)), false)) else (if (l0_1.length : Int) = 0 then (if a0_0 ≥ 0 then (some (([] : List (S50)), decide (a0_0 ≤ 9999))) else (some (([] : List (S50)), false))) else (if (l0_1.length : Int) = 2 then (impl_valType.j0 k a1 (a0_0 != 0) a0_0 l0_1) else (impl_valType.j0 k a1 true a0_0 l0_1)))) = some (r1, r2) := h
 clear h
 by_cases c3 : a1 < 1
 ·rw [if_pos c3] at H
  have c3b0 : decide (a1 < 1) = true := decide_eq_true c3
  clear c3
  simp only [Option.some.injEq, Prod.mk.injEq] at H
  obtain ⟨rfl, rfl⟩ := H
  go_enter Try.func57, Try.ntmps57
  go_wp2_with (first | ((with_reducible refine gate_dst (N := 2) rfl ?_); refine zbx 2 #[.int .i64 a0_0, .slice A0_1 l0_1.length c0_1] 25 ?_; intro gb291 hg w4 hbox hb; have BK291 := Aside0.mk hbox; have GW291 := Aside0.mk ((y10 hg HB.out : w.heap.size ≤ gb291)); have GE291 := Aside0.mk ((y10 hg HB.out : w.heap.size ≤ gb291)); replace HB := Aside0.mk (below_step (y6 HB.out) hb); clear hb hbox hg) | ((with_reducible refine gate_dst (N := 4) rfl ?_); refine zbx 4 #[.slice none 0 0] 50 ?_; intro gb292 hg w5 hbox hb; have BK292 := Aside0.mk hbox; have GW292 := Aside0.mk ((y12 hg HB.out GE291.out : w.heap.size ≤ gb292)); have GE292 := Aside0.mk ((y12 hg HB.out GE291.out : w.heap.size ≤ gb292)); replace HB := Aside0.mk (below_step (y7 HB.out GE291.out) hb); have NB291_292 := zltn hg BK291; have NB292_291 := zgtn hg BK291; replace BK291 := zbb BK291 hb; clear hb hbox hg; have hnb6 := NB292_291.out; have hnc6 := NB291_292.out; have hcz7_0 := zh BK292; have hfz7_0 := zfr BK292 0))
  refine bodyPost_ret (results_ct rfl _ _ gb292 50 #[.slice none 0 0] (0, 0) _ rfl (by (with_reducible repeat (first | refine blk_drewN ?_ _ | refine blk_drew ?_ | refine blk_alloc ?_ _)); apply blk_put (i := 0); (case h => exact y0 BK292.out); (case e => rfl)) Try.underlying50 rfl (by kernel_rfl)) rfl ?_
  exact ⟨_, y15, y38, (y3 HB.out GE291.out GE292.out)⟩
 ·rw [if_neg c3] at H
  have c3b0 : decide (a1 < 1) = false := decide_eq_false c3
  clear c3
  by_cases c8 : (l0_1.length : Int) = 0
  ·rw [if_pos c8] at H
   have c8b0 : ((l0_1.length : Int) == 0) = true := beq_iff_eq.mpr c8
   have c8b1 : ((l0_1.length : Int) != 0) = false := bne_eq_false_iff_eq.mpr c8
   clear c8
   by_cases c9 : a0_0 ≥ 0
   ·rw [if_pos c9] at H
    have c9b0 : decide (0 ≤ a0_0) = true := decide_eq_true c9
    clear c9
    simp only [Option.some.injEq, Prod.mk.injEq] at H
    obtain ⟨rfl, rfl⟩ := H
    go_enter Try.func57, Try.ntmps57
    try go_wp2_with (first | ((with_reducible refine gate_dst (N := 2) rfl ?_); refine zbx 2 #[.int .i64 a0_0, .slice A0_1 l0_1.length c0_1] 25 ?_; intro gb291 hg w10 hbox hb; have BK291 := Aside0.mk hbox; have GW291 := Aside0.mk ((y10 hg HB.out : w.heap.size ≤ gb291)); have GE291 := Aside0.mk ((y10 hg HB.out : w.heap.size ≤ gb291)); replace HB := Aside0.mk (below_step (y6 HB.out) hb); clear hb hbox hg) | ((with_reducible refine gate_dst (N := 4) rfl ?_); refine zbx 4 #[.slice none 0 0] 50 ?_; intro gb292 hg w11 hbox hb; have BK292 := Aside0.mk hbox; have GW292 := Aside0.mk ((y12 hg HB.out GE291.out : w.heap.size ≤ gb292)); have GE292 := Aside0.mk ((y12 hg HB.out GE291.out : w.heap.size ≤ gb292)); replace HB := Aside0.mk (below_step (y7 HB.out GE291.out) hb); have NB291_292 := zltn hg BK291; have NB292_291 := zgtn hg BK291; replace BK291 := zbb BK291 hb; clear hb hbox hg; have hnb12 := NB291_292.out; have hnc12 := NB292_291.out; have hcz13_0 := zh BK291; have hcz13_1 := zh1 BK291; have hfz13_0 := zfr BK291 0; have hfz13_1 := zfr BK291 1))
    replace BK291 := Aside0.mk (blk_drew BK291.out)
    replace BK292 := Aside0.mk (blk_drew BK292.out)
    replace HB := Aside0.mk (below_drew1 HB.out)
    refine start_ (n := 11) (S := fun w' => w'.cell? ⟨gb291, 0, none⟩ = some (.int .i64 a0_0) ∧ w'.cell? ⟨gb291, 1, none⟩ = some (.slice A0_1 l0_1.length c0_1)) (ds := []) #[false, false, false, false, false, false, false, false, false, false, false] (by kernel_rfl) rfl rfl ⟨(blk_cell BK291.out 0).trans rfl, (blk_cell BK291.out 1).trans rfl⟩ (fun hHeld => ?_); refine with_tabW impl_valType.tab4 impl_valType.bits4 (fun HT_ HW_ => ?_)
    generalize w11.drew = w14 at BK291 BK292 HB hHeld ⊢
    refine zp 0 (some 17) HT_ ?_
    refine zp 1 (some 18) HT_ ?_
    refine zt2 2 (some 19) HT_ HW_ hHeld ?_
    refine zp 3 (some 20) HT_ ?_
    refine zp 4 (some 21) HT_ ?_
    refine zp 5 (some 22) HT_ ?_
    refine zt2 6 (some 23) HT_ HW_ hHeld ?_
    refine zp 7 (some 24) HT_ ?_
    refine zp 8 (some 25) HT_ ?_
    refine one_ (i := 9) (N := none) #[true, true, true, true, true, true, true, true, true, true, false] rfl rfl (one_of HT_.out (by kernel_rfl)) (by decide) (fun K hK => ?_)
    have hs15 : w14.cell? ⟨gb292, 0, none⟩ = some (.slice none 0 0) := (blk_cell BK292.out 0).trans rfl
    have hfs15 := zfr BK292 0
    have hns15_0 := NB291_292.out
    have hms15_0 := NB292_291.out
    refine skip_ (w1 := ?_) (by rfl) rfl ?_ ?_
    rotate_left
    ·go_simp
     rfl
    refine hK.out _ _ ⟨((cell_far (p := ⟨gb292, _, none⟩) NB291_292.out _).trans (hHeld.1)), ((cell_far (p := ⟨gb292, _, none⟩) NB291_292.out _).trans (hHeld.2))⟩ (fun hHeld => ?_)
    clear hK K
    refine zp 10 (some 5) HT_ ?_
    refine done_ (done_of HT_.out (by kernel_rfl)) ?_
    try go_wp2
    refine bodyPost_ret (results_ct rfl _ _ gb292 50 #[.slice none 0 0] (0, 0) _ rfl (by (with_reducible repeat (first | refine blk_drewN ?_ _ | refine blk_drew ?_ | refine blk_alloc ?_ _)); apply blk_put (i := 0); (case h => exact y0 BK292.out); (case e => rfl)) Try.underlying50 rfl (by kernel_rfl)) rfl ?_
    exact ⟨_, y15, y38, (y3 HB.out GE291.out GE292.out)⟩
   ·rw [if_neg c9] at H
    have c9b0 : decide (0 ≤ a0_0) = false := decide_eq_false c9
    clear c9
    simp only [Option.some.injEq, Prod.mk.injEq] at H
    obtain ⟨rfl, rfl⟩ := H
    go_enter Try.func57, Try.ntmps57
    try go_wp2_with (first | ((with_reducible refine gate_dst (N := 2) rfl ?_); refine zbx 2 #[.int .i64 a0_0, .slice A0_1 l0_1.length c0_1] 25 ?_; intro gb291 hg w16 hbox hb; have BK291 := Aside0.mk hbox; have GW291 := Aside0.mk ((y10 hg HB.out : w.heap.size ≤ gb291)); have GE291 := Aside0.mk ((y10 hg HB.out : w.heap.size ≤ gb291)); replace HB := Aside0.mk (below_step (y6 HB.out) hb); clear hb hbox hg) | ((with_reducible refine gate_dst (N := 4) rfl ?_); refine zbx 4 #[.slice none 0 0] 50 ?_; intro gb292 hg w17 hbox hb; have BK292 := Aside0.mk hbox; have GW292 := Aside0.mk ((y12 hg HB.out GE291.out : w.heap.size ≤ gb292)); have GE292 := Aside0.mk ((y12 hg HB.out GE291.out : w.heap.size ≤ gb292)); replace HB := Aside0.mk (below_step (y7 HB.out GE291.out) hb); have NB291_292 := zltn hg BK291; have NB292_291 := zgtn hg BK291; replace BK291 := zbb BK291 hb; clear hb hbox hg; have hnb18 := NB291_292.out; have hnc18 := NB292_291.out; have hcz19_0 := zh BK291; have hcz19_1 := zh1 BK291; have hfz19_0 := zfr BK291 0; have hfz19_1 := zfr BK291 1))
    replace BK291 := Aside0.mk (blk_drew BK291.out)
    replace BK292 := Aside0.mk (blk_drew BK292.out)
    replace HB := Aside0.mk (below_drew1 HB.out)
    refine start_ (n := 11) (S := fun w' => w'.cell? ⟨gb291, 0, none⟩ = some (.int .i64 a0_0) ∧ w'.cell? ⟨gb291, 1, none⟩ = some (.slice A0_1 l0_1.length c0_1)) (ds := []) #[false, false, false, false, false, false, false, false, false, false, false] (by kernel_rfl) rfl rfl ⟨(blk_cell BK291.out 0).trans rfl, (blk_cell BK291.out 1).trans rfl⟩ (fun hHeld => ?_); refine with_tabW impl_valType.tab4 impl_valType.bits4 (fun HT_ HW_ => ?_)
    generalize w17.drew = w20 at BK291 BK292 HB hHeld ⊢
    refine zp 0 (some 17) HT_ ?_
    refine zp 1 (some 18) HT_ ?_
    refine zt2 2 (some 19) HT_ HW_ hHeld ?_
    refine zp 3 (some 20) HT_ ?_
    refine zp 4 (some 21) HT_ ?_
    refine pure_ (i := 5) (N := some 22) (v := undef) (a' := ?_) #[true, true, true, true, true, true, false, false, false, false, false] rfl rfl (any_of HT_.out (by kernel_rfl)) (fun _ _ _ h => h) (Or.inr ⟨(by rfl), rfl⟩) ?_ ?_
    rotate_left
    ·simp only [Act.put, List.setIfInBounds_toArray, List.set_cons_zero, List.set_cons_succ, i64_w, i32_w]
     rfl
    refine pure_ (i := 6) (N := some 23) (v := undef) (a' := ?_) #[true, true, true, true, true, true, true, false, false, false, false] rfl rfl (any_of HT_.out (by kernel_rfl)) (fun _ _ _ h => h) (Or.inr ⟨(by rfl), rfl⟩) ?_ ?_
    rotate_left
    ·simp only [Act.put, List.setIfInBounds_toArray, List.set_cons_zero, List.set_cons_succ, i64_w, i32_w]
     rfl
    refine pure_ (i := 7) (N := some 24) (v := undef) (a' := ?_) #[true, true, true, true, true, true, true, true, false, false, false] rfl rfl (any_of HT_.out (by kernel_rfl)) (fun _ _ _ h => h) (Or.inr ⟨(by rfl), rfl⟩) ?_ ?_
    rotate_left
    ·simp only [Act.put, List.setIfInBounds_toArray, List.set_cons_zero, List.set_cons_succ, i64_w, i32_w]
     rfl
    refine zp 8 (some 25) HT_ ?_
    refine one_ (i := 9) (N := none) #[true, true, true, true, true, true, true, true, true, true, false] rfl rfl (one_of HT_.out (by kernel_rfl)) (by decide) (fun K hK => ?_)
    have hs21 : w20.cell? ⟨gb292, 0, none⟩ = some (.slice none 0 0) := (blk_cell BK292.out 0).trans rfl
    have hfs21 := zfr BK292 0
    have hns21_0 := NB291_292.out
    have hms21_0 := NB292_291.out
    refine skip_ (w1 := ?_) (by rfl) rfl ?_ ?_
    rotate_left
    ·go_simp
     rfl
    refine hK.out _ _ ⟨((cell_far (p := ⟨gb292, _, none⟩) NB291_292.out _).trans (hHeld.1)), ((cell_far (p := ⟨gb292, _, none⟩) NB291_292.out _).trans (hHeld.2))⟩ (fun hHeld => ?_)
    clear hK K
    refine zp 10 (some 5) HT_ ?_
    refine done_ (done_of HT_.out (by kernel_rfl)) ?_
    try go_wp2
    refine bodyPost_ret (results_ct rfl _ _ gb292 50 #[.slice none 0 0] (0, 0) _ rfl (by (with_reducible repeat (first | refine blk_drewN ?_ _ | refine blk_drew ?_ | refine blk_alloc ?_ _)); apply blk_put (i := 0); (case h => exact y0 BK292.out); (case e => rfl)) Try.underlying50 rfl (by kernel_rfl)) rfl ?_
    exact ⟨_, y15, y38, (y3 HB.out GE291.out GE292.out)⟩
  ·rw [if_neg c8] at H
   have c8b0 : ((l0_1.length : Int) == 0) = false := beq_eq_false_iff_ne.mpr c8
   have c8b1 : ((l0_1.length : Int) != 0) = true := bne_iff_ne.mpr c8
   have c8b2 : ¬ (l0_1 = []) := fun h_ => c8 (by rw [h_]; rfl)
   have HC22 := Aside0.mk H
   clear H
   go_enter Try.func57, Try.ntmps57
   go_upto_region 5 with (first | ((with_reducible refine gate_dst (N := 2) rfl ?_); refine zbx 2 #[.int .i64 a0_0, .slice A0_1 l0_1.length c0_1] 25 ?_; intro gb291 hg w23 hbox hb; have BK291 := Aside0.mk hbox; have GW291 := Aside0.mk ((y10 hg HB.out : w.heap.size ≤ gb291)); have GE291 := Aside0.mk ((y10 hg HB.out : w.heap.size ≤ gb291)); replace HB := Aside0.mk (below_step (y6 HB.out) hb); clear hb hbox hg) | ((with_reducible refine gate_dst (N := 4) rfl ?_); refine zbx 4 #[.slice none 0 0] 50 ?_; intro gb292 hg w24 hbox hb; have BK292 := Aside0.mk hbox; have GW292 := Aside0.mk ((y12 hg HB.out GE291.out : w.heap.size ≤ gb292)); have GE292 := Aside0.mk ((y12 hg HB.out GE291.out : w.heap.size ≤ gb292)); replace HB := Aside0.mk (below_step (y7 HB.out GE291.out) hb); have NB291_292 := zltn hg BK291; have NB292_291 := zgtn hg BK291; replace BK291 := zbb BK291 hb; clear hb hbox hg; have hnb25 := NB291_292.out; have hnc25 := NB292_291.out; have hcz26_0 := zh BK291; have hcz26_1 := zh1 BK291; have hfz26_0 := zfr BK291 0; have hfz26_1 := zfr BK291 1))
   (try simp only [Act.put, List.setIfInBounds_toArray, List.set_cons_zero, List.set_cons_succ])
   go_cut [34] (fun v34 wc => ∃ (kq : Nat) (x34_21 : Bool), v34 = .bool x34_21 ∧ Aside0 (impl_valType.j0 kq a1 x34_21 a0_0 l0_1 = some (r1, r2)) ∧ Aside0 (kq ≤ k) ∧ Aside0 (wc.heap[gb291]? = some (.cells #[.int .i64 a0_0, (.slice A0_1 l0_1.length c0_1)] 25 (0, 0))) ∧ Aside0 (wc.heap[gb292]? = some (.cells #[(.slice none 0 0)] 50 (0, 0))) ∧ Aside0 (Below w.heap.size w wc))
   case first =>
    have H := HC22.out
    clear HC22
    by_cases c27 : (l0_1.length : Int) = 2
    ·rw [if_pos c27] at H
     have c27b0 : ((l0_1.length : Int) == 2) = true := beq_iff_eq.mpr c27
     have c27b1 : ((l0_1.length : Int) != 2) = false := bne_eq_false_iff_eq.mpr c27
     clear c27
     (first | rw [c27b0] | (simp only [i64_w, i32_w]; rw [c27b0]) | skip)
     have H' := Aside0.mk H
     clear H
     have hnb28 := NB291_292.out
     have hnc28 := NB292_291.out
     have hcz29_0 := zh BK291
     have hcz29_1 := zh1 BK291
     have hfz29_0 := zfr BK291 0
     have hfz29_1 := zfr BK291 1
     go_wp2
     go_meet
     case rel => exact ⟨_, ((a0_0 != 0)), y29, H', ⟨y50⟩, ⟨(y0 BK291.out)⟩, ⟨(y0 BK292.out)⟩, ⟨(y3 HB.out GE291.out GE292.out)⟩⟩
    ·rw [if_neg c27] at H
     have c27b0 : ((l0_1.length : Int) == 2) = false := beq_eq_false_iff_ne.mpr c27
     have c27b1 : ((l0_1.length : Int) != 2) = true := bne_iff_ne.mpr c27
     (first | rw [c27b0] | (simp only [i64_w, i32_w]; rw [c27b0]) | skip)
     have H' := Aside0.mk H
     clear H
     have hnb30 := NB291_292.out
     have hnc30 := NB292_291.out
     have hcz31_0 := zh BK291
     have hcz31_1 := zh1 BK291
     have hfz31_0 := zfr BK291 0
     have hfz31_1 := zfr BK291 1
     go_wp2
     go_meet
     case rel => exact ⟨_, (true), y29, H', ⟨y50⟩, ⟨(y0 BK291.out)⟩, ⟨(y0 BK292.out)⟩, ⟨(y3 HB.out GE291.out GE292.out)⟩⟩
   case rest =>
    clear HC22
    try clear c1
    try clear c2
    try clear p2
    try clear c3
    try clear c3b0
    try clear c5
    try clear c6
    try clear c8
    try clear c8b0
    try clear c8b1
    try clear c8b2
    try clear c9
    try clear c9b0
    try clear c12
    try clear c18
    try clear c25
    try clear c27
    try clear c27b0
    try clear c27b1
    try clear c28
    try clear c30
    try clear hcz13_0
    try clear hcz13_1
    try clear hcz19_0
    try clear hcz19_1
    try clear hcz26_0
    try clear hcz26_1
    try clear hcz29_0
    try clear hcz29_1
    try clear hcz31_0
    try clear hcz31_1
    try clear hcz7_0
    try clear hfz13_0
    try clear hfz13_1
    try clear hfz19_0
    try clear hfz19_1
    try clear hfz26_0
    try clear hfz26_1
    try clear hfz29_0
    try clear hfz29_1
    try clear hfz31_0
    try clear hfz31_1
    try clear hfz7_0
    obtain ⟨kq, x34_21, rfl, HA, HJ21, BK291, BK292, HB⟩ := hcut
    cases kq with
    | zero => exact absurd HA.out (by simp [impl_valType.j0])
    | succ kj21 =>
     have H := HA.out
     clear HA
     simp only [impl_valType.j0] at H
     by_cases c32 : x34_21 = true
     ·subst c32
      rw [if_pos rfl] at H
      simp only [Option.some.injEq, Prod.mk.injEq] at H
      obtain ⟨rfl, rfl⟩ := H
      have hnb33 := NB292_291.out
      have hnc33 := NB291_292.out
      have hcz34_0 := zh BK292
      have hfz34_0 := zfr BK292 0
      go_wp2
      refine bodyPost_ret (results_ct rfl _ _ gb292 50 #[.slice none 0 0] (0, 0) _ rfl (by (with_reducible repeat (first | refine blk_drewN ?_ _ | refine blk_drew ?_ | refine blk_alloc ?_ _)); apply blk_put (i := 0); (case h => exact y0 BK292.out); (case e => rfl)) Try.underlying50 rfl (by kernel_rfl)) rfl ?_
      exact ⟨_, y15, y38, (y3 HB.out GE291.out GE292.out)⟩
     ·replace c32 := Bool.eq_false_iff.mpr c32
      subst c32
      rw [if_neg (show ¬ (false = true) by decide)] at H
      by_cases c35 : 0 < (l0_1.length : Int)
      ·rw [if_pos c35] at H
       have c35b0 : decide (0 < (l0_1.length : Int)) = true := decide_eq_true c35
       have c35b1 : decide (0 < l0_1.length) = true := decide_eq_true (by omega)
       clear c35
       obtain ⟨⟨t294, t297⟩, A360, H⟩ := ob H
       have A36 := Aside0.mk A360
       clear A360
       by_cases c37 : 1 < (l0_1.length : Int)
       ·rw [if_pos c37] at H
        have c37b0 : decide (1 < (l0_1.length : Int)) = true := decide_eq_true c37
        have c37b1 : decide (1 < l0_1.length) = true := decide_eq_true (by omega)
        clear c37
        obtain ⟨⟨t300, t303⟩, A380, H⟩ := ob H
        have A38 := Aside0.mk A380
        clear A380
        by_cases c39 : t297 = true
        ·subst c39
         rw [if_pos rfl] at H
         by_cases c40 : t303 = true
         ·subst c40
          rw [if_pos rfl] at H
          obtain ⟨y305, hy305⟩ : ∃ y_ : List (S50), y_ = (([(⟨t294⟩ : S50), (⟨t300⟩ : S50)] : List (S50))) := ⟨_, rfl⟩
          replace H : (some (y305, true)) = some (r1, r2) := by first | (rw [hy305]; with_reducible exact H) | (have H2_ := (Option.bind_some _ _).symm.trans H; rw [hy305]; with_reducible exact H2_) | (have H2_ := (Option.bind_some _ _).symm.trans H; with_reducible exact H2_) | with_reducible exact H | (rw [hy305]; exact H) | exact H
          have Ny305 := Aside0.mk hy305
          clear hy305
          simp only [Option.some.injEq, Prod.mk.injEq] at H
          obtain ⟨rfl, rfl⟩ := H
          have hnb41 := NB291_292.out
          have hnc41 := NB292_291.out
          have hcz42_0 := zh BK291
          have hcz42_1 := zh1 BK291
          have hfz42_0 := zfr BK291 0
          have hfz42_1 := zfr BK291 1
          have p293 : 0 ≤ (0 : Int) := (by omega)
          have q293 : 0 < (l0_1.length : Int) := of_decide_eq_true y23
          obtain ⟨ad293, A293_1, c293_1, e293, hx293_0, hx293_1, hl293_1, hi293_1⟩ := at_T25 HR0_1.out 0 p293 q293
          cases e293
          have qi293 : (0 < l0_1.length) = True := eq_true (by omega)
          (try rw [show ((0 : Int)).toNat = 0 from rfl] at hx293_0)
          (try rw [show 0 * 2 = 0 from rfl] at hx293_0)
          (try rw [Addr.add_zero'] at hx293_0)
          (try rw [show ((0 : Int)).toNat = 0 from rfl] at hx293_1)
          (try rw [show 0 * 2 = 0 from rfl] at hx293_1)
          (try rw [Addr.add_zero'] at hx293_1)
          replace hx293_0 := (HB.out.cell (World.block_lt_of_cell? w _ hx293_0)).trans hx293_0
          replace hx293_1 := (HB.out.cell (World.block_lt_of_cell? w _ hx293_1)).trans hx293_1
          have HR293_1 := Aside0.mk hi293_1
          have HC293_1 := Aside0.mk hl293_1
          clear hi293_1 hl293_1
          replace p293 := eq_true p293
          replace q293 := eq_true q293
          go_wp2_with (first | ((with_reducible refine gate_callee (f := 57) rfl ?_); refine goesL_ (some 43) rfl rfl Try.func57 (by kernel_rfl) rfl #[.agg #[.int .i64 ((rd_T25 l0_1 0).f0), .slice A293_1 ((rd_T25 l0_1 0).f1).length c293_1], .int .i64 (wrap64 (a1 - 1))] rfl y9 ?_; (with_reducible refine (ih kj21 (y69 HJ21.out) ((rd_T25 l0_1 0).f0) _ _ ((rd_T25 l0_1 0).f1) (wrap64 (a1 - 1)) t294 true _ ?side1 ?side2 A36.out).mono ?_); (case side1 => exact y18 HR293_1.out HB.out); (case side2 => exact HC293_1.out); rintro e w43 ⟨v295, rfl, ho0, hb⟩; refine ⟨_, rfl, ?_⟩; have HO296 := Aside0.mk (Kd.N_lower (Kd.N_mono (ok' := fun k_ => (w.heap.size ≤ k_) ∧ k_ ≠ gb291 ∧ k_ ≠ gb292) ho0 (fun k_ hk_ => ⟨(Nat.le_trans (below_size (y3 HB.out GE291.out GE292.out)) hk_), (Kd.freshB (g := gb291) (o := .cells #[.int .i64 a0_0, .slice (some ad293) l0_1.length c0_1] 25 (0, 0)) (y0 BK291.out) k_ hk_), (Kd.freshB (g := gb292) (o := .cells #[.slice none 0 0] 50 (0, 0)) (y0 BK292.out) k_ hk_)⟩)) (below_size (y3 HB.out GE291.out GE292.out))); replace BK291 := zbb BK291 hb; replace BK292 := zbb BK292 hb; replace HB := Aside0.mk (below_step (y3 HB.out GE291.out GE292.out) hb); (try clear hb); (try clear hb2); (try clear hk); (try clear hi); (try clear ho0)) | ((with_reducible refine gate_dst (N := 6) rfl ?_); refine zbx 6 #[.slice none 0 0] 50 ?_; intro gb298 hg w44 hbox hb; replace HO296 := Aside0.mk (Kd.N_below (Kd.N_elderB (y2 HO296.out) gb298 (Nat.le_of_eq hg.symm)) hb); have BK298 := Aside0.mk hbox; have GW298 := Aside0.mk ((y16 hg HB.out GE291.out GE292.out : w.heap.size ≤ gb298)); have GE298 := Aside0.mk ((y16 hg HB.out GE291.out GE292.out : w.heap.size ≤ gb298)); replace HB := Aside0.mk (below_step (y3 HB.out GE291.out GE292.out) hb); have NB291_298 := zltn hg BK291; have NB298_291 := zgtn hg BK291; replace BK291 := zbb BK291 hb; have NB292_298 := zltn hg BK292; have NB298_292 := zgtn hg BK292; replace BK292 := zbb BK292 hb; clear hb hbox hg; obtain ⟨Ao45, co45, eo45⟩ := Kd.N_slice HO296.out; subst eo45; have hnb46 := NB298_291.out; have hnc46 := NB291_298.out; have hnb47 := NB298_292.out; have hnc47 := NB292_298.out; have hcz48_0 := zh BK298; have hfz48_0 := zfr BK298 0; have hcz49_0 := zh BK291; have hcz49_1 := zh1 BK291; have hfz49_0 := zfr BK291 0; have hfz49_1 := zfr BK291 1; have p299 : 0 ≤ (1 : Int) := (by omega); have q299 : 1 < (l0_1.length : Int) := of_decide_eq_true y23; obtain ⟨ad299, A299_1, c299_1, e299, hx299_0, hx299_1, hl299_1, hi299_1⟩ := at_T25 HR0_1.out 1 p299 q299; obtain rfl : ad293 = ad299 := (by injection e299); (try simp only [show (1 : Int).toNat = 1 from rfl, Nat.reduceMul, Nat.reduceEqDiff, Go.Addr.add, ↓reduceIte] at hx299_0); (try simp only [show (1 : Int).toNat = 1 from rfl, Nat.reduceMul, Nat.reduceEqDiff, Go.Addr.add, ↓reduceIte] at hx299_1); have qi299 : (1 < l0_1.length) = True := eq_true (by omega); (try rw [show ((1 : Int)).toNat = 1 from rfl] at hx299_0); (try rw [show 1 * 2 = 2 from rfl] at hx299_0); (try rw [show ((1 : Int)).toNat = 1 from rfl] at hx299_1); (try rw [show 1 * 2 = 2 from rfl] at hx299_1); have hn299_0 : ad293.block ≠ gb298 := Nat.ne_of_lt (Nat.lt_of_lt_of_le (by have := World.block_lt_of_cell? _ _ hx299_0; first | rwa [add_block] at this | exact this) GW298.out); replace hx299_0 := (HB.out.cell (World.block_lt_of_cell? w _ hx299_0)).trans hx299_0; replace hx299_1 := (HB.out.cell (World.block_lt_of_cell? w _ hx299_1)).trans hx299_1; have HR299_1 := Aside0.mk hi299_1; have HC299_1 := Aside0.mk hl299_1; clear hi299_1 hl299_1; replace hx299_0 := (cell_far (p := ⟨gb298, 0, none⟩) (by first | (rw [add_block]; exact hn299_0) | (show (Addr.add _ _).block ≠ _; rw [add_block]; exact hn299_0) | exact hn299_0) (.slice Ao45 t294.length co45)).trans hx299_0; replace hx299_1 := (cell_far (p := ⟨gb298, 0, none⟩) (by first | (rw [add_block]; exact hn299_0) | (show (Addr.add _ _).block ≠ _; rw [add_block]; exact hn299_0) | exact hn299_0) (.slice Ao45 t294.length co45)).trans hx299_1; clear hn299_0; replace p299 := eq_true p299; replace q299 := eq_true q299) | ((with_reducible refine gate_callee (f := 57) rfl ?_); refine goesL_ (some 53) rfl rfl Try.func57 (by kernel_rfl) rfl #[.agg #[.int .i64 ((rd_T25 l0_1 1).f0), .slice A299_1 ((rd_T25 l0_1 1).f1).length c299_1], .int .i64 (wrap64 (a1 - 1))] rfl y9 ?_; (with_reducible refine (ih kj21 (y69 HJ21.out) ((rd_T25 l0_1 1).f0) _ _ ((rd_T25 l0_1 1).f1) (wrap64 (a1 - 1)) t300 true _ ?side1 ?side2 A38.out).mono ?_); (case side1 => exact y54 HR299_1.out HB.out GE291.out GE292.out GE298.out); (case side2 => exact HC299_1.out); rintro e w50 ⟨v301, rfl, ho0, hb⟩; refine ⟨_, rfl, ?_⟩; have HO302 := Aside0.mk (Kd.N_lower (Kd.N_mono (ok' := fun k_ => (w.heap.size ≤ k_) ∧ some k_ ≠ (.slice Ao45 t294.length co45 : Value).ownBlock ∧ k_ ≠ gb291 ∧ k_ ≠ gb292 ∧ k_ ≠ gb298) ho0 (fun k_ hk_ => ⟨(Nat.le_trans (below_size (y4 HB.out GE291.out GE292.out GE298.out)) hk_), (Kd.fresh' (Kd.N_lt (by (with_reducible repeat (first | apply Kd.N_alloc | apply Kd.N_drewN | apply Kd.N_drew)); exact (Kd.N_mono (Kd.N_far (p := ⟨gb298, 0, none⟩) (Kd.N_mono HO296.out (fun k_ hk => (⟨hk, hk.2⟩ : _ ∧ k_ ≠ gb298))) (fun _ hk => hk.2) (.slice Ao45 t294.length co45)) (fun _ h_ => h_.1)))) k_ hk_), (Kd.freshB (g := gb291) (o := .cells #[.int .i64 a0_0, .slice (some ad293) l0_1.length c0_1] 25 (0, 0)) (y13 NB291_298.out BK291.out) k_ hk_), (Kd.freshB (g := gb292) (o := .cells #[.slice none 0 0] 50 (0, 0)) (y13 NB292_298.out BK292.out) k_ hk_), (Kd.freshB (g := gb298) (o := .cells #[.slice Ao45 t294.length co45] 50 (0, 0)) (by (with_reducible repeat (first | refine blk_drewN ?_ _ | refine blk_drew ?_ | refine blk_alloc ?_ _)); apply blk_put (i := 0); (case h => exact y0 BK298.out); (case e => rfl)) k_ hk_)⟩)) (below_size (y4 HB.out GE291.out GE292.out GE298.out))); replace HO296 := Aside0.mk (Kd.N_elder' (by (with_reducible repeat (first | apply Kd.N_alloc | apply Kd.N_drewN | apply Kd.N_drew)); exact (Kd.N_mono (Kd.N_far (p := ⟨gb298, 0, none⟩) (Kd.N_mono HO296.out (fun k_ hk => (⟨hk, hk.2⟩ : _ ∧ k_ ≠ gb298))) (fun _ hk => hk.2) (.slice Ao45 t294.length co45)) (fun _ h_ => h_.1))) (Kd.N_base ho0) hb); replace BK291 := zbf BK291 NB291_298 hb; replace BK292 := zbf BK292 NB292_298 hb; replace BK298 := Aside0.mk (blk_below (g := gb298) (o := .cells #[.slice Ao45 t294.length co45] 50 (0, 0)) (by (with_reducible repeat (first | refine blk_drewN ?_ _ | refine blk_drew ?_ | refine blk_alloc ?_ _)); apply blk_put (i := 0); (case h => exact y0 BK298.out); (case e => rfl)) hb); replace HB := Aside0.mk (below_step (y4 HB.out GE291.out GE292.out GE298.out) hb); (try clear hb); (try clear hb2); (try clear hk); (try clear hi); (try clear ho0)) | ((with_reducible refine gate_dst (N := 8) rfl ?_); refine zbx 8 #[.slice none 0 0] 50 ?_; intro gb304 hg w51 hbox hb; replace HO296 := Aside0.mk (Kd.N_below (Kd.N_elderB (y2 HO296.out) gb304 (Nat.le_of_eq hg.symm)) hb); replace HO302 := Aside0.mk (Kd.N_below (Kd.N_elderB (y2 HO302.out) gb304 (Nat.le_of_eq hg.symm)) hb); have BK304 := Aside0.mk hbox; have GW304 := Aside0.mk ((y20 hg HB.out GE291.out GE292.out GE298.out : w.heap.size ≤ gb304)); have GE304 := Aside0.mk ((y20 hg HB.out GE291.out GE292.out GE298.out : w.heap.size ≤ gb304)); replace HB := Aside0.mk (below_step (y4 HB.out GE291.out GE292.out GE298.out) hb); have NB291_304 := zltn hg BK291; have NB304_291 := zgtn hg BK291; replace BK291 := zbb BK291 hb; have NB292_304 := zltn hg BK292; have NB304_292 := zgtn hg BK292; replace BK292 := zbb BK292 hb; have NB298_304 := zltn hg BK298; have NB304_298 := zgtn hg BK298; replace BK298 := zbb BK298 hb; clear hb hbox hg; obtain ⟨Ao52, co52, eo52⟩ := Kd.N_slice HO302.out; subst eo52; have hnb53 := NB304_291.out; have hnc53 := NB291_304.out; have hnb54 := NB304_292.out; have hnc54 := NB292_304.out; have hnb55 := NB304_298.out; have hnc55 := NB298_304.out; have hcz56_0 := zh BK304; have hfz56_0 := zfr BK304 0) | ((with_reducible refine gate_store (t := 50) (p := 8) rfl ?_); refine store_event (t := 50) (p := 8) (v := ?vo_w57) (w1 := (w51.setCell ⟨gb304, 0, none⟩ (.slice Ao52 t300.length co52))) ?hg ?ho ?hn ?hr ?_; (case ho => rfl); (case hg => rfl); (case hn => rfl); (case hr => first | (go_simp; done) | (go_simp; rfl)); intro w57 hw; have n0_ : Aside0 (Kd.N k50 50 w57 w.heap.size (fun k_ => (w.heap.size ≤ k_) ∧ some k_ ≠ (.slice Ao52 t300.length co52 : Value).ownBlock ∧ k_ ≠ gb291 ∧ k_ ≠ gb292 ∧ k_ ≠ gb298 ∧ k_ ≠ gb304) (.slice Ao45 t294.length co45) t294) := ⟨(by rw [hw]; exact (by (with_reducible repeat (first | apply Kd.N_alloc | apply Kd.N_drewN | apply Kd.N_drew)); exact Kd.N_mono (Kd.N_far (p := ⟨gb304, 0, none⟩) (Kd.N_mono HO296.out (fun k_ hk => (⟨hk, hk.2⟩ : _ ∧ k_ ≠ gb304))) (fun _ hk => hk.2) (.slice Ao52 t300.length co52)) (fun _ hk => ⟨hk.1.1.1.1.1, ⟨hk.1.1.2, ⟨hk.1.1.1.1.2.1, ⟨hk.1.1.1.1.2.2, ⟨hk.1.1.1.2, hk.1.2⟩⟩⟩⟩⟩)))⟩; have n1_ : Aside0 (Kd.N k50 50 w57 w.heap.size (fun k_ => (w.heap.size ≤ k_) ∧ some k_ ≠ (.slice Ao45 t294.length co45 : Value).ownBlock ∧ k_ ≠ gb291 ∧ k_ ≠ gb292 ∧ k_ ≠ gb298 ∧ k_ ≠ gb304) (.slice Ao52 t300.length co52) t300) := ⟨(by rw [hw]; exact (by (with_reducible repeat (first | apply Kd.N_alloc | apply Kd.N_drewN | apply Kd.N_drew)); exact Kd.N_mono (Kd.N_far (p := ⟨gb304, 0, none⟩) (Kd.N_mono HO302.out (fun k_ hk => (⟨hk, hk.2⟩ : _ ∧ k_ ≠ gb304))) (fun _ hk => hk.2) (.slice Ao52 t300.length co52)) (fun _ hk => ⟨hk.1.1.1, ⟨hk.1.1.2.1, ⟨hk.1.1.2.2.1, ⟨hk.1.1.2.2.2.1, ⟨hk.1.1.2.2.2.2, hk.1.2⟩⟩⟩⟩⟩)))⟩; have n2_ : Aside0 (w57.heap[gb291]? = some (.cells #[.int .i64 a0_0, .slice (some ad293) l0_1.length c0_1] 25 (0, 0))) := ⟨(by rw [hw]; exact (y13 NB291_304.out BK291.out))⟩; have n3_ : Aside0 (w57.heap[gb292]? = some (.cells #[.slice none 0 0] 50 (0, 0))) := ⟨(by rw [hw]; exact (y13 NB292_304.out BK292.out))⟩; have n4_ : Aside0 (w57.heap[gb298]? = some (.cells #[.slice Ao45 t294.length co45] 50 (0, 0))) := ⟨(by rw [hw]; exact (y13 NB298_304.out BK298.out))⟩; have n5_ : Aside0 (w57.heap[gb304]? = some (.cells #[.slice Ao52 t300.length co52] 50 (0, 0))) := ⟨(by rw [hw]; exact (by (with_reducible repeat (first | refine blk_drewN ?_ _ | refine blk_drew ?_ | refine blk_alloc ?_ _)); apply blk_put (i := 0); (case h => exact y0 BK304.out); (case e => rfl)))⟩; have n6_ : Aside0 (Below w.heap.size w w57) := ⟨(by rw [hw]; exact (y5 HB.out GE291.out GE292.out GE298.out GE304.out))⟩; clear hw; clear HO296; clear HO302; clear BK291; clear BK292; clear BK298; clear BK304; clear HB; have HO296 := n0_; have HO302 := n1_; have BK291 := n2_; have BK292 := n3_; have BK298 := n4_; have BK304 := n5_; have HB := n6_; clear n0_ n1_ n2_ n3_ n4_ n5_ n6_; have hcz58_0 := zh BK298; have hfz58_0 := zfr BK298 0; have hcz59_0 := zh BK304; have hfz59_0 := zfr BK304 0) | ((with_reducible refine gate_dst (N := 65) rfl ?_); refine Kd.N_lit k50 _ 50 ?hg (N' := 65) ?hd (xs := ([(⟨t294⟩ : S50), (⟨t300⟩ : S50)] : List (S50))) (inner := [.slice Ao45 t294.length co45, .slice Ao52 t300.length co52]) (ok := (fun k_ => (w.heap.size ≤ k_) ∧ k_ ≠ gb291 ∧ k_ ≠ gb292 ∧ k_ ≠ gb298 ∧ k_ ≠ gb304)) (okp := (fun k_ => (w.heap.size ≤ k_) ∧ k_ ≠ gb291 ∧ k_ ≠ gb292 ∧ k_ ≠ gb298 ∧ k_ ≠ gb304)) ?hr ?hp (fun _ hk => hk) ((show ∀ k_, w57.heap.size ≤ k_ → (fun k_ => (w.heap.size ≤ k_) ∧ k_ ≠ gb291 ∧ k_ ≠ gb292 ∧ k_ ≠ gb298 ∧ k_ ≠ gb304) k_ from fun k_ hk => ⟨(Nat.le_trans (below_size (y5 HB.out GE291.out GE292.out GE298.out GE304.out)) hk), Kd.freshB (g := gb291) (o := .cells #[.int .i64 a0_0, .slice (some ad293) l0_1.length c0_1] 25 (0, 0)) (y0 BK291.out) k_ hk, Kd.freshB (g := gb292) (o := .cells #[.slice none 0 0] 50 (0, 0)) (y0 BK292.out) k_ hk, Kd.freshB (g := gb298) (o := .cells #[.slice Ao45 t294.length co45] 50 (0, 0)) (y0 BK298.out) k_ hk, Kd.freshB (g := gb304) (o := .cells #[.slice Ao52 t300.length co52] 50 (0, 0)) (y0 BK304.out) k_ hk⟩) _ (Nat.le_refl _)) (Below.refl _ _) (Nat.le_refl _) (by simp) ?_; (case hd => rfl); (case hg => rfl); (case hr => first | (go_simp; done) | (go_simp; rfl)); (case hp => exact (Reps.one (show Kd.FK k50 _ _ (⟨t294⟩ : S50) [.slice Ao45 t294.length co45] from (k50_mkF _ _ (⟨t294⟩ : S50) (Kd.N_reads' (Kd.N_mono (ok' := (fun k_ => (w.heap.size ≤ k_) ∧ k_ ≠ gb291 ∧ k_ ≠ gb292 ∧ k_ ≠ gb298 ∧ k_ ≠ gb304)) (HO296.out) (fun k_ hk => ⟨hk.1, ⟨hk.2.2.1, ⟨hk.2.2.2.1, ⟨hk.2.2.2.2.1, hk.2.2.2.2.2⟩⟩⟩⟩))).2.1 (Kd.N_F (Kd.N_mono (ok' := (fun k_ => (w.heap.size ≤ k_) ∧ k_ ≠ gb291 ∧ k_ ≠ gb292 ∧ k_ ≠ gb298 ∧ k_ ≠ gb304)) (HO296.out) (fun k_ hk => ⟨hk.1, ⟨hk.2.2.1, ⟨hk.2.2.2.1, ⟨hk.2.2.2.2.1, hk.2.2.2.2.2⟩⟩⟩⟩))))) (Reps.one (show Kd.FK k50 _ _ (⟨t300⟩ : S50) [.slice Ao52 t300.length co52] from (k50_mkF _ _ (⟨t300⟩ : S50) (Kd.N_reads' (Kd.N_mono (ok' := (fun k_ => (w.heap.size ≤ k_) ∧ k_ ≠ gb291 ∧ k_ ≠ gb292 ∧ k_ ≠ gb298 ∧ k_ ≠ gb304)) (HO302.out) (fun k_ hk => ⟨hk.1, ⟨hk.2.2.1, ⟨hk.2.2.2.1, ⟨hk.2.2.2.2.1, hk.2.2.2.2.2⟩⟩⟩⟩))).2.1 (Kd.N_F (Kd.N_mono (ok' := (fun k_ => (w.heap.size ≤ k_) ∧ k_ ≠ gb291 ∧ k_ ≠ gb292 ∧ k_ ≠ gb298 ∧ k_ ≠ gb304)) (HO302.out) (fun k_ hk => ⟨hk.1, ⟨hk.2.2.1, ⟨hk.2.2.2.1, ⟨hk.2.2.2.2.1, hk.2.2.2.2.2⟩⟩⟩⟩))))) (Reps.none _ _)))); intro v306 w60 ho61 hb hg_ hnew_; clear hg_ hnew_; (first | rw [← Ny305.out] at ho61 | (simp only [Int.reduceToNat] at ho61; rw [← Ny305.out] at ho61)); have HO307 := Aside0.mk (Kd.N_lower ho61 (below_size (y5 HB.out GE291.out GE292.out GE298.out GE304.out))); replace BK291 := zbb BK291 hb; replace BK292 := zbb BK292 hb; replace BK298 := zbb BK298 hb; replace BK304 := zbb BK304 hb; replace HB := Aside0.mk (below_step (y5 HB.out GE291.out GE292.out GE298.out GE304.out) hb); clear HO296 HO302; clear hb ho61; obtain ⟨Ao62, co62, eo62⟩ := Kd.N_slice HO307.out; subst eo62; have hcz63_0 := zh BK292; have hfz63_0 := zfr BK292 0))
          refine bodyPost_ret (results_ct rfl _ _ gb292 50 #[.slice Ao62 y305.length co62] (0, 0) _ rfl (by (with_reducible repeat (first | refine blk_drewN ?_ _ | refine blk_drew ?_ | refine blk_alloc ?_ _)); apply blk_put (i := 0); (case h => exact y0 BK292.out); (case e => rfl)) Try.underlying50 rfl (by kernel_rfl)) rfl ?_
          exact ⟨_, y15, (by (with_reducible repeat (first | apply Kd.N_alloc | apply Kd.N_drewN | apply Kd.N_drew)); exact Kd.N_mono (Kd.N_far (p := ⟨gb292, 0, none⟩) (Kd.N_mono HO307.out (fun k_ hk => (⟨hk, hk.2.2.1⟩ : _ ∧ k_ ≠ gb292))) (fun _ hk => hk.2) (.slice Ao62 y305.length co62)) (fun _ hk => hk.1.1)), (y5 HB.out GE291.out GE292.out GE298.out GE304.out)⟩
         ·replace c40 := Bool.eq_false_iff.mpr c40
          subst c40
          rw [if_neg (show ¬ (false = true) by decide)] at H
          simp only [Option.some.injEq, Prod.mk.injEq] at H
          obtain ⟨rfl, rfl⟩ := H
          have hnb64 := NB291_292.out
          have hnc64 := NB292_291.out
          have hcz65_0 := zh BK291
          have hcz65_1 := zh1 BK291
          have hfz65_0 := zfr BK291 0
          have hfz65_1 := zfr BK291 1
          have p293 : 0 ≤ (0 : Int) := (by omega)
          have q293 : 0 < (l0_1.length : Int) := of_decide_eq_true y23
          obtain ⟨ad293, A293_1, c293_1, e293, hx293_0, hx293_1, hl293_1, hi293_1⟩ := at_T25 HR0_1.out 0 p293 q293
          cases e293
          have qi293 : (0 < l0_1.length) = True := eq_true (by omega)
          (try rw [show ((0 : Int)).toNat = 0 from rfl] at hx293_0)
          (try rw [show 0 * 2 = 0 from rfl] at hx293_0)
          (try rw [Addr.add_zero'] at hx293_0)
          (try rw [show ((0 : Int)).toNat = 0 from rfl] at hx293_1)
          (try rw [show 0 * 2 = 0 from rfl] at hx293_1)
          (try rw [Addr.add_zero'] at hx293_1)
          replace hx293_0 := (HB.out.cell (World.block_lt_of_cell? w _ hx293_0)).trans hx293_0
          replace hx293_1 := (HB.out.cell (World.block_lt_of_cell? w _ hx293_1)).trans hx293_1
          have HR293_1 := Aside0.mk hi293_1
          have HC293_1 := Aside0.mk hl293_1
          clear hi293_1 hl293_1
          replace p293 := eq_true p293
          replace q293 := eq_true q293
          go_wp2_with (first | ((with_reducible refine gate_callee (f := 57) rfl ?_); refine goesL_ (some 43) rfl rfl Try.func57 (by kernel_rfl) rfl #[.agg #[.int .i64 ((rd_T25 l0_1 0).f0), .slice A293_1 ((rd_T25 l0_1 0).f1).length c293_1], .int .i64 (wrap64 (a1 - 1))] rfl y9 ?_; (with_reducible refine (ih kj21 (y69 HJ21.out) ((rd_T25 l0_1 0).f0) _ _ ((rd_T25 l0_1 0).f1) (wrap64 (a1 - 1)) t294 true _ ?side1 ?side2 A36.out).mono ?_); (case side1 => exact y18 HR293_1.out HB.out); (case side2 => exact HC293_1.out); rintro e w66 ⟨v295, rfl, ho0, hb⟩; refine ⟨_, rfl, ?_⟩; have HO296 := Aside0.mk (Kd.N_lower (Kd.N_mono (ok' := fun k_ => (w.heap.size ≤ k_) ∧ k_ ≠ gb291 ∧ k_ ≠ gb292) ho0 (fun k_ hk_ => ⟨(Nat.le_trans (below_size (y3 HB.out GE291.out GE292.out)) hk_), (Kd.freshB (g := gb291) (o := .cells #[.int .i64 a0_0, .slice (some ad293) l0_1.length c0_1] 25 (0, 0)) (y0 BK291.out) k_ hk_), (Kd.freshB (g := gb292) (o := .cells #[.slice none 0 0] 50 (0, 0)) (y0 BK292.out) k_ hk_)⟩)) (below_size (y3 HB.out GE291.out GE292.out))); replace BK291 := zbb BK291 hb; replace BK292 := zbb BK292 hb; replace HB := Aside0.mk (below_step (y3 HB.out GE291.out GE292.out) hb); (try clear hb); (try clear hb2); (try clear hk); (try clear hi); (try clear ho0)) | ((with_reducible refine gate_dst (N := 6) rfl ?_); refine zbx 6 #[.slice none 0 0] 50 ?_; intro gb298 hg w67 hbox hb; replace HO296 := Aside0.mk (Kd.N_below (Kd.N_elderB (y2 HO296.out) gb298 (Nat.le_of_eq hg.symm)) hb); have BK298 := Aside0.mk hbox; have GW298 := Aside0.mk ((y16 hg HB.out GE291.out GE292.out : w.heap.size ≤ gb298)); have GE298 := Aside0.mk ((y16 hg HB.out GE291.out GE292.out : w.heap.size ≤ gb298)); replace HB := Aside0.mk (below_step (y3 HB.out GE291.out GE292.out) hb); have NB291_298 := zltn hg BK291; have NB298_291 := zgtn hg BK291; replace BK291 := zbb BK291 hb; have NB292_298 := zltn hg BK292; have NB298_292 := zgtn hg BK292; replace BK292 := zbb BK292 hb; clear hb hbox hg; obtain ⟨Ao68, co68, eo68⟩ := Kd.N_slice HO296.out; subst eo68; have hnb69 := NB298_291.out; have hnc69 := NB291_298.out; have hnb70 := NB298_292.out; have hnc70 := NB292_298.out; have hcz71_0 := zh BK298; have hfz71_0 := zfr BK298 0; have hcz72_0 := zh BK291; have hcz72_1 := zh1 BK291; have hfz72_0 := zfr BK291 0; have hfz72_1 := zfr BK291 1; have p299 : 0 ≤ (1 : Int) := (by omega); have q299 : 1 < (l0_1.length : Int) := of_decide_eq_true y23; obtain ⟨ad299, A299_1, c299_1, e299, hx299_0, hx299_1, hl299_1, hi299_1⟩ := at_T25 HR0_1.out 1 p299 q299; obtain rfl : ad293 = ad299 := (by injection e299); (try simp only [show (1 : Int).toNat = 1 from rfl, Nat.reduceMul, Nat.reduceEqDiff, Go.Addr.add, ↓reduceIte] at hx299_0); (try simp only [show (1 : Int).toNat = 1 from rfl, Nat.reduceMul, Nat.reduceEqDiff, Go.Addr.add, ↓reduceIte] at hx299_1); have qi299 : (1 < l0_1.length) = True := eq_true (by omega); (try rw [show ((1 : Int)).toNat = 1 from rfl] at hx299_0); (try rw [show 1 * 2 = 2 from rfl] at hx299_0); (try rw [show ((1 : Int)).toNat = 1 from rfl] at hx299_1); (try rw [show 1 * 2 = 2 from rfl] at hx299_1); have hn299_0 : ad293.block ≠ gb298 := Nat.ne_of_lt (Nat.lt_of_lt_of_le (by have := World.block_lt_of_cell? _ _ hx299_0; first | rwa [add_block] at this | exact this) GW298.out); replace hx299_0 := (HB.out.cell (World.block_lt_of_cell? w _ hx299_0)).trans hx299_0; replace hx299_1 := (HB.out.cell (World.block_lt_of_cell? w _ hx299_1)).trans hx299_1; have HR299_1 := Aside0.mk hi299_1; have HC299_1 := Aside0.mk hl299_1; clear hi299_1 hl299_1; replace hx299_0 := (cell_far (p := ⟨gb298, 0, none⟩) (by first | (rw [add_block]; exact hn299_0) | (show (Addr.add _ _).block ≠ _; rw [add_block]; exact hn299_0) | exact hn299_0) (.slice Ao68 t294.length co68)).trans hx299_0; replace hx299_1 := (cell_far (p := ⟨gb298, 0, none⟩) (by first | (rw [add_block]; exact hn299_0) | (show (Addr.add _ _).block ≠ _; rw [add_block]; exact hn299_0) | exact hn299_0) (.slice Ao68 t294.length co68)).trans hx299_1; clear hn299_0; replace p299 := eq_true p299; replace q299 := eq_true q299) | ((with_reducible refine gate_callee (f := 57) rfl ?_); refine goesL_ (some 53) rfl rfl Try.func57 (by kernel_rfl) rfl #[.agg #[.int .i64 ((rd_T25 l0_1 1).f0), .slice A299_1 ((rd_T25 l0_1 1).f1).length c299_1], .int .i64 (wrap64 (a1 - 1))] rfl y9 ?_; (with_reducible refine (ih kj21 (y69 HJ21.out) ((rd_T25 l0_1 1).f0) _ _ ((rd_T25 l0_1 1).f1) (wrap64 (a1 - 1)) t300 false _ ?side1 ?side2 A38.out).mono ?_); (case side1 => exact y54 HR299_1.out HB.out GE291.out GE292.out GE298.out); (case side2 => exact HC299_1.out); rintro e w73 ⟨v301, rfl, ho0, hb⟩; refine ⟨_, rfl, ?_⟩; have HO302 := Aside0.mk (Kd.N_lower (Kd.N_mono (ok' := fun k_ => (w.heap.size ≤ k_) ∧ some k_ ≠ (.slice Ao68 t294.length co68 : Value).ownBlock ∧ k_ ≠ gb291 ∧ k_ ≠ gb292 ∧ k_ ≠ gb298) ho0 (fun k_ hk_ => ⟨(Nat.le_trans (below_size (y4 HB.out GE291.out GE292.out GE298.out)) hk_), (Kd.fresh' (Kd.N_lt (by (with_reducible repeat (first | apply Kd.N_alloc | apply Kd.N_drewN | apply Kd.N_drew)); exact (Kd.N_mono (Kd.N_far (p := ⟨gb298, 0, none⟩) (Kd.N_mono HO296.out (fun k_ hk => (⟨hk, hk.2⟩ : _ ∧ k_ ≠ gb298))) (fun _ hk => hk.2) (.slice Ao68 t294.length co68)) (fun _ h_ => h_.1)))) k_ hk_), (Kd.freshB (g := gb291) (o := .cells #[.int .i64 a0_0, .slice (some ad293) l0_1.length c0_1] 25 (0, 0)) (y13 NB291_298.out BK291.out) k_ hk_), (Kd.freshB (g := gb292) (o := .cells #[.slice none 0 0] 50 (0, 0)) (y13 NB292_298.out BK292.out) k_ hk_), (Kd.freshB (g := gb298) (o := .cells #[.slice Ao68 t294.length co68] 50 (0, 0)) (by (with_reducible repeat (first | refine blk_drewN ?_ _ | refine blk_drew ?_ | refine blk_alloc ?_ _)); apply blk_put (i := 0); (case h => exact y0 BK298.out); (case e => rfl)) k_ hk_)⟩)) (below_size (y4 HB.out GE291.out GE292.out GE298.out))); replace HO296 := Aside0.mk (Kd.N_elder' (by (with_reducible repeat (first | apply Kd.N_alloc | apply Kd.N_drewN | apply Kd.N_drew)); exact (Kd.N_mono (Kd.N_far (p := ⟨gb298, 0, none⟩) (Kd.N_mono HO296.out (fun k_ hk => (⟨hk, hk.2⟩ : _ ∧ k_ ≠ gb298))) (fun _ hk => hk.2) (.slice Ao68 t294.length co68)) (fun _ h_ => h_.1))) (Kd.N_base ho0) hb); replace BK291 := zbf BK291 NB291_298 hb; replace BK292 := zbf BK292 NB292_298 hb; replace BK298 := Aside0.mk (blk_below (g := gb298) (o := .cells #[.slice Ao68 t294.length co68] 50 (0, 0)) (by (with_reducible repeat (first | refine blk_drewN ?_ _ | refine blk_drew ?_ | refine blk_alloc ?_ _)); apply blk_put (i := 0); (case h => exact y0 BK298.out); (case e => rfl)) hb); replace HB := Aside0.mk (below_step (y4 HB.out GE291.out GE292.out GE298.out) hb); (try clear hb); (try clear hb2); (try clear hk); (try clear hi); (try clear ho0)) | ((with_reducible refine gate_dst (N := 8) rfl ?_); refine zbx 8 #[.slice none 0 0] 50 ?_; intro gb304 hg w74 hbox hb; replace HO296 := Aside0.mk (Kd.N_below (Kd.N_elderB (y2 HO296.out) gb304 (Nat.le_of_eq hg.symm)) hb); replace HO302 := Aside0.mk (Kd.N_below (Kd.N_elderB (y2 HO302.out) gb304 (Nat.le_of_eq hg.symm)) hb); have BK304 := Aside0.mk hbox; have GW304 := Aside0.mk ((y20 hg HB.out GE291.out GE292.out GE298.out : w.heap.size ≤ gb304)); have GE304 := Aside0.mk ((y20 hg HB.out GE291.out GE292.out GE298.out : w.heap.size ≤ gb304)); replace HB := Aside0.mk (below_step (y4 HB.out GE291.out GE292.out GE298.out) hb); have NB291_304 := zltn hg BK291; have NB304_291 := zgtn hg BK291; replace BK291 := zbb BK291 hb; have NB292_304 := zltn hg BK292; have NB304_292 := zgtn hg BK292; replace BK292 := zbb BK292 hb; have NB298_304 := zltn hg BK298; have NB304_298 := zgtn hg BK298; replace BK298 := zbb BK298 hb; clear hb hbox hg; obtain ⟨Ao75, co75, eo75⟩ := Kd.N_slice HO302.out; subst eo75; have hnb76 := NB304_291.out; have hnc76 := NB291_304.out; have hnb77 := NB304_292.out; have hnc77 := NB292_304.out; have hnb78 := NB304_298.out; have hnc78 := NB298_304.out; have hcz79_0 := zh BK304; have hfz79_0 := zfr BK304 0; have hcz80_0 := zh BK292; have hfz80_0 := zfr BK292 0))
          refine bodyPost_ret (results_ct rfl _ _ gb292 50 #[.slice none 0 0] (0, 0) _ rfl (by (with_reducible repeat (first | refine blk_drewN ?_ _ | refine blk_drew ?_ | refine blk_alloc ?_ _)); refine blk_put (cs := #[.slice none 0 0]) ?_ 0 _ rfl; (with_reducible repeat (first | refine blk_drewN ?_ _ | refine blk_drew ?_ | refine blk_alloc ?_ _)); refine blk_far ?_ NB292_304.out _; (with_reducible repeat (first | refine blk_drewN ?_ _ | refine blk_drew ?_ | refine blk_alloc ?_ _)); exact BK292.out) Try.underlying50 rfl (by kernel_rfl)) rfl ?_
          exact ⟨_, y15, y38, (y5 HB.out GE291.out GE292.out GE298.out GE304.out)⟩
        ·replace c39 := Bool.eq_false_iff.mpr c39
         subst c39
         rw [if_neg (show ¬ (false = true) by decide)] at H
         simp only [Option.some.injEq, Prod.mk.injEq] at H
         obtain ⟨rfl, rfl⟩ := H
         have hnb81 := NB291_292.out
         have hnc81 := NB292_291.out
         have hcz82_0 := zh BK291
         have hcz82_1 := zh1 BK291
         have hfz82_0 := zfr BK291 0
         have hfz82_1 := zfr BK291 1
         have p293 : 0 ≤ (0 : Int) := (by omega)
         have q293 : 0 < (l0_1.length : Int) := of_decide_eq_true y23
         obtain ⟨ad293, A293_1, c293_1, e293, hx293_0, hx293_1, hl293_1, hi293_1⟩ := at_T25 HR0_1.out 0 p293 q293
         cases e293
         have qi293 : (0 < l0_1.length) = True := eq_true (by omega)
         (try rw [show ((0 : Int)).toNat = 0 from rfl] at hx293_0)
         (try rw [show 0 * 2 = 0 from rfl] at hx293_0)
         (try rw [Addr.add_zero'] at hx293_0)
         (try rw [show ((0 : Int)).toNat = 0 from rfl] at hx293_1)
         (try rw [show 0 * 2 = 0 from rfl] at hx293_1)
         (try rw [Addr.add_zero'] at hx293_1)
         replace hx293_0 := (HB.out.cell (World.block_lt_of_cell? w _ hx293_0)).trans hx293_0
         replace hx293_1 := (HB.out.cell (World.block_lt_of_cell? w _ hx293_1)).trans hx293_1
         have HR293_1 := Aside0.mk hi293_1
         have HC293_1 := Aside0.mk hl293_1
         clear hi293_1 hl293_1
         replace p293 := eq_true p293
         replace q293 := eq_true q293
         go_wp2_with (first | ((with_reducible refine gate_callee (f := 57) rfl ?_); refine goesL_ (some 43) rfl rfl Try.func57 (by kernel_rfl) rfl #[.agg #[.int .i64 ((rd_T25 l0_1 0).f0), .slice A293_1 ((rd_T25 l0_1 0).f1).length c293_1], .int .i64 (wrap64 (a1 - 1))] rfl y9 ?_; (with_reducible refine (ih kj21 (y69 HJ21.out) ((rd_T25 l0_1 0).f0) _ _ ((rd_T25 l0_1 0).f1) (wrap64 (a1 - 1)) t294 false _ ?side1 ?side2 A36.out).mono ?_); (case side1 => exact y18 HR293_1.out HB.out); (case side2 => exact HC293_1.out); rintro e w83 ⟨v295, rfl, ho0, hb⟩; refine ⟨_, rfl, ?_⟩; have HO296 := Aside0.mk (Kd.N_lower (Kd.N_mono (ok' := fun k_ => (w.heap.size ≤ k_) ∧ k_ ≠ gb291 ∧ k_ ≠ gb292) ho0 (fun k_ hk_ => ⟨(Nat.le_trans (below_size (y3 HB.out GE291.out GE292.out)) hk_), (Kd.freshB (g := gb291) (o := .cells #[.int .i64 a0_0, .slice (some ad293) l0_1.length c0_1] 25 (0, 0)) (y0 BK291.out) k_ hk_), (Kd.freshB (g := gb292) (o := .cells #[.slice none 0 0] 50 (0, 0)) (y0 BK292.out) k_ hk_)⟩)) (below_size (y3 HB.out GE291.out GE292.out))); replace BK291 := zbb BK291 hb; replace BK292 := zbb BK292 hb; replace HB := Aside0.mk (below_step (y3 HB.out GE291.out GE292.out) hb); (try clear hb); (try clear hb2); (try clear hk); (try clear hi); (try clear ho0)) | ((with_reducible refine gate_dst (N := 6) rfl ?_); refine zbx 6 #[.slice none 0 0] 50 ?_; intro gb298 hg w84 hbox hb; replace HO296 := Aside0.mk (Kd.N_below (Kd.N_elderB (y2 HO296.out) gb298 (Nat.le_of_eq hg.symm)) hb); have BK298 := Aside0.mk hbox; have GW298 := Aside0.mk ((y16 hg HB.out GE291.out GE292.out : w.heap.size ≤ gb298)); have GE298 := Aside0.mk ((y16 hg HB.out GE291.out GE292.out : w.heap.size ≤ gb298)); replace HB := Aside0.mk (below_step (y3 HB.out GE291.out GE292.out) hb); have NB291_298 := zltn hg BK291; have NB298_291 := zgtn hg BK291; replace BK291 := zbb BK291 hb; have NB292_298 := zltn hg BK292; have NB298_292 := zgtn hg BK292; replace BK292 := zbb BK292 hb; clear hb hbox hg; obtain ⟨Ao85, co85, eo85⟩ := Kd.N_slice HO296.out; subst eo85; have hnb86 := NB298_291.out; have hnc86 := NB291_298.out; have hnb87 := NB298_292.out; have hnc87 := NB292_298.out; have hcz88_0 := zh BK298; have hfz88_0 := zfr BK298 0; have hcz89_0 := zh BK291; have hcz89_1 := zh1 BK291; have hfz89_0 := zfr BK291 0; have hfz89_1 := zfr BK291 1; have p299 : 0 ≤ (1 : Int) := (by omega); have q299 : 1 < (l0_1.length : Int) := of_decide_eq_true y23; obtain ⟨ad299, A299_1, c299_1, e299, hx299_0, hx299_1, hl299_1, hi299_1⟩ := at_T25 HR0_1.out 1 p299 q299; obtain rfl : ad293 = ad299 := (by injection e299); (try simp only [show (1 : Int).toNat = 1 from rfl, Nat.reduceMul, Nat.reduceEqDiff, Go.Addr.add, ↓reduceIte] at hx299_0); (try simp only [show (1 : Int).toNat = 1 from rfl, Nat.reduceMul, Nat.reduceEqDiff, Go.Addr.add, ↓reduceIte] at hx299_1); have qi299 : (1 < l0_1.length) = True := eq_true (by omega); (try rw [show ((1 : Int)).toNat = 1 from rfl] at hx299_0); (try rw [show 1 * 2 = 2 from rfl] at hx299_0); (try rw [show ((1 : Int)).toNat = 1 from rfl] at hx299_1); (try rw [show 1 * 2 = 2 from rfl] at hx299_1); have hn299_0 : ad293.block ≠ gb298 := Nat.ne_of_lt (Nat.lt_of_lt_of_le (by have := World.block_lt_of_cell? _ _ hx299_0; first | rwa [add_block] at this | exact this) GW298.out); replace hx299_0 := (HB.out.cell (World.block_lt_of_cell? w _ hx299_0)).trans hx299_0; replace hx299_1 := (HB.out.cell (World.block_lt_of_cell? w _ hx299_1)).trans hx299_1; have HR299_1 := Aside0.mk hi299_1; have HC299_1 := Aside0.mk hl299_1; clear hi299_1 hl299_1; replace hx299_0 := (cell_far (p := ⟨gb298, 0, none⟩) (by first | (rw [add_block]; exact hn299_0) | (show (Addr.add _ _).block ≠ _; rw [add_block]; exact hn299_0) | exact hn299_0) (.slice Ao85 t294.length co85)).trans hx299_0; replace hx299_1 := (cell_far (p := ⟨gb298, 0, none⟩) (by first | (rw [add_block]; exact hn299_0) | (show (Addr.add _ _).block ≠ _; rw [add_block]; exact hn299_0) | exact hn299_0) (.slice Ao85 t294.length co85)).trans hx299_1; clear hn299_0; replace p299 := eq_true p299; replace q299 := eq_true q299) | ((with_reducible refine gate_callee (f := 57) rfl ?_); refine goesL_ (some 53) rfl rfl Try.func57 (by kernel_rfl) rfl #[.agg #[.int .i64 ((rd_T25 l0_1 1).f0), .slice A299_1 ((rd_T25 l0_1 1).f1).length c299_1], .int .i64 (wrap64 (a1 - 1))] rfl y9 ?_; (with_reducible refine (ih kj21 (y69 HJ21.out) ((rd_T25 l0_1 1).f0) _ _ ((rd_T25 l0_1 1).f1) (wrap64 (a1 - 1)) t300 t303 _ ?side1 ?side2 A38.out).mono ?_); (case side1 => exact y54 HR299_1.out HB.out GE291.out GE292.out GE298.out); (case side2 => exact HC299_1.out); rintro e w90 ⟨v301, rfl, ho0, hb⟩; refine ⟨_, rfl, ?_⟩; have HO302 := Aside0.mk (Kd.N_lower (Kd.N_mono (ok' := fun k_ => (w.heap.size ≤ k_) ∧ some k_ ≠ (.slice Ao85 t294.length co85 : Value).ownBlock ∧ k_ ≠ gb291 ∧ k_ ≠ gb292 ∧ k_ ≠ gb298) ho0 (fun k_ hk_ => ⟨(Nat.le_trans (below_size (y4 HB.out GE291.out GE292.out GE298.out)) hk_), (Kd.fresh' (Kd.N_lt (by (with_reducible repeat (first | apply Kd.N_alloc | apply Kd.N_drewN | apply Kd.N_drew)); exact (Kd.N_mono (Kd.N_far (p := ⟨gb298, 0, none⟩) (Kd.N_mono HO296.out (fun k_ hk => (⟨hk, hk.2⟩ : _ ∧ k_ ≠ gb298))) (fun _ hk => hk.2) (.slice Ao85 t294.length co85)) (fun _ h_ => h_.1)))) k_ hk_), (Kd.freshB (g := gb291) (o := .cells #[.int .i64 a0_0, .slice (some ad293) l0_1.length c0_1] 25 (0, 0)) (y13 NB291_298.out BK291.out) k_ hk_), (Kd.freshB (g := gb292) (o := .cells #[.slice none 0 0] 50 (0, 0)) (y13 NB292_298.out BK292.out) k_ hk_), (Kd.freshB (g := gb298) (o := .cells #[.slice Ao85 t294.length co85] 50 (0, 0)) (by (with_reducible repeat (first | refine blk_drewN ?_ _ | refine blk_drew ?_ | refine blk_alloc ?_ _)); apply blk_put (i := 0); (case h => exact y0 BK298.out); (case e => rfl)) k_ hk_)⟩)) (below_size (y4 HB.out GE291.out GE292.out GE298.out))); replace HO296 := Aside0.mk (Kd.N_elder' (by (with_reducible repeat (first | apply Kd.N_alloc | apply Kd.N_drewN | apply Kd.N_drew)); exact (Kd.N_mono (Kd.N_far (p := ⟨gb298, 0, none⟩) (Kd.N_mono HO296.out (fun k_ hk => (⟨hk, hk.2⟩ : _ ∧ k_ ≠ gb298))) (fun _ hk => hk.2) (.slice Ao85 t294.length co85)) (fun _ h_ => h_.1))) (Kd.N_base ho0) hb); replace BK291 := zbf BK291 NB291_298 hb; replace BK292 := zbf BK292 NB292_298 hb; replace BK298 := Aside0.mk (blk_below (g := gb298) (o := .cells #[.slice Ao85 t294.length co85] 50 (0, 0)) (by (with_reducible repeat (first | refine blk_drewN ?_ _ | refine blk_drew ?_ | refine blk_alloc ?_ _)); apply blk_put (i := 0); (case h => exact y0 BK298.out); (case e => rfl)) hb); replace HB := Aside0.mk (below_step (y4 HB.out GE291.out GE292.out GE298.out) hb); (try clear hb); (try clear hb2); (try clear hk); (try clear hi); (try clear ho0)) | ((with_reducible refine gate_dst (N := 8) rfl ?_); refine zbx 8 #[.slice none 0 0] 50 ?_; intro gb304 hg w91 hbox hb; replace HO296 := Aside0.mk (Kd.N_below (Kd.N_elderB (y2 HO296.out) gb304 (Nat.le_of_eq hg.symm)) hb); replace HO302 := Aside0.mk (Kd.N_below (Kd.N_elderB (y2 HO302.out) gb304 (Nat.le_of_eq hg.symm)) hb); have BK304 := Aside0.mk hbox; have GW304 := Aside0.mk ((y20 hg HB.out GE291.out GE292.out GE298.out : w.heap.size ≤ gb304)); have GE304 := Aside0.mk ((y20 hg HB.out GE291.out GE292.out GE298.out : w.heap.size ≤ gb304)); replace HB := Aside0.mk (below_step (y4 HB.out GE291.out GE292.out GE298.out) hb); have NB291_304 := zltn hg BK291; have NB304_291 := zgtn hg BK291; replace BK291 := zbb BK291 hb; have NB292_304 := zltn hg BK292; have NB304_292 := zgtn hg BK292; replace BK292 := zbb BK292 hb; have NB298_304 := zltn hg BK298; have NB304_298 := zgtn hg BK298; replace BK298 := zbb BK298 hb; clear hb hbox hg; obtain ⟨Ao92, co92, eo92⟩ := Kd.N_slice HO302.out; subst eo92; have hnb93 := NB304_291.out; have hnc93 := NB291_304.out; have hnb94 := NB304_292.out; have hnc94 := NB292_304.out; have hnb95 := NB304_298.out; have hnc95 := NB298_304.out; have hcz96_0 := zh BK304; have hfz96_0 := zfr BK304 0; have hcz97_0 := zh BK292; have hfz97_0 := zfr BK292 0))
         refine bodyPost_ret (results_ct rfl _ _ gb292 50 #[.slice none 0 0] (0, 0) _ rfl (by (with_reducible repeat (first | refine blk_drewN ?_ _ | refine blk_drew ?_ | refine blk_alloc ?_ _)); refine blk_put (cs := #[.slice none 0 0]) ?_ 0 _ rfl; (with_reducible repeat (first | refine blk_drewN ?_ _ | refine blk_drew ?_ | refine blk_alloc ?_ _)); refine blk_far ?_ NB292_304.out _; (with_reducible repeat (first | refine blk_drewN ?_ _ | refine blk_drew ?_ | refine blk_alloc ?_ _)); exact BK292.out) Try.underlying50 rfl (by kernel_rfl)) rfl ?_
         exact ⟨_, y15, y38, (y5 HB.out GE291.out GE292.out GE298.out GE304.out)⟩
       ·rw [if_neg c37] at H
        exact absurd H (by simp)
      ·rw [if_neg c35] at H
       exact absurd H (by simp)
end Go.Proofs.Ythfflieeifakdaa.PA
end
section
namespace Go.Proofs.Ythfflieeifakdaa.PA
open Go.RowKit Go.Proofs.YthfflieeifakdaaW.PrintWords Go.Proofs.YthfflieeifakdaaW.PrintLast Go.Proofs.YthfflieeifakdaaW.PrintMore
attribute [local go_sem] max2_int min2_int max_two min_two max_three min_three max_four min_four
set_option linter.unusedVariables false
set_option linter.unusedSimpArgs false
def impl_valTyped.f (k : Nat) (a0_0 : Int) (l0_1 : List (S25)) : Option ((List (S50)) × Bool) := (impl_valType.f k a0_0 l0_1 4).bind fun bt310 => (some (bt310.1, bt310.2))
theorem impl_valTyped.mono : ∀ a0 a1 k, LeO (impl_valTyped.f k a0 a1) (impl_valTyped.f (k + 1) a0 a1) := by
 intro a0 a1 k
 unfold impl_valTyped.f
 repeat' first
   | (with_reducible exact impl_valType.mono _ _ _ _)
   | (with_reducible exact LeO.refl _)
   | (with_reducible exact LeO.none _)
   | (with_reducible refine LeO.ite ?_ ?_)
   | (with_reducible refine LeO.bind ?_ (fun _ => ?_))
   | exact impl_valType.mono _ _ _ _
   | exact LeO.none _
   | refine LeO.ite ?_ ?_
   | refine LeO.bind ?_ (fun _ => ?_)
set_option maxHeartbeats 8000000 in
set_option maxRecDepth 100000 in
theorem impl_valTyped.calls (k : Nat) (a0_0 : Int) (A0_1 : Option Addr) (c0_1 : Nat) (l0_1 : List (S25)) (r1 : List (S50)) (r2 : Bool) (w : World) (hr0_1 : Kd.C k25 w A0_1 l0_1.length l0_1) (hc0_1 : l0_1.length ≤ c0_1) (h : impl_valTyped.f k a0_0 l0_1 = some (r1, r2)) :
  Calls Try.prog 38 #[.agg #[.int .i64 a0_0, .slice A0_1 l0_1.length c0_1]] w fun e w' => ∃ v0_ : Value, e = .returned (.tuple #[.agg #[v0_], .bool r2]) ∧ Kd.N k50 50 w' w.heap.size (fun k_ => (w.heap.size ≤ k_)) v0_ r1 ∧ Below w.heap.size w w' := by
 have hu25 := Try.underlying25
 have hu50 := Try.underlying50
 have HR0_1 := Aside0.mk hr0_1
 have HC0_1 := Aside0.mk hc0_1
 clear hr0_1 hc0_1
 have HB := Aside0.mk (Below.refl w.heap.size w)
 have H : ((impl_valType.f k a0_0 l0_1 4).bind fun bt310 => (some (bt310.1, bt310.2))) = some (r1, r2) := h
 clear h
 obtain ⟨⟨t310, t313⟩, A20, H⟩ := ob H
 have A2 := Aside0.mk A20
 clear A20
 simp only [Option.some.injEq, Prod.mk.injEq] at H
 obtain ⟨rfl, rfl⟩ := H
 go_enter Try.func38, Try.ntmps38
 go_wp2_with (first | ((with_reducible refine gate_dst (N := 1) rfl ?_); refine zbx 1 #[.int .i64 a0_0, .slice A0_1 l0_1.length c0_1] 25 ?_; intro gb308 hg w3 hbox hb; have BK308 := Aside0.mk hbox; have GW308 := Aside0.mk ((y10 hg HB.out : w.heap.size ≤ gb308)); have GE308 := Aside0.mk ((y10 hg HB.out : w.heap.size ≤ gb308)); replace HB := Aside0.mk (below_step (y6 HB.out) hb); clear hb hbox hg) | ((with_reducible refine gate_dst (N := 2) rfl ?_); refine zbx 2 #[.slice none 0 0] 50 ?_; intro gb309 hg w4 hbox hb; have BK309 := Aside0.mk hbox; have GW309 := Aside0.mk ((y12 hg HB.out GE308.out : w.heap.size ≤ gb309)); have GE309 := Aside0.mk ((y12 hg HB.out GE308.out : w.heap.size ≤ gb309)); replace HB := Aside0.mk (below_step (y7 HB.out GE308.out) hb); have NB308_309 := zltn hg BK308; have NB309_308 := zgtn hg BK308; replace BK308 := zbb BK308 hb; clear hb hbox hg; have hnb5 := NB308_309.out; have hnc5 := NB309_308.out; have hcz6_0 := zh BK308; have hcz6_1 := zh1 BK308; have hfz6_0 := zfr BK308 0; have hfz6_1 := zfr BK308 1) | ((with_reducible refine gate_callee (f := 57) rfl ?_); refine goesL_ (some 5) rfl rfl Try.func57 (by kernel_rfl) rfl #[.agg #[.int .i64 a0_0, .slice A0_1 l0_1.length c0_1], .int .i64 4] rfl y9 ?_; (with_reducible refine (impl_valType.calls k a0_0 _ _ l0_1 4 t310 t313 _ ?side1 ?side2 A2.out).mono ?_); (case side1 => exact y18 HR0_1.out HB.out); (case side2 => exact HC0_1.out); rintro e w7 ⟨v311, rfl, ho0, hb⟩; refine ⟨_, rfl, ?_⟩; have HO312 := Aside0.mk (Kd.N_lower (Kd.N_mono (ok' := fun k_ => (w.heap.size ≤ k_) ∧ k_ ≠ gb308 ∧ k_ ≠ gb309) ho0 (fun k_ hk_ => ⟨(Nat.le_trans (below_size (y3 HB.out GE308.out GE309.out)) hk_), (Kd.freshB (g := gb308) (o := .cells #[.int .i64 a0_0, .slice A0_1 l0_1.length c0_1] 25 (0, 0)) (y0 BK308.out) k_ hk_), (Kd.freshB (g := gb309) (o := .cells #[.slice none 0 0] 50 (0, 0)) (y0 BK309.out) k_ hk_)⟩)) (below_size (y3 HB.out GE308.out GE309.out))); replace BK308 := zbb BK308 hb; replace BK309 := zbb BK309 hb; replace HB := Aside0.mk (below_step (y3 HB.out GE308.out GE309.out) hb); (try clear hb); (try clear hb2); (try clear hk); (try clear hi); (try clear ho0); obtain ⟨Ao8, co8, eo8⟩ := Kd.N_slice HO312.out; subst eo8; have hcz9_0 := zh BK309; have hfz9_0 := zfr BK309 0))
 refine bodyPost_ret (results_ct rfl _ _ gb309 50 #[.slice Ao8 t310.length co8] (0, 0) _ rfl (by (with_reducible repeat (first | refine blk_drewN ?_ _ | refine blk_drew ?_ | refine blk_alloc ?_ _)); apply blk_put (i := 0); (case h => exact y0 BK309.out); (case e => rfl)) Try.underlying50 rfl (by kernel_rfl)) rfl ?_
 exact ⟨_, y15, (by (with_reducible repeat (first | apply Kd.N_alloc | apply Kd.N_drewN | apply Kd.N_drew)); exact Kd.N_mono (Kd.N_far (p := ⟨gb309, 0, none⟩) (Kd.N_mono HO312.out (fun k_ hk => (⟨hk, hk.2.2⟩ : _ ∧ k_ ≠ gb309))) (fun _ hk => hk.2) (.slice Ao8 t310.length co8)) (fun _ hk => hk.1.1)), (y3 HB.out GE308.out GE309.out)⟩
end Go.Proofs.Ythfflieeifakdaa.PA
end
section
namespace Go.Proofs.Ythfflieeifakdaa.PA
open Go.RowKit Go.Proofs.YthfflieeifakdaaW.PrintWords Go.Proofs.YthfflieeifakdaaW.PrintLast Go.Proofs.YthfflieeifakdaaW.PrintMore
attribute [local go_sem] max2_int min2_int max_two min_two max_three min_three max_four min_four
set_option linter.unusedVariables false
set_option linter.unusedSimpArgs false
def impl_Val_parts.f (a0_0 : Int) (l0_1 : List (S25)) : Option ((List (S25))) := some l0_1
set_option maxHeartbeats 8000000 in
set_option maxRecDepth 100000 in
theorem impl_Val_parts.calls (a0_0 : Int) (P0_1_ : Nat → Prop) (A0_1 : Option Addr) (c0_1 : Nat) (l0_1 : List (S25)) (r : List (S25)) (w : World) (hs0_1 : Kd.V k25 25 w w.heap.size (fun k_ => P0_1_ k_) (.slice A0_1 l0_1.length c0_1) l0_1) (h : impl_Val_parts.f a0_0 l0_1 = some r) :
  Calls Try.prog 76 #[.agg #[.int .i64 a0_0, .slice A0_1 l0_1.length c0_1]] w fun e w' => ∃ v0_ : Value, e = .returned (v0_) ∧ Kd.V k25 25 w' w.heap.size (fun k_ => (P0_1_ k_ ∨ w.heap.size ≤ k_)) v0_ r ∧ Below w.heap.size w w' := by
 have hu25 := Try.underlying25
 have HO0_1 := Aside0.mk (show Kd.V k25 25 w w.heap.size (fun k_ => (P0_1_ k_ ∨ w.heap.size ≤ k_)) (.slice A0_1 l0_1.length c0_1) l0_1 from Kd.V_mono hs0_1 (fun k_ hk => .inl hk))
 have HB := Aside0.mk (Below.refl w.heap.size w)
 have H : (some l0_1) = some r := h
 clear h
 obtain rfl := Option.some.inj H
 go_enter Try.func76, Try.ntmps76
 go_wp2_with (first | ((with_reducible refine gate_dst (N := 1) rfl ?_); refine zbx 1 #[.int .i64 a0_0, .slice A0_1 l0_1.length c0_1] 25 ?_; intro gb102 hg w2 hbox hb; replace HO0_1 := Aside0.mk (Kd.V_below (Kd.V_elderB (y11 HO0_1.out) gb102 (Nat.le_of_eq hg.symm)) hb); have BK102 := Aside0.mk hbox; have GW102 := Aside0.mk ((y10 hg HB.out : w.heap.size ≤ gb102)); have GE102 := Aside0.mk ((y10 hg HB.out : w.heap.size ≤ gb102)); replace HB := Aside0.mk (below_step (y6 HB.out) hb); clear hb hbox hg; have hcz3_0 := zh BK102; have hcz3_1 := zh1 BK102; have hfz3_0 := zfr BK102 0; have hfz3_1 := zfr BK102 1))
 go_ret
 exact ⟨_, y15, (by (with_reducible repeat (first | apply Kd.V_alloc | apply Kd.V_drewN | apply Kd.V_drew)); exact Kd.V_mono HO0_1.out (fun _ hk => hk.1)), (y7 HB.out GE102.out)⟩
end Go.Proofs.Ythfflieeifakdaa.PA
end
section
namespace Go.Proofs.Ythfflieeifakdaa.PA
open Go.RowKit Go.Proofs.YthfflieeifakdaaW.PrintWords Go.Proofs.YthfflieeifakdaaW.PrintLast Go.Proofs.YthfflieeifakdaaW.PrintMore
attribute [local go_sem] max2_int min2_int max_two min_two max_three min_three max_four min_four
set_option linter.unusedVariables false
set_option linter.unusedSimpArgs false
def impl_Val.l0 : Nat → List Int → Int → Int → Int → List (S25) → Option (Int × (List (S25)) × Bool)
 | 0, _, _, _, _, _ => none
 | k + 1, x10, x11, x12, x315000, x315001 => if x12 < x11 then (if 0 ≤ x12 then (if x12 < (x10.length : Int) then ((impl_Val_parts.f x315000 x315001).bind fun t317 => (if (t317.length : Int) = 2 then (if (rd x10 x12) < 0 then (some (0, ([] : List (S25)), false)) else (if (rd x10 x12) > 1 then (some (0, ([] : List (S25)), false)) else (if 0 ≤ (rd x10 x12) then (if (rd x10 x12) < (t317.length : Int) then (impl_Val.l0 k x10 x11 (wrap64 (x12 + 1)) ((rd_T25 t317 (rd x10 x12)).f0) ((rd_T25 t317 (rd x10 x12)).f1)) else (none)) else (none)))) else (some (0, ([] : List (S25)), false)))) else (none)) else (none)) else (some (x315000, x315001, true))
def impl_Val.f (k : Nat) (a0_0 : Int) (l0_1 : List (S25)) (l1 : List Int) : Option (Int × (List (S25)) × Bool) := impl_Val.l0 k l1 (l1.length : Int) 0 a0_0 l0_1
theorem impl_Val.mono_l : ∀ k, (∀ y0 y1 y2 y3 y4, LeO (impl_Val.l0 k y0 y1 y2 y3 y4) (impl_Val.l0 (k + 1) y0 y1 y2 y3 y4))
 | 0 => fun _ _ _ _ _ r h => by simp [impl_Val.l0] at h
 | k + 1 => by
  have ih0 := impl_Val.mono_l k
  ·intro y0 y1 y2 y3 y4
   unfold impl_Val.l0
   repeat' first
   | (with_reducible exact ih0 _ _ _ _ _)
   | (with_reducible exact LeO.refl _)
   | (with_reducible exact LeO.none _)
   | (with_reducible refine LeO.ite ?_ ?_)
   | (with_reducible refine LeO.bind ?_ (fun _ => ?_))
   | exact ih0 _ _ _ _ _
   | exact LeO.none _
   | refine LeO.ite ?_ ?_
   | refine LeO.bind ?_ (fun _ => ?_)
theorem impl_Val.mono : ∀ a0 a1 a2 k, LeO (impl_Val.f k a0 a1 a2) (impl_Val.f (k + 1) a0 a1 a2) := by
 intro a0 a1 a2 k
 have ih0 := impl_Val.mono_l k
 unfold impl_Val.f
 repeat' first
   | (with_reducible exact ih0 _ _ _ _ _)
   | (with_reducible exact LeO.refl _)
   | (with_reducible exact LeO.none _)
   | (with_reducible refine LeO.ite ?_ ?_)
   | (with_reducible refine LeO.bind ?_ (fun _ => ?_))
   | exact ih0 _ _ _ _ _
   | exact LeO.none _
   | refine LeO.ite ?_ ?_
   | refine LeO.bind ?_ (fun _ => ?_)
set_option maxHeartbeats 8000000 in
set_option maxRecDepth 100000 in
theorem impl_Val.calls (k : Nat) (a0_0 : Int) (P0_1_ : Nat → Prop) (A0_1 : Option Addr) (c0_1 : Nat) (l0_1 : List (S25)) (A1 : Option Addr) (c1 : Nat) (l1 : List Int) (r1 : Int) (r2 : List (S25)) (r3 : Bool) (w : World) (hs0_1 : Kd.V k25 25 w w.heap.size (fun k_ => P0_1_ k_) (.slice A0_1 l0_1.length c0_1) l0_1) (hr1 : Kd.C (Kd.int .i64) w A1 l1.length l1) (hc1 : l1.length ≤ c1) (h : impl_Val.f k a0_0 l0_1 l1 = some (r1, r2, r3)) :
  Calls Try.prog 39 #[.agg #[.int .i64 a0_0, .slice A0_1 l0_1.length c0_1], .slice A1 l1.length c1] w fun e w' => ∃ v1_ : Value, e = .returned (.tuple #[.agg #[.int .i64 r1, v1_], .bool r3]) ∧ Kd.V k25 25 w' w.heap.size (fun k_ => (P0_1_ k_ ∨ w.heap.size ≤ k_)) v1_ r2 ∧ Below w.heap.size w w' := by
 have hu25 := Try.underlying25
 have hna25 : ∀ (v : Value) (W : World), (nilAhead 199 25 v "loop.example/handfast/impl.parts").run Try.prog W = .ok (some false) W := fun _ _ => by kernel_rfl
 have hme25 : ∀ (v : Value) (W : World), (method 199 25 v "loop.example/handfast/impl.parts").run Try.prog W = .ok (76, v) W := fun _ _ => by kernel_rfl
 have HO0_1 := Aside0.mk (show Kd.V k25 25 w w.heap.size (fun k_ => (P0_1_ k_ ∨ w.heap.size ≤ k_)) (.slice A0_1 l0_1.length c0_1) l0_1 from Kd.V_mono hs0_1 (fun k_ hk => .inl hk))
 have HR1 := Aside0.mk hr1
 have HC1 := Aside0.mk hc1
 clear hr1 hc1
 have HB := Aside0.mk (Below.refl w.heap.size w)
 have H : (impl_Val.l0 k l1 (l1.length : Int) 0 a0_0 l0_1) = some (r1, r2, r3) := h
 clear h
 have H' := Aside0.mk H
 clear H
 go_enter Try.func39, Try.ntmps39
 go_wp2_with (first | ((with_reducible refine gate_dst (N := 2) rfl ?_); refine zbx 2 #[.int .i64 a0_0, .slice A0_1 l0_1.length c0_1] 25 ?_; intro gb314 hg w3 hbox hb; replace HO0_1 := Aside0.mk (Kd.V_below (Kd.V_elderB (y11 HO0_1.out) gb314 (Nat.le_of_eq hg.symm)) hb); have BK314 := Aside0.mk hbox; have GW314 := Aside0.mk ((y10 hg HB.out : w.heap.size ≤ gb314)); have GE314 := Aside0.mk ((y10 hg HB.out : w.heap.size ≤ gb314)); replace HB := Aside0.mk (below_step (y6 HB.out) hb); clear hb hbox hg) | ((with_reducible refine gate_dst (N := 4) rfl ?_); refine zbx 4 #[.int .i64 0, .slice none 0 0] 25 ?_; intro gb315 hg w4 hbox hb; replace HO0_1 := Aside0.mk (Kd.V_below (Kd.V_elderB (y11 HO0_1.out) gb315 (Nat.le_of_eq hg.symm)) hb); have BK315 := Aside0.mk hbox; have GW315 := Aside0.mk ((y12 hg HB.out GE314.out : w.heap.size ≤ gb315)); have GE315 := Aside0.mk ((y12 hg HB.out GE314.out : w.heap.size ≤ gb315)); replace HB := Aside0.mk (below_step (y7 HB.out GE314.out) hb); have NB314_315 := zltn hg BK314; have NB315_314 := zgtn hg BK314; replace BK314 := zbb BK314 hb; clear hb hbox hg))
 go_loopg [12] k (fun kq v12 w' => ∃ (x12_1 : Int) (x315000_1 : Int) (x315001_1 : List (S25)) (x316000_1 : Int) (u315001 : Value), v12 = .int .i64 x12_1 ∧ Aside0 (impl_Val.l0 kq l1 (l1.length : Int) x12_1 x315000_1 x315001_1 = some (r1, r2, r3)) ∧ Aside0 (kq ≤ k) ∧ Aside0 (Kd.V k25 25 w' w.heap.size (fun k_ => (P0_1_ k_ ∨ w.heap.size ≤ k_) ∧ k_ ≠ gb314 ∧ k_ ≠ gb315) u315001 x315001_1) ∧ Aside0 (w'.heap[gb314]? = some (.cells #[.int .i64 x315000_1, u315001] 25 (0, 0))) ∧ Aside0 (w'.heap[gb315]? = some (.cells #[.int .i64 x316000_1, (.slice none 0 0)] 25 (0, 0))) ∧ Aside0 (Below w.heap.size w w'))
 case atStart => exact ⟨(0), (a0_0), (l0_1), (0), (.slice A0_1 l0_1.length c0_1), y29, H', ⟨Nat.le_refl _⟩, ⟨(y87 HO0_1.out)⟩, ⟨(y0 BK314.out)⟩, ⟨(y0 BK315.out)⟩, ⟨(y3 HB.out GE314.out GE315.out)⟩⟩
 case round =>
  clear H'
  try clear c1
  try clear p2
  try clear c3
  (try clear BK314); (try clear BK315)
  obtain ⟨x12_1, x315000_1, x315001_1, x316000_1, u315001, rfl, HA, HK1, HO_315001, BK314, BK315, HB⟩ := hrel
  cases gk with
  | zero => exact absurd HA.out (by simp [impl_Val.l0])
  | succ k1 =>
   have H := HA.out
   clear HA
   simp only [impl_Val.l0] at H
   by_cases c5 : x12_1 < (l1.length : Int)
   ·rw [if_pos c5] at H
    have c5b0 : decide (x12_1 < (l1.length : Int)) = true := decide_eq_true c5
    clear c5
    by_cases c6 : 0 ≤ x12_1
    ·rw [if_pos c6] at H
     have c6b0 : decide (0 ≤ x12_1) = true := decide_eq_true c6
     clear c6
     by_cases c7 : x12_1 < (l1.length : Int)
     ·rw [if_pos c7] at H
      have c7b0 : decide (x12_1 < (l1.length : Int)) = true := decide_eq_true c7
      clear c7
      obtain ⟨t317, A80, H⟩ := ob H
      have A8 := Aside0.mk A80
      clear A80
      by_cases c9 : (t317.length : Int) = 2
      ·rw [if_pos c9] at H
       have c9b0 : ((t317.length : Int) == 2) = true := beq_iff_eq.mpr c9
       have c9b1 : ((t317.length : Int) != 2) = false := bne_eq_false_iff_eq.mpr c9
       clear c9
       by_cases c10 : (rd l1 x12_1) < 0
       ·rw [if_pos c10] at H
        have c10b0 : decide ((rd l1 x12_1) < 0) = true := decide_eq_true c10
        clear c10
        simp only [Option.some.injEq, Prod.mk.injEq] at H
        obtain ⟨rfl, rfl, rfl⟩ := H
        have p316 : 0 ≤ (x12_1 : Int) := of_decide_eq_true y23
        have q316 : x12_1 < (l1.length : Int) := of_decide_eq_true y23
        obtain ⟨ad316, e316, hx316_0⟩ := Kd.at_int HR1.out x12_1 p316 q316
        cases e316
        replace hx316_0 := (HB.out.cell (World.block_lt_of_cell? w _ hx316_0)).trans hx316_0
        replace p316 := eq_true p316
        replace q316 := eq_true q316
        have hnb11 := NB314_315.out
        have hnc11 := NB315_314.out
        have hcz12_0 := zh BK314
        have hcz12_1 := zh1 BK314
        have hfz12_0 := zfr BK314 0
        have hfz12_1 := zfr BK314 1
        obtain ⟨Ao13, co13, eo13⟩ := Kd.V_slice HO_315001.out
        subst eo13
        go_wp2_with (first | (go_at_call 76; (with_reducible refine (impl_Val_parts.calls x315000_1 (fun k_ => ((P0_1_ k_ ∨ w.heap.size ≤ k_) ∧ (k_ ≠ gb314 ∧ k_ ≠ gb315))) _ _ x315001_1 t317 _ ?side1 A8.out).mono ?_); (case side1 => exact HO_315001.out); rintro e w14 ⟨v318, rfl, ho0, hb⟩; replace HO_315001 := Aside0.mk (Kd.V_below (y11 HO_315001.out) hb); have HO319 := Aside0.mk (Kd.V_lower (Kd.V_mono (ok' := fun k_ => (P0_1_ k_ ∨ w.heap.size ≤ k_) ∧ k_ ≠ gb314 ∧ k_ ≠ gb315) ho0 (fun k_ hk_ => ⟨Or.elim hk_ (fun hs_ => hs_.1) (fun hn_ => (.inr (Nat.le_trans (below_size (y3 HB.out GE314.out GE315.out)) hn_))), Or.elim hk_ (fun hs_ => hs_.2.1) (fun hn_ => (Kd.freshB (g := gb314) (o := .cells #[.int .i64 x315000_1, .slice Ao13 x315001_1.length co13] 25 (0, 0)) (y0 BK314.out) k_ hn_)), Or.elim hk_ (fun hs_ => hs_.2.2) (fun hn_ => (Kd.freshB (g := gb315) (o := .cells #[.int .i64 x316000_1, .slice none 0 0] 25 (0, 0)) (y0 BK315.out) k_ hn_))⟩)) (below_size (y3 HB.out GE314.out GE315.out))); replace BK314 := zbb BK314 hb; replace BK315 := zbb BK315 hb; replace HB := Aside0.mk (below_step (y3 HB.out GE314.out GE315.out) hb); (try clear hb); (try clear hb2); (try clear hk); (try clear hi); (try clear ho0); obtain ⟨Ao15, co15, eo15⟩ := Kd.V_slice HO319.out; subst eo15) | ((with_reducible refine gate_dst (N := 9) rfl ?_); refine zbx 9 #[.int .i64 0, .slice none 0 0] 25 ?_; intro gb320 hg w16 hbox hb; replace HO_315001 := Aside0.mk (Kd.V_below (Kd.V_elderB (y11 HO_315001.out) gb320 (Nat.le_of_eq hg.symm)) hb); replace HO319 := Aside0.mk (Kd.V_below (Kd.V_elderB (y11 HO319.out) gb320 (Nat.le_of_eq hg.symm)) hb); have BK320 := Aside0.mk hbox; have GW320 := Aside0.mk ((y16 hg HB.out GE314.out GE315.out : w.heap.size ≤ gb320)); have GE320 := Aside0.mk ((y16 hg HB.out GE314.out GE315.out : w.heap.size ≤ gb320)); replace HB := Aside0.mk (below_step (y3 HB.out GE314.out GE315.out) hb); have NB314_320 := zltn hg BK314; have NB320_314 := zgtn hg BK314; replace BK314 := zbb BK314 hb; have NB315_320 := zltn hg BK315; have NB320_315 := zgtn hg BK315; replace BK315 := zbb BK315 hb; clear hb hbox hg; have hnb17 := NB320_314.out; have hnc17 := NB314_320.out; have hnb18 := NB320_315.out; have hnc18 := NB315_320.out; have hcz19_0 := zh BK320; have hcz19_1 := zh1 BK320; have hfz19_0 := zfr BK320 0; have hfz19_1 := zfr BK320 1; have hcz20_0 := zh BK315; have hcz20_1 := zh1 BK315; have hfz20_0 := zfr BK315 0; have hfz20_1 := zfr BK315 1))
        refine bodyPost_ret (results_ct rfl _ _ gb315 25 #[.int .i64 0, .slice none 0 0] (0, 0) _ rfl (by (with_reducible repeat (first | refine blk_drewN ?_ _ | refine blk_drew ?_ | refine blk_alloc ?_ _)); refine blk_put (cs := #[.int .i64 0, .slice none 0 0]) ?_ 1 _ rfl; (with_reducible repeat (first | refine blk_drewN ?_ _ | refine blk_drew ?_ | refine blk_alloc ?_ _)); apply blk_put (i := 0); (case h => exact y0 BK315.out); (case e => rfl)) Try.underlying25 rfl (by kernel_rfl)) rfl ?_
        exact ⟨_, y15, Kd.V_nil _ _ _ _ _, (y4 HB.out GE314.out GE315.out GE320.out)⟩
       ·rw [if_neg c10] at H
        have c10b0 : decide ((rd l1 x12_1) < 0) = false := decide_eq_false c10
        clear c10
        have HZ21 := Aside0.mk H
        clear H
        have p316 : 0 ≤ (x12_1 : Int) := of_decide_eq_true y23
        have q316 : x12_1 < (l1.length : Int) := of_decide_eq_true y23
        obtain ⟨ad316, e316, hx316_0⟩ := Kd.at_int HR1.out x12_1 p316 q316
        cases e316
        replace hx316_0 := (HB.out.cell (World.block_lt_of_cell? w _ hx316_0)).trans hx316_0
        replace p316 := eq_true p316
        replace q316 := eq_true q316
        have hnb22 := NB314_315.out
        have hnc22 := NB315_314.out
        have hcz23_0 := zh BK314
        have hcz23_1 := zh1 BK314
        have hfz23_0 := zfr BK314 0
        have hfz23_1 := zfr BK314 1
        obtain ⟨Ao24, co24, eo24⟩ := Kd.V_slice HO_315001.out
        subst eo24
        go_upto_if 29 with (first | (go_at_call 76; (with_reducible refine (impl_Val_parts.calls x315000_1 (fun k_ => ((P0_1_ k_ ∨ w.heap.size ≤ k_) ∧ (k_ ≠ gb314 ∧ k_ ≠ gb315))) _ _ x315001_1 t317 _ ?side1 A8.out).mono ?_); (case side1 => exact HO_315001.out); rintro e w25 ⟨v318, rfl, ho0, hb⟩; replace HO_315001 := Aside0.mk (Kd.V_below (y11 HO_315001.out) hb); have HO319 := Aside0.mk (Kd.V_lower (Kd.V_mono (ok' := fun k_ => (P0_1_ k_ ∨ w.heap.size ≤ k_) ∧ k_ ≠ gb314 ∧ k_ ≠ gb315) ho0 (fun k_ hk_ => ⟨Or.elim hk_ (fun hs_ => hs_.1) (fun hn_ => (.inr (Nat.le_trans (below_size (y3 HB.out GE314.out GE315.out)) hn_))), Or.elim hk_ (fun hs_ => hs_.2.1) (fun hn_ => (Kd.freshB (g := gb314) (o := .cells #[.int .i64 x315000_1, .slice Ao24 x315001_1.length co24] 25 (0, 0)) (y0 BK314.out) k_ hn_)), Or.elim hk_ (fun hs_ => hs_.2.2) (fun hn_ => (Kd.freshB (g := gb315) (o := .cells #[.int .i64 x316000_1, .slice none 0 0] 25 (0, 0)) (y0 BK315.out) k_ hn_))⟩)) (below_size (y3 HB.out GE314.out GE315.out))); replace BK314 := zbb BK314 hb; replace BK315 := zbb BK315 hb; replace HB := Aside0.mk (below_step (y3 HB.out GE314.out GE315.out) hb); (try clear hb); (try clear hb2); (try clear hk); (try clear hi); (try clear ho0); obtain ⟨Ao26, co26, eo26⟩ := Kd.V_slice HO319.out; subst eo26))
        (try simp only [Act.put, List.setIfInBounds_toArray, List.set_cons_zero, List.set_cons_succ])
        have H := HZ21.out
        clear HZ21
        by_cases c27 : (rd l1 x12_1) > 1
        ·rw [if_pos c27] at H
         have c27b0 : decide (1 < (rd l1 x12_1)) = true := decide_eq_true c27
         clear c27
         (first | rw [c27b0] | (simp only [i64_w, i32_w]; rw [c27b0]) | skip)
         simp only [Option.some.injEq, Prod.mk.injEq] at H
         obtain ⟨rfl, rfl, rfl⟩ := H
         go_wp2_with (first | ((with_reducible refine gate_dst (N := 9) rfl ?_); refine zbx 9 #[.int .i64 0, .slice none 0 0] 25 ?_; intro gb321 hg w28 hbox hb; replace HO_315001 := Aside0.mk (Kd.V_below (Kd.V_elderB (y11 HO_315001.out) gb321 (Nat.le_of_eq hg.symm)) hb); replace HO319 := Aside0.mk (Kd.V_below (Kd.V_elderB (y11 HO319.out) gb321 (Nat.le_of_eq hg.symm)) hb); have BK321 := Aside0.mk hbox; have GW321 := Aside0.mk ((y16 hg HB.out GE314.out GE315.out : w.heap.size ≤ gb321)); have GE321 := Aside0.mk ((y16 hg HB.out GE314.out GE315.out : w.heap.size ≤ gb321)); replace HB := Aside0.mk (below_step (y3 HB.out GE314.out GE315.out) hb); have NB314_321 := zltn hg BK314; have NB321_314 := zgtn hg BK314; replace BK314 := zbb BK314 hb; have NB315_321 := zltn hg BK315; have NB321_315 := zgtn hg BK315; replace BK315 := zbb BK315 hb; clear hb hbox hg; have hnb29 := NB321_314.out; have hnc29 := NB314_321.out; have hnb30 := NB321_315.out; have hnc30 := NB315_321.out; have hcz31_0 := zh BK321; have hcz31_1 := zh1 BK321; have hfz31_0 := zfr BK321 0; have hfz31_1 := zfr BK321 1; have hnb32 := NB315_314.out; have hnc32 := NB314_315.out; have hcz33_0 := zh BK315; have hcz33_1 := zh1 BK315; have hfz33_0 := zfr BK315 0; have hfz33_1 := zfr BK315 1))
         refine bodyPost_ret (results_ct rfl _ _ gb315 25 #[.int .i64 0, .slice none 0 0] (0, 0) _ rfl (by (with_reducible repeat (first | refine blk_drewN ?_ _ | refine blk_drew ?_ | refine blk_alloc ?_ _)); refine blk_put (cs := #[.int .i64 0, .slice none 0 0]) ?_ 1 _ rfl; (with_reducible repeat (first | refine blk_drewN ?_ _ | refine blk_drew ?_ | refine blk_alloc ?_ _)); apply blk_put (i := 0); (case h => exact y0 BK315.out); (case e => rfl)) Try.underlying25 rfl (by kernel_rfl)) rfl ?_
         exact ⟨_, y15, Kd.V_nil _ _ _ _ _, (y4 HB.out GE314.out GE315.out GE321.out)⟩
        ·rw [if_neg c27] at H
         have c27b0 : decide (1 < (rd l1 x12_1)) = false := decide_eq_false c27
         clear c27
         (first | rw [c27b0] | (simp only [i64_w, i32_w]; rw [c27b0]) | skip)
         by_cases c34 : 0 ≤ (rd l1 x12_1)
         ·rw [if_pos c34] at H
          have c34b0 : decide (0 ≤ (rd l1 x12_1)) = true := decide_eq_true c34
          clear c34
          by_cases c35 : (rd l1 x12_1) < (t317.length : Int)
          ·rw [if_pos c35] at H
           have c35b0 : decide ((rd l1 x12_1) < (t317.length : Int)) = true := decide_eq_true c35
           clear c35
           have H' := Aside0.mk H
           clear H
           have p322 : 0 ≤ ((rd l1 x12_1) : Int) := of_decide_eq_true y23
           have q322 : (rd l1 x12_1) < (t317.length : Int) := of_decide_eq_true y23
           obtain ⟨ad322, A322_1, c322_1, e322, hx322_0, hx322_1, hl322_1, hi322_1⟩ := at_T25 (Kd.V_reads' HO319.out).2.2 (rd l1 x12_1) p322 q322
           cases e322
           obtain ⟨ce322, hce322, hMe322, hcc322⟩ := Kd.V_get HO319.out z25 (rd l1 x12_1) p322 (by first | exact q322 | exact of_decide_eq_true y23 | (have e_ := (Kd.V_reads' HO319.out).1; omega))
           obtain ⟨ua322_1, uc322_1, rfl, ul322_1, ge322_1⟩ := k25_openF hMe322
           have hv322_1 := hcc322 1 _ rfl
           rw [add_field _ _ 1 (by omega)] at hv322_1
           replace hv322_1 := Option.some.inj (hv322_1.symm.trans hx322_1)
           injection hv322_1 with hva_ hvn_ hvc_
           rw [hva_] at ge322_1
           rw [hvc_] at ul322_1
           have HL322_1 := Aside0.mk (show Kd.V k25 25 _ w.heap.size _ _ ((rd_T25 t317 (rd l1 x12_1)).f1) from Kd.V_mk ul322_1 ge322_1)
           clear hva_ hvn_ hvc_ ge322_1 ul322_1
           clear hcc322 hce322
           have HR322_1 := Aside0.mk hi322_1
           have HC322_1 := Aside0.mk hl322_1
           clear hi322_1 hl322_1
           replace p322 := eq_true p322
           replace q322 := eq_true q322
           have hnb36 := NB314_315.out
           have hnc36 := NB315_314.out
           have hcz37_0 := zh BK314
           have hcz37_1 := zh1 BK314
           have hfz37_0 := zfr BK314 0
           have hfz37_1 := zfr BK314 1
           go_wp2
           go_roundg k1
           case measure => have := HK1.out; omega
           case rel => exact ⟨(wrap64 (x12_1 + 1)), ((rd_T25 t317 (rd l1 x12_1)).f0), ((rd_T25 t317 (rd l1 x12_1)).f1), (x316000_1), (.slice A322_1 ((rd_T25 t317 (rd l1 x12_1)).f1).length c322_1), y29, H', ⟨(y69 HK1.out)⟩, ⟨(by (with_reducible repeat (first | apply Kd.V_alloc | apply Kd.V_drewN | apply Kd.V_drew)); exact Kd.V_mono (Kd.V_far (p := ⟨gb314, 1, none⟩) (Kd.V_far (p := ⟨gb314, 0, none⟩) (Kd.V_mono HL322_1.out (fun k_ hk => (⟨hk, hk.2.1⟩ : _ ∧ k_ ≠ gb314))) (fun _ hk => hk.2) (.int .i64 ((rd_T25 t317 (rd l1 x12_1)).f0))) (fun _ hk => hk.2) (.slice A322_1 ((rd_T25 t317 (rd l1 x12_1)).f1).length c322_1)) (fun _ hk => ⟨hk.1.1, ⟨hk.1.2.1, hk.1.2.2⟩⟩))⟩, ⟨(by (with_reducible repeat (first | refine blk_drewN ?_ _ | refine blk_drew ?_ | refine blk_alloc ?_ _)); refine blk_put (cs := #[.int .i64 ((rd_T25 t317 (rd l1 x12_1)).f0), .slice Ao24 x315001_1.length co24]) ?_ 1 _ rfl; (with_reducible repeat (first | refine blk_drewN ?_ _ | refine blk_drew ?_ | refine blk_alloc ?_ _)); refine blk_put (cs := #[.int .i64 x315000_1, .slice Ao24 x315001_1.length co24]) ?_ 0 _ rfl; (with_reducible repeat (first | refine blk_drewN ?_ _ | refine blk_drew ?_ | refine blk_alloc ?_ _)); exact BK314.out)⟩, ⟨(y1 NB315_314.out BK315.out)⟩, ⟨(y3 HB.out GE314.out GE315.out)⟩⟩
          ·rw [if_neg c35] at H
           exact absurd H (by simp)
         ·rw [if_neg c34] at H
          exact absurd H (by simp)
      ·rw [if_neg c9] at H
       have c9b0 : ((t317.length : Int) == 2) = false := beq_eq_false_iff_ne.mpr c9
       have c9b1 : ((t317.length : Int) != 2) = true := bne_iff_ne.mpr c9
       simp only [Option.some.injEq, Prod.mk.injEq] at H
       obtain ⟨rfl, rfl, rfl⟩ := H
       have p316 : 0 ≤ (x12_1 : Int) := of_decide_eq_true y23
       have q316 : x12_1 < (l1.length : Int) := of_decide_eq_true y23
       obtain ⟨ad316, e316, hx316_0⟩ := Kd.at_int HR1.out x12_1 p316 q316
       cases e316
       replace hx316_0 := (HB.out.cell (World.block_lt_of_cell? w _ hx316_0)).trans hx316_0
       replace p316 := eq_true p316
       replace q316 := eq_true q316
       have hnb38 := NB314_315.out
       have hnc38 := NB315_314.out
       have hcz39_0 := zh BK314
       have hcz39_1 := zh1 BK314
       have hfz39_0 := zfr BK314 0
       have hfz39_1 := zfr BK314 1
       obtain ⟨Ao40, co40, eo40⟩ := Kd.V_slice HO_315001.out
       subst eo40
       go_wp2_with (first | (go_at_call 76; (with_reducible refine (impl_Val_parts.calls x315000_1 (fun k_ => ((P0_1_ k_ ∨ w.heap.size ≤ k_) ∧ (k_ ≠ gb314 ∧ k_ ≠ gb315))) _ _ x315001_1 t317 _ ?side1 A8.out).mono ?_); (case side1 => exact HO_315001.out); rintro e w41 ⟨v318, rfl, ho0, hb⟩; replace HO_315001 := Aside0.mk (Kd.V_below (y11 HO_315001.out) hb); have HO319 := Aside0.mk (Kd.V_lower (Kd.V_mono (ok' := fun k_ => (P0_1_ k_ ∨ w.heap.size ≤ k_) ∧ k_ ≠ gb314 ∧ k_ ≠ gb315) ho0 (fun k_ hk_ => ⟨Or.elim hk_ (fun hs_ => hs_.1) (fun hn_ => (.inr (Nat.le_trans (below_size (y3 HB.out GE314.out GE315.out)) hn_))), Or.elim hk_ (fun hs_ => hs_.2.1) (fun hn_ => (Kd.freshB (g := gb314) (o := .cells #[.int .i64 x315000_1, .slice Ao40 x315001_1.length co40] 25 (0, 0)) (y0 BK314.out) k_ hn_)), Or.elim hk_ (fun hs_ => hs_.2.2) (fun hn_ => (Kd.freshB (g := gb315) (o := .cells #[.int .i64 x316000_1, .slice none 0 0] 25 (0, 0)) (y0 BK315.out) k_ hn_))⟩)) (below_size (y3 HB.out GE314.out GE315.out))); replace BK314 := zbb BK314 hb; replace BK315 := zbb BK315 hb; replace HB := Aside0.mk (below_step (y3 HB.out GE314.out GE315.out) hb); (try clear hb); (try clear hb2); (try clear hk); (try clear hi); (try clear ho0); obtain ⟨Ao42, co42, eo42⟩ := Kd.V_slice HO319.out; subst eo42) | ((with_reducible refine gate_dst (N := 9) rfl ?_); refine zbx 9 #[.int .i64 0, .slice none 0 0] 25 ?_; intro gb323 hg w43 hbox hb; replace HO_315001 := Aside0.mk (Kd.V_below (Kd.V_elderB (y11 HO_315001.out) gb323 (Nat.le_of_eq hg.symm)) hb); replace HO319 := Aside0.mk (Kd.V_below (Kd.V_elderB (y11 HO319.out) gb323 (Nat.le_of_eq hg.symm)) hb); have BK323 := Aside0.mk hbox; have GW323 := Aside0.mk ((y16 hg HB.out GE314.out GE315.out : w.heap.size ≤ gb323)); have GE323 := Aside0.mk ((y16 hg HB.out GE314.out GE315.out : w.heap.size ≤ gb323)); replace HB := Aside0.mk (below_step (y3 HB.out GE314.out GE315.out) hb); have NB314_323 := zltn hg BK314; have NB323_314 := zgtn hg BK314; replace BK314 := zbb BK314 hb; have NB315_323 := zltn hg BK315; have NB323_315 := zgtn hg BK315; replace BK315 := zbb BK315 hb; clear hb hbox hg; have hnb44 := NB323_314.out; have hnc44 := NB314_323.out; have hnb45 := NB323_315.out; have hnc45 := NB315_323.out; have hcz46_0 := zh BK323; have hcz46_1 := zh1 BK323; have hfz46_0 := zfr BK323 0; have hfz46_1 := zfr BK323 1; have hcz47_0 := zh BK315; have hcz47_1 := zh1 BK315; have hfz47_0 := zfr BK315 0; have hfz47_1 := zfr BK315 1))
       refine bodyPost_ret (results_ct rfl _ _ gb315 25 #[.int .i64 0, .slice none 0 0] (0, 0) _ rfl (by (with_reducible repeat (first | refine blk_drewN ?_ _ | refine blk_drew ?_ | refine blk_alloc ?_ _)); refine blk_put (cs := #[.int .i64 0, .slice none 0 0]) ?_ 1 _ rfl; (with_reducible repeat (first | refine blk_drewN ?_ _ | refine blk_drew ?_ | refine blk_alloc ?_ _)); apply blk_put (i := 0); (case h => exact y0 BK315.out); (case e => rfl)) Try.underlying25 rfl (by kernel_rfl)) rfl ?_
       exact ⟨_, y15, Kd.V_nil _ _ _ _ _, (y4 HB.out GE314.out GE315.out GE323.out)⟩
     ·rw [if_neg c7] at H
      exact absurd H (by simp)
    ·rw [if_neg c6] at H
     exact absurd H (by simp)
   ·rw [if_neg c5] at H
    have c5b0 : decide (x12_1 < (l1.length : Int)) = false := decide_eq_false c5
    clear c5
    simp only [Option.some.injEq, Prod.mk.injEq] at H
    obtain ⟨rfl, rfl, rfl⟩ := H
    have hnb48 := NB314_315.out
    have hnc48 := NB315_314.out
    have hcz49_0 := zh BK314
    have hcz49_1 := zh1 BK314
    have hfz49_0 := zfr BK314 0
    have hfz49_1 := zfr BK314 1
    have hcz50_0 := zh BK315
    have hcz50_1 := zh1 BK315
    have hfz50_0 := zfr BK315 0
    have hfz50_1 := zfr BK315 1
    obtain ⟨Ao51, co51, eo51⟩ := Kd.V_slice HO_315001.out
    subst eo51
    go_wp2
    refine bodyPost_ret (results_ct rfl _ _ gb315 25 #[.int .i64 x315000_1, .slice Ao51 x315001_1.length co51] (0, 0) _ rfl (by (with_reducible repeat (first | refine blk_drewN ?_ _ | refine blk_drew ?_ | refine blk_alloc ?_ _)); refine blk_put (cs := #[.int .i64 x315000_1, .slice none 0 0]) ?_ 1 _ rfl; (with_reducible repeat (first | refine blk_drewN ?_ _ | refine blk_drew ?_ | refine blk_alloc ?_ _)); apply blk_put (i := 0); (case h => exact y0 BK315.out); (case e => rfl)) Try.underlying25 rfl (by kernel_rfl)) rfl ?_
    exact ⟨_, y15, (by (with_reducible repeat (first | apply Kd.V_alloc | apply Kd.V_drewN | apply Kd.V_drew)); exact Kd.V_mono (Kd.V_far (p := ⟨gb315, 1, none⟩) (Kd.V_far (p := ⟨gb315, 0, none⟩) (Kd.V_mono HO_315001.out (fun k_ hk => (⟨hk, hk.2.2⟩ : _ ∧ k_ ≠ gb315))) (fun _ hk => hk.2) (.int .i64 x315000_1)) (fun _ hk => hk.2) (.slice Ao51 x315001_1.length co51)) (fun _ hk => hk.1.1)), (y3 HB.out GE314.out GE315.out)⟩
end Go.Proofs.Ythfflieeifakdaa.PA
end
section
namespace Go.Proofs.Ythfflieeifakdaa.PA
open Go.RowKit Go.Proofs.YthfflieeifakdaaW.PrintWords Go.Proofs.YthfflieeifakdaaW.PrintLast Go.Proofs.YthfflieeifakdaaW.PrintMore
attribute [local go_sem] max2_int min2_int max_two min_two max_three min_three max_four min_four
set_option linter.unusedVariables false
set_option linter.unusedSimpArgs false
def impl_valCopy.f : Nat → Int → List (S25) → Option (Int × (List (S25)))
 | 0, _, _ => none
 | k + 1, a0_0, l0_1 => if (l0_1.length : Int) = 0 then (some (a0_0, ([] : List (S25)))) else (if 0 < (l0_1.length : Int) then ((impl_valCopy.f k ((rd_T25 l0_1 0).f0) ((rd_T25 l0_1 0).f1)).bind fun bt327 => (if 1 < (l0_1.length : Int) then ((impl_valCopy.f k ((rd_T25 l0_1 1).f0) ((rd_T25 l0_1 1).f1)).bind fun bt332 => (some (0, (([(⟨bt327.1, bt327.2⟩ : S25), (⟨bt332.1, bt332.2⟩ : S25)] : List (S25)))))) else (none))) else (none))
theorem impl_valCopy.mono_l : ∀ k, (∀ y0 y1, LeO (impl_valCopy.f k y0 y1) (impl_valCopy.f (k + 1) y0 y1))
 | 0 => fun _ _ r h => by simp [impl_valCopy.f] at h
 | k + 1 => by
  have ih0 := impl_valCopy.mono_l k
  ·intro y0 y1
   unfold impl_valCopy.f
   repeat' first
   | (with_reducible exact ih0 _ _)
   | (with_reducible exact LeO.refl _)
   | (with_reducible exact LeO.none _)
   | (with_reducible refine LeO.ite ?_ ?_)
   | (with_reducible refine LeO.bind ?_ (fun _ => ?_))
   | exact ih0 _ _
   | exact LeO.none _
   | refine LeO.ite ?_ ?_
   | refine LeO.bind ?_ (fun _ => ?_)
theorem impl_valCopy.mono : ∀ a0 a1 k, LeO (impl_valCopy.f k a0 a1) (impl_valCopy.f (k + 1) a0 a1) := by
 intro a0 a1 k
 have ih0 := impl_valCopy.mono_l k
 exact ih0 a0 a1
def impl_valCopy.T3 : Bool × List (List Nat × List Nat) := (true, [([], []), ([0], [0]), ([1], [1]), ([2], [2]), ([3], [3]), ([], []), ([5], [5]), ([6], [6]), ([7], [7]), ([8, 4], [8]), ([4, 9], [4, 9]), ([10], [10]), ([11, 9, 0, 1, 2, 3, 4, 5, 6, 7, 8, 9, 10, 11], [11])])
def impl_valCopy.B3 : List Nat := [0, 1, 3, 7, 15, 0, 32, 96, 224, 511, 1023, 2047, 4095]
theorem impl_valCopy.tab3 : rtab .any (opsOf Try.f40 3) = impl_valCopy.T3 := by kernel_rfl
theorem impl_valCopy.bits3 : waitsOk impl_valCopy.T3.2 impl_valCopy.B3 = true := by kernel_rfl
set_option maxHeartbeats 8000000 in
set_option maxRecDepth 100000 in
theorem impl_valCopy.calls (k : Nat) : ∀ (a0_0 : Int) (A0_1 : Option Addr) (c0_1 : Nat) (l0_1 : List (S25)) (r1 : Int) (r2 : List (S25)) (w : World) (hr0_1 : Kd.C k25 w A0_1 l0_1.length l0_1) (hc0_1 : l0_1.length ≤ c0_1) (h : impl_valCopy.f k a0_0 l0_1 = some (r1, r2)),
  Calls Try.prog 40 #[.agg #[.int .i64 a0_0, .slice A0_1 l0_1.length c0_1]] w fun e w' => ∃ v1_ : Value, e = .returned (.agg #[.int .i64 r1, v1_]) ∧ Kd.N k25 25 w' w.heap.size (fun k_ => (w.heap.size ≤ k_)) v1_ r2 ∧ Below w.heap.size w w' := by
 induction k using Nat.strongRecOn with
 | _ k ih =>
 intro a0_0 A0_1 c0_1 l0_1 r1 r2 w hr0_1 hc0_1 h
 cases k with
 | zero => exact absurd h (by simp [impl_valCopy.f])
 | succ k =>
 simp only [impl_valCopy.f] at h
 have hu25 := Try.underlying25
 have HR0_1 := Aside0.mk hr0_1
 have HC0_1 := Aside0.mk hc0_1
 clear hr0_1 hc0_1
 have HB := Aside0.mk (Below.refl w.heap.size w)
 have H : (if (l0_1.length : Int) = 0 then (some (a0_0, ([] : List (S25)))) else (if 0 < (l0_1.length : Int) then ((impl_valCopy.f k ((rd_T25 l0_1 0).f0) ((rd_T25 l0_1 0).f1)).bind fun bt327 => (if 1 < (l0_1.length : Int) then ((impl_valCopy.f k ((rd_T25 l0_1 1).f0) ((rd_T25 l0_1 1).f1)).bind fun bt332 => (some (0, (([(⟨bt327.1, bt327.2⟩ : S25), (⟨bt332.1, bt332.2⟩ : S25)] : List (S25)))))) else (none))) else (none))) = some (r1, r2) := h
 clear h
 have HZ2 := Aside0.mk H
 clear H
 go_enter Try.func40, Try.ntmps40
 go_upto_if 6 with (first | ((with_reducible refine gate_dst (N := 1) rfl ?_); refine zbx 1 #[.int .i64 a0_0, .slice A0_1 l0_1.length c0_1] 25 ?_; intro gb324 hg w3 hbox hb; have BK324 := Aside0.mk hbox; have GW324 := Aside0.mk ((y10 hg HB.out : w.heap.size ≤ gb324)); have GE324 := Aside0.mk ((y10 hg HB.out : w.heap.size ≤ gb324)); replace HB := Aside0.mk (below_step (y6 HB.out) hb); clear hb hbox hg) | ((with_reducible refine gate_dst (N := 2) rfl ?_); refine zbx 2 #[.int .i64 0, .slice none 0 0] 25 ?_; intro gb325 hg w4 hbox hb; have BK325 := Aside0.mk hbox; have GW325 := Aside0.mk ((y12 hg HB.out GE324.out : w.heap.size ≤ gb325)); have GE325 := Aside0.mk ((y12 hg HB.out GE324.out : w.heap.size ≤ gb325)); replace HB := Aside0.mk (below_step (y7 HB.out GE324.out) hb); have NB324_325 := zltn hg BK324; have NB325_324 := zgtn hg BK324; replace BK324 := zbb BK324 hb; clear hb hbox hg; have hnb5 := NB324_325.out; have hnc5 := NB325_324.out; have hcz6_0 := zh BK324; have hcz6_1 := zh1 BK324; have hfz6_0 := zfr BK324 0; have hfz6_1 := zfr BK324 1))
 (try simp only [Act.put, List.setIfInBounds_toArray, List.set_cons_zero, List.set_cons_succ])
 have H := HZ2.out
 clear HZ2
 by_cases c7 : (l0_1.length : Int) = 0
 ·rw [if_pos c7] at H
  have c7b0 : ((l0_1.length : Int) == 0) = true := beq_iff_eq.mpr c7
  have c7b1 : ((l0_1.length : Int) != 0) = false := bne_eq_false_iff_eq.mpr c7
  clear c7
  (first | rw [c7b0] | (simp only [i64_w, i32_w]; rw [c7b0]) | skip)
  simp only [Option.some.injEq, Prod.mk.injEq] at H
  obtain ⟨rfl, rfl⟩ := H
  have hnb8 := NB324_325.out
  have hnc8 := NB325_324.out
  have hcz9_0 := zh BK324
  have hcz9_1 := zh1 BK324
  have hfz9_0 := zfr BK324 0
  have hfz9_1 := zfr BK324 1
  have hcz10_0 := zh BK325
  have hcz10_1 := zh1 BK325
  have hfz10_0 := zfr BK325 0
  have hfz10_1 := zfr BK325 1
  go_wp2
  refine bodyPost_ret (results_cell_row rfl _ _ gb325 25 #[.int .i64 a0_0, .slice none 0 0] (0, 0) _ rfl (by (with_reducible repeat (first | refine blk_drewN ?_ _ | refine blk_drew ?_ | refine blk_alloc ?_ _)); refine blk_put (cs := #[.int .i64 a0_0, .slice none 0 0]) ?_ 1 _ rfl; (with_reducible repeat (first | refine blk_drewN ?_ _ | refine blk_drew ?_ | refine blk_alloc ?_ _)); apply blk_put (i := 0); (case h => exact y0 BK325.out); (case e => rfl)) Try.underlying25 rfl (by kernel_rfl)) rfl ?_
  exact ⟨_, y15, y38, (y3 HB.out GE324.out GE325.out)⟩
 ·rw [if_neg c7] at H
  have c7b0 : ((l0_1.length : Int) == 0) = false := beq_eq_false_iff_ne.mpr c7
  have c7b1 : ((l0_1.length : Int) != 0) = true := bne_iff_ne.mpr c7
  have c7b2 : ¬ (l0_1 = []) := fun h_ => c7 (by rw [h_]; rfl)
  (first | rw [c7b0] | (simp only [i64_w, i32_w]; rw [c7b0]) | skip)
  by_cases c11 : 0 < (l0_1.length : Int)
  ·rw [if_pos c11] at H
   have c11b0 : decide (0 < (l0_1.length : Int)) = true := decide_eq_true c11
   have c11b1 : decide (0 < l0_1.length) = true := decide_eq_true (by omega)
   clear c11
   obtain ⟨⟨t327, t328⟩, A120, H⟩ := ob H
   have A12 := Aside0.mk A120
   clear A120
   by_cases c13 : 1 < (l0_1.length : Int)
   ·rw [if_pos c13] at H
    have c13b0 : decide (1 < (l0_1.length : Int)) = true := decide_eq_true c13
    have c13b1 : decide (1 < l0_1.length) = true := decide_eq_true (by omega)
    clear c13
    obtain ⟨⟨t332, t333⟩, A140, H⟩ := ob H
    have A14 := Aside0.mk A140
    clear A140
    obtain ⟨y336, hy336⟩ : ∃ y_ : List (S25), y_ = (([(⟨t327, t328⟩ : S25), (⟨t332, t333⟩ : S25)] : List (S25))) := ⟨_, rfl⟩
    replace H : (some (0, y336)) = some (r1, r2) := by first | (rw [hy336]; with_reducible exact H) | (have H2_ := (Option.bind_some _ _).symm.trans H; rw [hy336]; with_reducible exact H2_) | (have H2_ := (Option.bind_some _ _).symm.trans H; with_reducible exact H2_) | with_reducible exact H | (rw [hy336]; exact H) | exact H
    have Ny336 := Aside0.mk hy336
    clear hy336
    simp only [Option.some.injEq, Prod.mk.injEq] at H
    obtain ⟨rfl, rfl⟩ := H
    try go_wp2
    replace BK324 := Aside0.mk (blk_drew BK324.out)
    replace BK325 := Aside0.mk (blk_drew BK325.out)
    replace HB := Aside0.mk (below_drew1 HB.out)
    have p326 : 0 ≤ (0 : Int) := (by omega)
    have q326 : 0 < (l0_1.length : Int) := of_decide_eq_true y23
    obtain ⟨ad326, A326_1, c326_1, e326, hx326_0, hx326_1, hl326_1, hi326_1⟩ := at_T25 HR0_1.out 0 p326 q326
    have hw326_1 := hx326_1
    (try rw [show ((0 : Int)).toNat = 0 from rfl] at hw326_1)
    (try rw [show 0 * 2 = 0 from rfl] at hw326_1)
    (try rw [Addr.add_zero'] at hw326_1)
    have hw326_0 := hx326_0
    (try rw [show ((0 : Int)).toNat = 0 from rfl] at hw326_0)
    (try rw [show 0 * 2 = 0 from rfl] at hw326_0)
    (try rw [Addr.add_zero'] at hw326_0)
    cases e326
    have qi326 : (0 < l0_1.length) = True := eq_true (by omega)
    (try rw [show ((0 : Int)).toNat = 0 from rfl] at hx326_0)
    (try rw [show 0 * 2 = 0 from rfl] at hx326_0)
    (try rw [Addr.add_zero'] at hx326_0)
    (try rw [show ((0 : Int)).toNat = 0 from rfl] at hx326_1)
    (try rw [show 0 * 2 = 0 from rfl] at hx326_1)
    (try rw [Addr.add_zero'] at hx326_1)
    replace hx326_0 := (HB.out.cell (World.block_lt_of_cell? w _ hx326_0)).trans hx326_0
    replace hx326_1 := (HB.out.cell (World.block_lt_of_cell? w _ hx326_1)).trans hx326_1
    have HR326_1 := Aside0.mk hi326_1
    have HC326_1 := Aside0.mk hl326_1
    clear hi326_1 hl326_1
    replace p326 := eq_true p326
    replace q326 := eq_true q326
    have p331 : 0 ≤ (1 : Int) := (by omega)
    have q331 : 1 < (l0_1.length : Int) := of_decide_eq_true y23
    obtain ⟨ad331, A331_1, c331_1, e331, hx331_0, hx331_1, hl331_1, hi331_1⟩ := at_T25 HR0_1.out 1 p331 q331
    have hw331_1 := hx331_1
    (try rw [show ((1 : Int)).toNat = 1 from rfl] at hw331_1)
    (try rw [show 1 * 2 = 2 from rfl] at hw331_1)
    (try simp only [Nat.reduceMul, Nat.reduceEqDiff, Go.Addr.add, ↓reduceIte] at hw331_1)
    have hw331_0 := hx331_0
    (try rw [show ((1 : Int)).toNat = 1 from rfl] at hw331_0)
    (try rw [show 1 * 2 = 2 from rfl] at hw331_0)
    (try simp only [Nat.reduceMul, Nat.reduceEqDiff, Go.Addr.add, ↓reduceIte] at hw331_0)
    obtain rfl : ad326 = ad331 := (by injection e331)
    (try simp only [show (1 : Int).toNat = 1 from rfl, Nat.reduceMul, Nat.reduceEqDiff, Go.Addr.add, ↓reduceIte] at hx331_0)
    (try simp only [show (1 : Int).toNat = 1 from rfl, Nat.reduceMul, Nat.reduceEqDiff, Go.Addr.add, ↓reduceIte] at hx331_1)
    have qi331 : (1 < l0_1.length) = True := eq_true (by omega)
    (try rw [show ((1 : Int)).toNat = 1 from rfl] at hx331_0)
    (try rw [show 1 * 2 = 2 from rfl] at hx331_0)
    (try rw [show ((1 : Int)).toNat = 1 from rfl] at hx331_1)
    (try rw [show 1 * 2 = 2 from rfl] at hx331_1)
    replace hx331_0 := (HB.out.cell (World.block_lt_of_cell? w _ hx331_0)).trans hx331_0
    replace hx331_1 := (HB.out.cell (World.block_lt_of_cell? w _ hx331_1)).trans hx331_1
    have HR331_1 := Aside0.mk hi331_1
    have HC331_1 := Aside0.mk hl331_1
    clear hi331_1 hl331_1
    replace p331 := eq_true p331
    replace q331 := eq_true q331
    refine start_ (n := 13) (S := fun w' => w'.cell? ⟨gb324, 0, none⟩ = some (.int .i64 a0_0) ∧ w'.cell? ⟨gb324, 1, none⟩ = some (.slice (some ad326) l0_1.length c0_1) ∧ w'.cell? ad326 = some (.int .i64 ((rd_T25 l0_1 0).f0)) ∧ w'.cell? ⟨ad326.block, ad326.off + 1, none⟩ = some (.slice A326_1 ((rd_T25 l0_1 0).f1).length c326_1) ∧ w'.cell? ⟨ad326.block, ad326.off + 2, none⟩ = some (.int .i64 ((rd_T25 l0_1 1).f0)) ∧ w'.cell? ⟨ad326.block, ad326.off + 2 + 1, none⟩ = some (.slice A331_1 ((rd_T25 l0_1 1).f1).length c331_1)) (ds := []) #[false, false, false, false, false, false, false, false, false, false, false, false, false] (by kernel_rfl) rfl rfl ⟨(blk_cell BK324.out 0).trans rfl, (blk_cell BK324.out 1).trans rfl, ((HB.out.cell (World.block_lt_of_cell? w _ hw326_0)).trans hw326_0), ((HB.out.cell (World.block_lt_of_cell? w _ hw326_1)).trans hw326_1), ((HB.out.cell (World.block_lt_of_cell? w _ hw331_0)).trans hw331_0), ((HB.out.cell (World.block_lt_of_cell? w _ hw331_1)).trans hw331_1)⟩ (fun hHeld => ?_); refine with_tabW impl_valCopy.tab3 impl_valCopy.bits3 (fun HT_ HW_ => ?_)
    generalize w4.drew = w15 at BK324 BK325 HB HR326_1 HR331_1 hx326_0 hx326_1 hx331_0 hx331_1 hHeld ⊢
    refine zp 0 (some 10) HT_ ?_
    refine zp 5 (some 15) HT_ ?_
    refine zt6 1 (some 11) HT_ HW_ hHeld ?_
    refine zp 2 (some 12) HT_ ?_
    refine zt6 3 (some 13) HT_ HW_ hHeld ?_
    refine zt6 6 (some 16) HT_ HW_ hHeld ?_
    refine zp 7 (some 17) HT_ ?_
    refine zt6 8 (some 18) HT_ HW_ hHeld ?_
    refine one_ (i := 4) (N := some 14) #[true, true, true, true, true, true, true, true, true, false, false, false, false] rfl rfl (one_of HT_.out (by kernel_rfl)) (by decide) (fun K hK => ?_)
    refine goes_ Try.func40 (by kernel_rfl) rfl #[.agg #[.int .i64 ((rd_T25 l0_1 0).f0), .slice A326_1 ((rd_T25 l0_1 0).f1).length c326_1]] (by rfl) rfl rfl y9 ?_
    with_reducible refine (ih k (by omega) ((rd_T25 l0_1 0).f0) _ _ ((rd_T25 l0_1 0).f1) t327 t328 _ ?side1 ?side2 A12.out).mono ?_
    (case side1 => exact y18 HR326_1.out HB.out)
    (case side2 => exact HC326_1.out)
    rintro e w16 ⟨v329, rfl, ho0, hb⟩
    refine ⟨_, rfl, ?_⟩
    have HO330 := Aside0.mk (Kd.N_lower (Kd.N_mono (ok' := fun k_ => (w.heap.size ≤ k_) ∧ k_ ≠ gb324 ∧ k_ ≠ gb325) ho0 (fun k_ hk_ => ⟨(Nat.le_trans (below_size (y3 HB.out GE324.out GE325.out)) hk_), (Kd.freshB (g := gb324) (o := .cells #[.int .i64 a0_0, .slice (some ad326) l0_1.length c0_1] 25 (0, 0)) (y0 BK324.out) k_ hk_), (Kd.freshB (g := gb325) (o := .cells #[.int .i64 0, .slice none 0 0] 25 (0, 0)) (y0 BK325.out) k_ hk_)⟩)) (below_size (y3 HB.out GE324.out GE325.out)))
    replace BK324 := zbb BK324 hb
    replace BK325 := zbb BK325 hb
    replace HB := Aside0.mk (below_step (y3 HB.out GE324.out GE325.out) hb)
    (try clear hb)
    (try clear hb2)
    (try clear hk)
    (try clear hi)
    (try clear ho0)
    refine hK.out _ _ ⟨(blk_cell BK324.out 0).trans rfl, (blk_cell BK324.out 1).trans rfl, ((HB.out.cell (World.block_lt_of_cell? w _ hw326_0)).trans hw326_0), ((HB.out.cell (World.block_lt_of_cell? w _ hw326_1)).trans hw326_1), ((HB.out.cell (World.block_lt_of_cell? w _ hw331_0)).trans hw331_0), ((HB.out.cell (World.block_lt_of_cell? w _ hw331_1)).trans hw331_1)⟩ (fun hHeld => ?_)
    clear hK K
    refine norm_ (a' := ?_) ?_ ?_
    rotate_left
    ·show Act.put _ (some 14) _ = _
     simp only [Act.put, List.setIfInBounds_toArray, List.set_cons_zero, List.set_cons_succ, i64_w, i32_w]
     rfl
    refine one_ (i := 9) (N := some 19) #[true, true, true, true, true, true, true, true, true, true, false, false, false] rfl rfl (one_of HT_.out (by kernel_rfl)) (by decide) (fun K hK => ?_)
    refine goes_ Try.func40 (by kernel_rfl) rfl #[.agg #[.int .i64 ((rd_T25 l0_1 1).f0), .slice A331_1 ((rd_T25 l0_1 1).f1).length c331_1]] (by rfl) rfl rfl y9 ?_
    with_reducible refine (ih k (by omega) ((rd_T25 l0_1 1).f0) _ _ ((rd_T25 l0_1 1).f1) t332 t333 _ ?side1 ?side2 A14.out).mono ?_
    (case side1 => exact y18 HR331_1.out HB.out)
    (case side2 => exact HC331_1.out)
    rintro e w17 ⟨v334, rfl, ho0, hb⟩
    refine ⟨_, rfl, ?_⟩
    have HO335 := Aside0.mk (Kd.N_lower (Kd.N_mono (ok' := fun k_ => (w.heap.size ≤ k_) ∧ some k_ ≠ (v329 : Value).ownBlock ∧ k_ ≠ gb324 ∧ k_ ≠ gb325) ho0 (fun k_ hk_ => ⟨(Nat.le_trans (below_size (y3 HB.out GE324.out GE325.out)) hk_), (Kd.fresh' (Kd.N_lt (y2 HO330.out)) k_ hk_), (Kd.freshB (g := gb324) (o := .cells #[.int .i64 a0_0, .slice (some ad326) l0_1.length c0_1] 25 (0, 0)) (y0 BK324.out) k_ hk_), (Kd.freshB (g := gb325) (o := .cells #[.int .i64 0, .slice none 0 0] 25 (0, 0)) (y0 BK325.out) k_ hk_)⟩)) (below_size (y3 HB.out GE324.out GE325.out)))
    replace HO330 := Aside0.mk (Kd.N_elder' (y2 HO330.out) (Kd.N_base ho0) hb)
    replace BK324 := zbb BK324 hb
    replace BK325 := zbb BK325 hb
    replace HB := Aside0.mk (below_step (y3 HB.out GE324.out GE325.out) hb)
    (try clear hb)
    (try clear hb2)
    (try clear hk)
    (try clear hi)
    (try clear ho0)
    obtain ⟨Ao18, co18, eo18⟩ := Kd.N_slice HO330.out
    (first | subst eo18 | (injection eo18 with f1_ f2_ f3_; have f4_ := f1_.symm; have f5_ := f3_.symm; clear f1_ f2_ f3_; subst f4_; subst f5_))
    obtain ⟨Ao19, co19, eo19⟩ := Kd.N_slice HO335.out
    (first | subst eo19 | (injection eo19 with f1_ f2_ f3_; have f4_ := f1_.symm; have f5_ := f3_.symm; clear f1_ f2_ f3_; subst f4_; subst f5_))
    refine hK.out _ _ ⟨(blk_cell BK324.out 0).trans rfl, (blk_cell BK324.out 1).trans rfl, ((HB.out.cell (World.block_lt_of_cell? w _ hw326_0)).trans hw326_0), ((HB.out.cell (World.block_lt_of_cell? w _ hw326_1)).trans hw326_1), ((HB.out.cell (World.block_lt_of_cell? w _ hw331_0)).trans hw331_0), ((HB.out.cell (World.block_lt_of_cell? w _ hw331_1)).trans hw331_1)⟩ (fun hHeld => ?_)
    clear hK K
    refine norm_ (a' := ?_) ?_ ?_
    rotate_left
    ·show Act.put _ (some 19) _ = _
     simp only [Act.put, List.setIfInBounds_toArray, List.set_cons_zero, List.set_cons_succ, i64_w, i32_w]
     rfl
    refine one_ (i := 10) (N := some 20) #[true, true, true, true, true, true, true, true, true, true, true, false, false] rfl rfl (one_of HT_.out (by kernel_rfl)) (by decide) (fun K hK => ?_)
    refine Kd.N_lit_step k25 _ 25 ?hg (N' := 20) ?hd (xs := ([(⟨t327, t328⟩ : S25), (⟨t332, t333⟩ : S25)] : List (S25))) (inner := [.int .i64 t327, .slice Ao18 t328.length co18, .int .i64 t332, .slice Ao19 t333.length co19]) (ok := (fun k_ => (w.heap.size ≤ k_) ∧ k_ ≠ gb324 ∧ k_ ≠ gb325)) (okp := (fun k_ => (w.heap.size ≤ k_) ∧ k_ ≠ gb324 ∧ k_ ≠ gb325)) ?hr ?hp (fun _ hk => hk) ((show ∀ k_, w17.heap.size ≤ k_ → (fun k_ => (w.heap.size ≤ k_) ∧ k_ ≠ gb324 ∧ k_ ≠ gb325) k_ from fun k_ hk => ⟨(Nat.le_trans (below_size (y3 HB.out GE324.out GE325.out)) hk), Kd.freshB (g := gb324) (o := .cells #[.int .i64 a0_0, .slice (some ad326) l0_1.length c0_1] 25 (0, 0)) (y0 BK324.out) k_ hk, Kd.freshB (g := gb325) (o := .cells #[.int .i64 0, .slice none 0 0] 25 (0, 0)) (y0 BK325.out) k_ hk⟩) _ (Nat.le_refl _)) (Below.refl _ _) (Nat.le_refl _) (by simp) ?_; (case hd => rfl); (case hg => rfl); (case hr => first | (go_simp; done) | (go_simp; rfl)); (case hp => exact (Reps.c2 (show Kd.FK k25 _ _ (⟨t327, t328⟩ : S25) [.int .i64 t327, .slice Ao18 t328.length co18] from (k25_mkF _ _ (⟨t327, t328⟩ : S25) (Kd.N_reads' (Kd.N_mono (ok' := (fun k_ => (w.heap.size ≤ k_) ∧ k_ ≠ gb324 ∧ k_ ≠ gb325)) (HO330.out) (fun k_ hk => ⟨hk.1.1, ⟨hk.1.2.1, hk.1.2.2⟩⟩))).2.1 (Kd.N_F (Kd.N_mono (ok' := (fun k_ => (w.heap.size ≤ k_) ∧ k_ ≠ gb324 ∧ k_ ≠ gb325)) (HO330.out) (fun k_ hk => ⟨hk.1.1, ⟨hk.1.2.1, hk.1.2.2⟩⟩))))) (Reps.c2 (show Kd.FK k25 _ _ (⟨t332, t333⟩ : S25) [.int .i64 t332, .slice Ao19 t333.length co19] from (k25_mkF _ _ (⟨t332, t333⟩ : S25) (Kd.N_reads' (Kd.N_mono (ok' := (fun k_ => (w.heap.size ≤ k_) ∧ k_ ≠ gb324 ∧ k_ ≠ gb325)) (HO335.out) (fun k_ hk => ⟨hk.1, ⟨hk.2.2.1, hk.2.2.2⟩⟩))).2.1 (Kd.N_F (Kd.N_mono (ok' := (fun k_ => (w.heap.size ≤ k_) ∧ k_ ≠ gb324 ∧ k_ ≠ gb325)) (HO335.out) (fun k_ hk => ⟨hk.1, ⟨hk.2.2.1, hk.2.2.2⟩⟩))))) (Reps.none _ _))))
    intro v337 w20 ho21 hb hg_ hnew_
    clear hg_ hnew_
    (first | rw [← Ny336.out] at ho21 | (simp only [Int.reduceToNat] at ho21; rw [← Ny336.out] at ho21))
    have HO338 := Aside0.mk (Kd.N_lower ho21 (below_size (y3 HB.out GE324.out GE325.out)))
    replace BK324 := zbb BK324 hb
    replace BK325 := zbb BK325 hb
    replace HB := Aside0.mk (below_step (y3 HB.out GE324.out GE325.out) hb)
    clear HO330 HO335
    clear hb ho21
    obtain ⟨Ao22, co22, eo22⟩ := Kd.N_slice HO338.out
    (first | subst eo22 | (injection eo22 with f1_ f2_ f3_; have f4_ := f1_.symm; have f5_ := f3_.symm; clear f1_ f2_ f3_; subst f4_; subst f5_))
    refine hK.out _ _ ⟨(blk_cell BK324.out 0).trans rfl, (blk_cell BK324.out 1).trans rfl, ((HB.out.cell (World.block_lt_of_cell? w _ hw326_0)).trans hw326_0), ((HB.out.cell (World.block_lt_of_cell? w _ hw326_1)).trans hw326_1), ((HB.out.cell (World.block_lt_of_cell? w _ hw331_0)).trans hw331_0), ((HB.out.cell (World.block_lt_of_cell? w _ hw331_1)).trans hw331_1)⟩ (fun hHeld => ?_)
    clear hK K
    refine norm_ (a' := ?_) ?_ ?_
    rotate_left
    ·show Act.put _ (some 20) _ = _
     simp only [Act.put, List.setIfInBounds_toArray, List.set_cons_zero, List.set_cons_succ, i64_w, i32_w]
     rfl
    refine zp 11 (some 21) HT_ ?_
    refine one_ (i := 12) (N := none) #[true, true, true, true, true, true, true, true, true, true, true, true, true] rfl rfl (one_of HT_.out (by kernel_rfl)) (by decide) (fun K hK => ?_)
    have hs23 : w20.cell? ⟨gb325, 0, none⟩ = some (.int .i64 0) := (blk_cell BK325.out 0).trans rfl
    have hfs23 := zfr BK325 0
    have hns23_0 := NB324_325.out
    have hms23_0 := NB325_324.out
    have hs24 : w20.cell? ⟨gb325, 1, none⟩ = some (.slice none 0 0) := (blk_cell BK325.out 1).trans rfl
    have hfs24 := zfr BK325 1
    have hns24_0 := NB324_325.out
    have hms24_0 := NB325_324.out
    refine skip_ (w1 := ?_) (by rfl) rfl ?_ ?_
    rotate_left
    ·go_simp
     rfl
    refine hK.out _ _ ⟨((cell_far (p := ⟨gb325, _, none⟩) NB324_325.out _).trans (((cell_far (p := ⟨gb325, _, none⟩) NB324_325.out _).trans (hHeld.1)))), ((cell_far (p := ⟨gb325, _, none⟩) NB324_325.out _).trans (((cell_far (p := ⟨gb325, _, none⟩) NB324_325.out _).trans (hHeld.2.1)))), ((cell_far (p := ⟨gb325, _, none⟩) (by first | exact Nat.ne_of_lt (Nat.lt_of_lt_of_le (by have := World.block_lt_of_cell? _ _ hw326_0; first | rwa [add_block] at this | exact this) GW325.out) | (rw [add_block]; exact Nat.ne_of_lt (Nat.lt_of_lt_of_le (by have := World.block_lt_of_cell? _ _ hw326_0; first | rwa [add_block] at this | exact this) GW325.out)) | (show (Addr.add _ _).block ≠ _; rw [add_block]; exact Nat.ne_of_lt (Nat.lt_of_lt_of_le (by have := World.block_lt_of_cell? _ _ hw326_0; first | rwa [add_block] at this | exact this) GW325.out)) | (dsimp only; exact Nat.ne_of_lt (Nat.lt_of_lt_of_le (by have := World.block_lt_of_cell? _ _ hw326_0; first | rwa [add_block] at this | exact this) GW325.out))) _).trans (((cell_far (p := ⟨gb325, _, none⟩) (by first | exact Nat.ne_of_lt (Nat.lt_of_lt_of_le (by have := World.block_lt_of_cell? _ _ hw326_0; first | rwa [add_block] at this | exact this) GW325.out) | (rw [add_block]; exact Nat.ne_of_lt (Nat.lt_of_lt_of_le (by have := World.block_lt_of_cell? _ _ hw326_0; first | rwa [add_block] at this | exact this) GW325.out)) | (show (Addr.add _ _).block ≠ _; rw [add_block]; exact Nat.ne_of_lt (Nat.lt_of_lt_of_le (by have := World.block_lt_of_cell? _ _ hw326_0; first | rwa [add_block] at this | exact this) GW325.out)) | (dsimp only; exact Nat.ne_of_lt (Nat.lt_of_lt_of_le (by have := World.block_lt_of_cell? _ _ hw326_0; first | rwa [add_block] at this | exact this) GW325.out))) _).trans (hHeld.2.2.1)))), ((cell_far (p := ⟨gb325, _, none⟩) (by first | exact Nat.ne_of_lt (Nat.lt_of_lt_of_le (by have := World.block_lt_of_cell? _ _ hw326_1; first | rwa [add_block] at this | exact this) GW325.out) | (rw [add_block]; exact Nat.ne_of_lt (Nat.lt_of_lt_of_le (by have := World.block_lt_of_cell? _ _ hw326_1; first | rwa [add_block] at this | exact this) GW325.out)) | (show (Addr.add _ _).block ≠ _; rw [add_block]; exact Nat.ne_of_lt (Nat.lt_of_lt_of_le (by have := World.block_lt_of_cell? _ _ hw326_1; first | rwa [add_block] at this | exact this) GW325.out)) | (dsimp only; exact Nat.ne_of_lt (Nat.lt_of_lt_of_le (by have := World.block_lt_of_cell? _ _ hw326_1; first | rwa [add_block] at this | exact this) GW325.out))) _).trans (((cell_far (p := ⟨gb325, _, none⟩) (by first | exact Nat.ne_of_lt (Nat.lt_of_lt_of_le (by have := World.block_lt_of_cell? _ _ hw326_1; first | rwa [add_block] at this | exact this) GW325.out) | (rw [add_block]; exact Nat.ne_of_lt (Nat.lt_of_lt_of_le (by have := World.block_lt_of_cell? _ _ hw326_1; first | rwa [add_block] at this | exact this) GW325.out)) | (show (Addr.add _ _).block ≠ _; rw [add_block]; exact Nat.ne_of_lt (Nat.lt_of_lt_of_le (by have := World.block_lt_of_cell? _ _ hw326_1; first | rwa [add_block] at this | exact this) GW325.out)) | (dsimp only; exact Nat.ne_of_lt (Nat.lt_of_lt_of_le (by have := World.block_lt_of_cell? _ _ hw326_1; first | rwa [add_block] at this | exact this) GW325.out))) _).trans (hHeld.2.2.2.1)))), ((cell_far (p := ⟨gb325, _, none⟩) (by first | exact Nat.ne_of_lt (Nat.lt_of_lt_of_le (by have := World.block_lt_of_cell? _ _ hw331_0; first | rwa [add_block] at this | exact this) GW325.out) | (rw [add_block]; exact Nat.ne_of_lt (Nat.lt_of_lt_of_le (by have := World.block_lt_of_cell? _ _ hw331_0; first | rwa [add_block] at this | exact this) GW325.out)) | (show (Addr.add _ _).block ≠ _; rw [add_block]; exact Nat.ne_of_lt (Nat.lt_of_lt_of_le (by have := World.block_lt_of_cell? _ _ hw331_0; first | rwa [add_block] at this | exact this) GW325.out)) | (dsimp only; exact Nat.ne_of_lt (Nat.lt_of_lt_of_le (by have := World.block_lt_of_cell? _ _ hw331_0; first | rwa [add_block] at this | exact this) GW325.out))) _).trans (((cell_far (p := ⟨gb325, _, none⟩) (by first | exact Nat.ne_of_lt (Nat.lt_of_lt_of_le (by have := World.block_lt_of_cell? _ _ hw331_0; first | rwa [add_block] at this | exact this) GW325.out) | (rw [add_block]; exact Nat.ne_of_lt (Nat.lt_of_lt_of_le (by have := World.block_lt_of_cell? _ _ hw331_0; first | rwa [add_block] at this | exact this) GW325.out)) | (show (Addr.add _ _).block ≠ _; rw [add_block]; exact Nat.ne_of_lt (Nat.lt_of_lt_of_le (by have := World.block_lt_of_cell? _ _ hw331_0; first | rwa [add_block] at this | exact this) GW325.out)) | (dsimp only; exact Nat.ne_of_lt (Nat.lt_of_lt_of_le (by have := World.block_lt_of_cell? _ _ hw331_0; first | rwa [add_block] at this | exact this) GW325.out))) _).trans (hHeld.2.2.2.2.1)))), ((cell_far (p := ⟨gb325, _, none⟩) (by first | exact Nat.ne_of_lt (Nat.lt_of_lt_of_le (by have := World.block_lt_of_cell? _ _ hw331_1; first | rwa [add_block] at this | exact this) GW325.out) | (rw [add_block]; exact Nat.ne_of_lt (Nat.lt_of_lt_of_le (by have := World.block_lt_of_cell? _ _ hw331_1; first | rwa [add_block] at this | exact this) GW325.out)) | (show (Addr.add _ _).block ≠ _; rw [add_block]; exact Nat.ne_of_lt (Nat.lt_of_lt_of_le (by have := World.block_lt_of_cell? _ _ hw331_1; first | rwa [add_block] at this | exact this) GW325.out)) | (dsimp only; exact Nat.ne_of_lt (Nat.lt_of_lt_of_le (by have := World.block_lt_of_cell? _ _ hw331_1; first | rwa [add_block] at this | exact this) GW325.out))) _).trans (((cell_far (p := ⟨gb325, _, none⟩) (by first | exact Nat.ne_of_lt (Nat.lt_of_lt_of_le (by have := World.block_lt_of_cell? _ _ hw331_1; first | rwa [add_block] at this | exact this) GW325.out) | (rw [add_block]; exact Nat.ne_of_lt (Nat.lt_of_lt_of_le (by have := World.block_lt_of_cell? _ _ hw331_1; first | rwa [add_block] at this | exact this) GW325.out)) | (show (Addr.add _ _).block ≠ _; rw [add_block]; exact Nat.ne_of_lt (Nat.lt_of_lt_of_le (by have := World.block_lt_of_cell? _ _ hw331_1; first | rwa [add_block] at this | exact this) GW325.out)) | (dsimp only; exact Nat.ne_of_lt (Nat.lt_of_lt_of_le (by have := World.block_lt_of_cell? _ _ hw331_1; first | rwa [add_block] at this | exact this) GW325.out))) _).trans (hHeld.2.2.2.2.2))))⟩ (fun hHeld => ?_)
    clear hK K
    refine done_ (done_of HT_.out (by kernel_rfl)) ?_
    try go_wp2
    refine bodyPost_ret (results_cell_row rfl _ _ gb325 25 #[.int .i64 0, .slice Ao22 y336.length co22] (0, 0) _ rfl (by (with_reducible repeat (first | refine blk_drewN ?_ _ | refine blk_drew ?_ | refine blk_alloc ?_ _)); refine blk_put (cs := #[.int .i64 0, .slice none 0 0]) ?_ 1 _ rfl; (with_reducible repeat (first | refine blk_drewN ?_ _ | refine blk_drew ?_ | refine blk_alloc ?_ _)); apply blk_put (i := 0); (case h => exact y0 BK325.out); (case e => rfl)) Try.underlying25 rfl (by kernel_rfl)) rfl ?_
    exact ⟨_, y15, (by (with_reducible repeat (first | apply Kd.N_alloc | apply Kd.N_drewN | apply Kd.N_drew)); exact Kd.N_mono (Kd.N_far (p := ⟨gb325, 1, none⟩) (Kd.N_far (p := ⟨gb325, 0, none⟩) (Kd.N_mono HO338.out (fun k_ hk => (⟨hk, hk.2.2⟩ : _ ∧ k_ ≠ gb325))) (fun _ hk => hk.2) (.int .i64 0)) (fun _ hk => hk.2) (.slice Ao22 y336.length co22)) (fun _ hk => hk.1.1)), (y3 HB.out GE324.out GE325.out)⟩
   ·rw [if_neg c13] at H
    exact absurd H (by simp)
  ·rw [if_neg c11] at H
   exact absurd H (by simp)
end Go.Proofs.Ythfflieeifakdaa.PA
end
section
namespace Go.Proofs.Ythfflieeifakdaa.PA
open Go.RowKit Go.Proofs.YthfflieeifakdaaW.PrintWords Go.Proofs.YthfflieeifakdaaW.PrintLast Go.Proofs.YthfflieeifakdaaW.PrintMore
attribute [local go_sem] max2_int min2_int max_two min_two max_three min_three max_four min_four
set_option linter.unusedVariables false
set_option linter.unusedSimpArgs false
def impl_ValAt.f (k : Nat) (a0_0 : Int) (l0_1 : List (S25)) (l1 : List Int) : Option (Int × (List (S25)) × Bool) := (impl_valTyped.f k a0_0 l0_1).bind fun bt358 => (if bt358.2 = true then ((impl_Val.f k a0_0 l0_1 l1).bind fun bt363 => (if bt363.2.2 = true then ((impl_valCopy.f k bt363.1 bt363.2.1).bind fun bt369 => (some (bt369.1, bt369.2, true))) else (some (0, ([] : List (S25)), false)))) else (some (0, ([] : List (S25)), false)))
theorem impl_ValAt.mono : ∀ a0 a1 a2 k, LeO (impl_ValAt.f k a0 a1 a2) (impl_ValAt.f (k + 1) a0 a1 a2) := by
 intro a0 a1 a2 k
 unfold impl_ValAt.f
 repeat' first
   | (with_reducible exact impl_Val.mono _ _ _ _)
   | (with_reducible exact impl_valCopy.mono _ _ _)
   | (with_reducible exact impl_valTyped.mono _ _ _)
   | (with_reducible exact LeO.refl _)
   | (with_reducible exact LeO.none _)
   | (with_reducible refine LeO.ite ?_ ?_)
   | (with_reducible refine LeO.bind ?_ (fun _ => ?_))
   | exact impl_Val.mono _ _ _ _
   | exact impl_valCopy.mono _ _ _
   | exact impl_valTyped.mono _ _ _
   | exact LeO.none _
   | refine LeO.ite ?_ ?_
   | refine LeO.bind ?_ (fun _ => ?_)
set_option maxHeartbeats 8000000 in
set_option maxRecDepth 100000 in
theorem impl_ValAt.calls (k : Nat) (a0_0 : Int) (P0_1_ : Nat → Prop) (A0_1 : Option Addr) (c0_1 : Nat) (l0_1 : List (S25)) (A1 : Option Addr) (c1 : Nat) (l1 : List Int) (r1 : Int) (r2 : List (S25)) (r3 : Bool) (w : World) (hs0_1 : Kd.V k25 25 w w.heap.size (fun k_ => P0_1_ k_) (.slice A0_1 l0_1.length c0_1) l0_1) (hr1 : Kd.C (Kd.int .i64) w A1 l1.length l1) (hc1 : l1.length ≤ c1) (h : impl_ValAt.f k a0_0 l0_1 l1 = some (r1, r2, r3)) :
  Calls Try.prog 14 #[.agg #[.int .i64 a0_0, .slice A0_1 l0_1.length c0_1], .slice A1 l1.length c1] w fun e w' => ∃ v1_ : Value, e = .returned (.tuple #[.agg #[.int .i64 r1, v1_], .bool r3]) ∧ Kd.N k25 25 w' w.heap.size (fun k_ => (P0_1_ k_ ∨ w.heap.size ≤ k_)) v1_ r2 ∧ Below w.heap.size w w' := by
 have hu25 := Try.underlying25
 have hu50 := Try.underlying50
 have HO0_1 := Aside0.mk (show Kd.V k25 25 w w.heap.size (fun k_ => (P0_1_ k_ ∨ w.heap.size ≤ k_)) (.slice A0_1 l0_1.length c0_1) l0_1 from Kd.V_mono hs0_1 (fun k_ hk => .inl hk))
 have HR1 := Aside0.mk hr1
 have HC1 := Aside0.mk hc1
 clear hr1 hc1
 have HB := Aside0.mk (Below.refl w.heap.size w)
 have H : ((impl_valTyped.f k a0_0 l0_1).bind fun bt358 => (if bt358.2 = true then ((impl_Val.f k a0_0 l0_1 l1).bind fun bt363 => (if bt363.2.2 = true then ((impl_valCopy.f k bt363.1 bt363.2.1).bind fun bt369 => (some (bt369.1, bt369.2, true))) else (some (0, ([] : List (S25)), false)))) else (some (0, ([] : List (S25)), false)))) = some (r1, r2, r3) := h
 clear h
 obtain ⟨⟨t358, t361⟩, A30, H⟩ := ob H
 have A3 := Aside0.mk A30
 clear A30
 by_cases c4 : t361 = true
 ·subst c4
  rw [if_pos rfl] at H
  obtain ⟨⟨t363, t364, t367⟩, A50, H⟩ := ob H
  have A5 := Aside0.mk A50
  clear A50
  by_cases c6 : t367 = true
  ·subst c6
   rw [if_pos rfl] at H
   obtain ⟨⟨t369, t370⟩, A70, H⟩ := ob H
   have A7 := Aside0.mk A70
   clear A70
   simp only [Option.some.injEq, Prod.mk.injEq] at H
   obtain ⟨rfl, rfl, rfl⟩ := H
   go_enter Try.func14, Try.ntmps14
   go_wp2_with (first | ((with_reducible refine gate_dst (N := 2) rfl ?_); refine zbx 2 #[.int .i64 a0_0, .slice A0_1 l0_1.length c0_1] 25 ?_; intro gb356 hg w8 hbox hb; replace HO0_1 := Aside0.mk (Kd.V_below (Kd.V_elderB (y11 HO0_1.out) gb356 (Nat.le_of_eq hg.symm)) hb); have BK356 := Aside0.mk hbox; have GW356 := Aside0.mk ((y10 hg HB.out : w.heap.size ≤ gb356)); have GE356 := Aside0.mk ((y10 hg HB.out : w.heap.size ≤ gb356)); replace HB := Aside0.mk (below_step (y6 HB.out) hb); clear hb hbox hg) | ((with_reducible refine gate_dst (N := 4) rfl ?_); refine zbx 4 #[.int .i64 0, .slice none 0 0] 25 ?_; intro gb357 hg w9 hbox hb; replace HO0_1 := Aside0.mk (Kd.V_below (Kd.V_elderB (y11 HO0_1.out) gb357 (Nat.le_of_eq hg.symm)) hb); have BK357 := Aside0.mk hbox; have GW357 := Aside0.mk ((y12 hg HB.out GE356.out : w.heap.size ≤ gb357)); have GE357 := Aside0.mk ((y12 hg HB.out GE356.out : w.heap.size ≤ gb357)); replace HB := Aside0.mk (below_step (y7 HB.out GE356.out) hb); have NB356_357 := zltn hg BK356; have NB357_356 := zgtn hg BK356; replace BK356 := zbb BK356 hb; clear hb hbox hg; have hnb10 := NB356_357.out; have hnc10 := NB357_356.out; have hcz11_0 := zh BK356; have hcz11_1 := zh1 BK356; have hfz11_0 := zfr BK356 0; have hfz11_1 := zfr BK356 1) | ((with_reducible refine gate_callee (f := 38) rfl ?_); refine goesL_ (some 12) rfl rfl Try.func38 (by kernel_rfl) rfl #[.agg #[.int .i64 a0_0, .slice A0_1 l0_1.length c0_1]] rfl y9 ?_; (with_reducible refine (impl_valTyped.calls k a0_0 _ _ l0_1 t358 true _ ?side1 ?side2 A3.out).mono ?_); (case side1 => exact y33 HO0_1.out); (case side2 => exact (Kd.V_reads' HO0_1.out).2.1); rintro e w12 ⟨v359, rfl, ho0, hb⟩; refine ⟨_, rfl, ?_⟩; replace HO0_1 := Aside0.mk (Kd.V_elder' (y11 HO0_1.out) (Kd.N_base ho0) hb); have HO360 := Aside0.mk (Kd.N_lower (Kd.N_mono (ok' := fun k_ => (P0_1_ k_ ∨ w.heap.size ≤ k_) ∧ k_ ≠ gb356 ∧ k_ ≠ gb357) ho0 (fun k_ hk_ => ⟨(.inr (Nat.le_trans (below_size (y3 HB.out GE356.out GE357.out)) hk_)), (Kd.freshB (g := gb356) (o := .cells #[.int .i64 a0_0, .slice A0_1 l0_1.length c0_1] 25 (0, 0)) (y0 BK356.out) k_ hk_), (Kd.freshB (g := gb357) (o := .cells #[.int .i64 0, .slice none 0 0] 25 (0, 0)) (y0 BK357.out) k_ hk_)⟩)) (below_size (y3 HB.out GE356.out GE357.out))); replace BK356 := zbb BK356 hb; replace BK357 := zbb BK357 hb; replace HB := Aside0.mk (below_step (y3 HB.out GE356.out GE357.out) hb); (try clear hb); (try clear hb2); (try clear hk); (try clear hi); (try clear ho0)) | ((with_reducible refine gate_dst (N := 6) rfl ?_); refine zbx 6 #[.slice none 0 0] 50 ?_; intro gb362 hg w13 hbox hb; replace HO0_1 := Aside0.mk (Kd.V_below (Kd.V_elderB (y11 HO0_1.out) gb362 (Nat.le_of_eq hg.symm)) hb); replace HO360 := Aside0.mk (Kd.N_below (Kd.N_elderB (y2 HO360.out) gb362 (Nat.le_of_eq hg.symm)) hb); have BK362 := Aside0.mk hbox; have GW362 := Aside0.mk ((y16 hg HB.out GE356.out GE357.out : w.heap.size ≤ gb362)); have GE362 := Aside0.mk ((y16 hg HB.out GE356.out GE357.out : w.heap.size ≤ gb362)); replace HB := Aside0.mk (below_step (y3 HB.out GE356.out GE357.out) hb); have NB356_362 := zltn hg BK356; have NB362_356 := zgtn hg BK356; replace BK356 := zbb BK356 hb; have NB357_362 := zltn hg BK357; have NB362_357 := zgtn hg BK357; replace BK357 := zbb BK357 hb; clear hb hbox hg; obtain ⟨Ao14, co14, eo14⟩ := Kd.N_slice HO360.out; subst eo14; have hnb15 := NB362_356.out; have hnc15 := NB356_362.out; have hnb16 := NB362_357.out; have hnc16 := NB357_362.out; have hcz17_0 := zh BK362; have hfz17_0 := zfr BK362 0) | ((with_reducible refine gate_store (t := 50) (p := 6) rfl ?_); refine store_event (t := 50) (p := 6) (v := ?vo_w18) (w1 := (w13.setCell ⟨gb362, 0, none⟩ (.slice Ao14 t358.length co14))) ?hg ?ho ?hn ?hr ?_; (case ho => rfl); (case hg => rfl); (case hn => rfl); (case hr => first | (go_simp; done) | (go_simp; rfl)); intro w18 hw; have n0_ : Aside0 (Kd.V k25 25 w18 w.heap.size (fun k_ => (P0_1_ k_ ∨ w.heap.size ≤ k_) ∧ some k_ ≠ (.slice Ao14 t358.length co14 : Value).ownBlock ∧ k_ ≠ gb356 ∧ k_ ≠ gb357 ∧ k_ ≠ gb362) (.slice A0_1 l0_1.length c0_1) l0_1) := ⟨(by rw [hw]; exact (by (with_reducible repeat (first | apply Kd.V_alloc | apply Kd.V_drewN | apply Kd.V_drew)); exact Kd.V_mono (Kd.V_far (p := ⟨gb362, 0, none⟩) (Kd.V_mono HO0_1.out (fun k_ hk => (⟨hk, hk.2⟩ : _ ∧ k_ ≠ gb362))) (fun _ hk => hk.2) (.slice Ao14 t358.length co14)) (fun _ hk => ⟨hk.1.1.1.1.1, ⟨hk.1.1.2, ⟨hk.1.1.1.1.2, ⟨hk.1.1.1.2, hk.1.2⟩⟩⟩⟩)))⟩; have n1_ : Aside0 (Kd.N k50 50 w18 w.heap.size (fun k_ => (P0_1_ k_ ∨ w.heap.size ≤ k_) ∧ k_ ≠ gb356 ∧ k_ ≠ gb357 ∧ k_ ≠ gb362) (.slice Ao14 t358.length co14) t358) := ⟨(by rw [hw]; exact (by (with_reducible repeat (first | apply Kd.N_alloc | apply Kd.N_drewN | apply Kd.N_drew)); exact Kd.N_mono (Kd.N_far (p := ⟨gb362, 0, none⟩) (Kd.N_mono HO360.out (fun k_ hk => (⟨hk, hk.2⟩ : _ ∧ k_ ≠ gb362))) (fun _ hk => hk.2) (.slice Ao14 t358.length co14)) (fun _ hk => ⟨hk.1.1.1, ⟨hk.1.1.2.1, ⟨hk.1.1.2.2, hk.1.2⟩⟩⟩)))⟩; have n2_ : Aside0 (w18.heap[gb356]? = some (.cells #[.int .i64 a0_0, .slice A0_1 l0_1.length c0_1] 25 (0, 0))) := ⟨(by rw [hw]; exact (y13 NB356_362.out BK356.out))⟩; have n3_ : Aside0 (w18.heap[gb357]? = some (.cells #[.int .i64 0, .slice none 0 0] 25 (0, 0))) := ⟨(by rw [hw]; exact (y13 NB357_362.out BK357.out))⟩; have n4_ : Aside0 (w18.heap[gb362]? = some (.cells #[.slice Ao14 t358.length co14] 50 (0, 0))) := ⟨(by rw [hw]; exact (by (with_reducible repeat (first | refine blk_drewN ?_ _ | refine blk_drew ?_ | refine blk_alloc ?_ _)); apply blk_put (i := 0); (case h => exact y0 BK362.out); (case e => rfl)))⟩; have n5_ : Aside0 (Below w.heap.size w w18) := ⟨(by rw [hw]; exact (y4 HB.out GE356.out GE357.out GE362.out))⟩; clear hw; clear HO0_1; clear HO360; clear BK356; clear BK357; clear BK362; clear HB; have HO0_1 := n0_; have HO360 := n1_; have BK356 := n2_; have BK357 := n3_; have BK362 := n4_; have HB := n5_; clear n0_ n1_ n2_ n3_ n4_ n5_; have hcz19_0 := zh BK356; have hcz19_1 := zh1 BK356; have hfz19_0 := zfr BK356 0; have hfz19_1 := zfr BK356 1) | ((with_reducible refine gate_callee (f := 39) rfl ?_); refine goesL_ (some 21) rfl rfl Try.func39 (by kernel_rfl) rfl #[.agg #[.int .i64 a0_0, .slice A0_1 l0_1.length c0_1], .slice A1 l1.length c1] rfl y9 ?_; (with_reducible refine (impl_Val.calls k a0_0 (fun k_ => ((P0_1_ k_ ∨ w.heap.size ≤ k_) ∧ (some k_ ≠ (.slice Ao14 t358.length co14 : Value).ownBlock ∧ (k_ ≠ gb356 ∧ (k_ ≠ gb357 ∧ k_ ≠ gb362))))) _ _ l0_1 _ _ l1 t363 t364 true _ ?side1 ?side2 ?side3 A5.out).mono ?_); (case side1 => exact HO0_1.out); (case side2 => exact y18 HR1.out HB.out); (case side3 => exact HC1.out); rintro e w20 ⟨v365, rfl, ho0, hb⟩; refine ⟨_, rfl, ?_⟩; replace HO0_1 := Aside0.mk (Kd.V_below (y11 HO0_1.out) hb); have HO366 := Aside0.mk (Kd.V_lower (Kd.V_mono (ok' := fun k_ => (P0_1_ k_ ∨ w.heap.size ≤ k_) ∧ some k_ ≠ (.slice Ao14 t358.length co14 : Value).ownBlock ∧ k_ ≠ gb356 ∧ k_ ≠ gb357 ∧ k_ ≠ gb362) ho0 (fun k_ hk_ => ⟨Or.elim hk_ (fun hs_ => hs_.1) (fun hn_ => (.inr (Nat.le_trans (below_size (y4 HB.out GE356.out GE357.out GE362.out)) hn_))), Or.elim hk_ (fun hs_ => hs_.2.1) (fun hn_ => (Kd.fresh' (Kd.N_lt (y2 HO360.out)) k_ hn_)), Or.elim hk_ (fun hs_ => hs_.2.2.1) (fun hn_ => (Kd.freshB (g := gb356) (o := .cells #[.int .i64 a0_0, .slice A0_1 l0_1.length c0_1] 25 (0, 0)) (y0 BK356.out) k_ hn_)), Or.elim hk_ (fun hs_ => hs_.2.2.2.1) (fun hn_ => (Kd.freshB (g := gb357) (o := .cells #[.int .i64 0, .slice none 0 0] 25 (0, 0)) (y0 BK357.out) k_ hn_)), Or.elim hk_ (fun hs_ => hs_.2.2.2.2) (fun hn_ => (Kd.freshB (g := gb362) (o := .cells #[.slice Ao14 t358.length co14] 50 (0, 0)) (y0 BK362.out) k_ hn_))⟩)) (below_size (y4 HB.out GE356.out GE357.out GE362.out))); replace HO360 := Aside0.mk (Kd.N_below (y2 HO360.out) hb); replace BK356 := zbb BK356 hb; replace BK357 := zbb BK357 hb; replace BK362 := zbb BK362 hb; replace HB := Aside0.mk (below_step (y4 HB.out GE356.out GE357.out GE362.out) hb); (try clear hb); (try clear hb2); (try clear hk); (try clear hi); (try clear ho0)) | ((with_reducible refine gate_dst (N := 8) rfl ?_); refine zbx 8 #[.int .i64 0, .slice none 0 0] 25 ?_; intro gb368 hg w21 hbox hb; replace HO0_1 := Aside0.mk (Kd.V_below (Kd.V_elderB (y11 HO0_1.out) gb368 (Nat.le_of_eq hg.symm)) hb); replace HO360 := Aside0.mk (Kd.N_below (Kd.N_elderB (y2 HO360.out) gb368 (Nat.le_of_eq hg.symm)) hb); replace HO366 := Aside0.mk (Kd.V_below (Kd.V_elderB (y11 HO366.out) gb368 (Nat.le_of_eq hg.symm)) hb); have BK368 := Aside0.mk hbox; have GW368 := Aside0.mk ((y20 hg HB.out GE356.out GE357.out GE362.out : w.heap.size ≤ gb368)); have GE368 := Aside0.mk ((y20 hg HB.out GE356.out GE357.out GE362.out : w.heap.size ≤ gb368)); replace HB := Aside0.mk (below_step (y4 HB.out GE356.out GE357.out GE362.out) hb); have NB356_368 := zltn hg BK356; have NB368_356 := zgtn hg BK356; replace BK356 := zbb BK356 hb; have NB357_368 := zltn hg BK357; have NB368_357 := zgtn hg BK357; replace BK357 := zbb BK357 hb; have NB362_368 := zltn hg BK362; have NB368_362 := zgtn hg BK362; replace BK362 := zbb BK362 hb; clear hb hbox hg; have hnb22 := NB368_356.out; have hnc22 := NB356_368.out; have hnb23 := NB368_357.out; have hnc23 := NB357_368.out; have hnb24 := NB368_362.out; have hnc24 := NB362_368.out; have hcz25_0 := zh BK368; have hcz25_1 := zh1 BK368; have hfz25_0 := zfr BK368 0; have hfz25_1 := zfr BK368 1; obtain ⟨Ao26, co26, eo26⟩ := Kd.V_slice HO366.out; subst eo26) | ((with_reducible refine gate_callee (f := 40) rfl ?_); refine goesL_ (some 28) rfl rfl Try.func40 (by kernel_rfl) rfl #[.agg #[.int .i64 t363, .slice Ao26 t364.length co26]] rfl y9 ?_; (with_reducible refine (impl_valCopy.calls k t363 _ _ t364 t369 t370 _ ?side1 ?side2 A7.out).mono ?_); (case side1 => refine (Kd.V_reads' (e := 25) (base := w.heap.size) (ok := fun k_ => (((P0_1_ k_ ∨ w.heap.size ≤ k_) ∧ (some k_ ≠ (.slice Ao14 t358.length co14 : Value).ownBlock ∧ (k_ ≠ gb356 ∧ (k_ ≠ gb357 ∧ k_ ≠ gb362)))) ∧ k_ ≠ gb368)) (n := t364.length) (c := co26) ?_).2.2; exact (by (with_reducible repeat (first | apply Kd.V_alloc | apply Kd.V_drewN | apply Kd.V_drew)); exact (Kd.V_mono (Kd.V_far (p := ⟨gb368, 1, none⟩) (Kd.V_far (p := ⟨gb368, 0, none⟩) (Kd.V_mono HO366.out (fun k_ hk => (⟨hk, hk.2⟩ : _ ∧ k_ ≠ gb368))) (fun _ hk => hk.2) (.int .i64 t363)) (fun _ hk => hk.2) (.slice Ao26 t364.length co26)) (fun _ h_ => h_.1)))); (case side2 => exact (Kd.V_reads' HO366.out).2.1); rintro e w27 ⟨v371, rfl, ho0, hb⟩; refine ⟨_, rfl, ?_⟩; replace HO0_1 := Aside0.mk (Kd.V_elder' (by (with_reducible repeat (first | apply Kd.V_alloc | apply Kd.V_drewN | apply Kd.V_drew)); exact (Kd.V_mono (Kd.V_far (p := ⟨gb368, 1, none⟩) (Kd.V_far (p := ⟨gb368, 0, none⟩) (Kd.V_mono HO0_1.out (fun k_ hk => (⟨hk, hk.2⟩ : _ ∧ k_ ≠ gb368))) (fun _ hk => hk.2) (.int .i64 t363)) (fun _ hk => hk.2) (.slice Ao26 t364.length co26)) (fun _ h_ => h_.1))) (Kd.N_base ho0) hb); replace HO366 := Aside0.mk (Kd.V_elder' (by (with_reducible repeat (first | apply Kd.V_alloc | apply Kd.V_drewN | apply Kd.V_drew)); exact (Kd.V_mono (Kd.V_far (p := ⟨gb368, 1, none⟩) (Kd.V_far (p := ⟨gb368, 0, none⟩) (Kd.V_mono HO366.out (fun k_ hk => (⟨hk, hk.2⟩ : _ ∧ k_ ≠ gb368))) (fun _ hk => hk.2) (.int .i64 t363)) (fun _ hk => hk.2) (.slice Ao26 t364.length co26)) (fun _ h_ => h_.1))) (Kd.N_base ho0) hb); have HO372 := Aside0.mk (Kd.N_lower (Kd.N_mono (ok' := fun k_ => (P0_1_ k_ ∨ w.heap.size ≤ k_) ∧ some k_ ≠ (.slice Ao14 t358.length co14 : Value).ownBlock ∧ k_ ≠ gb356 ∧ k_ ≠ gb357 ∧ k_ ≠ gb362 ∧ k_ ≠ gb368) ho0 (fun k_ hk_ => ⟨(.inr (Nat.le_trans (below_size (y5 HB.out GE356.out GE357.out GE362.out GE368.out)) hk_)), (Kd.fresh' (Kd.N_lt (by (with_reducible repeat (first | apply Kd.N_alloc | apply Kd.N_drewN | apply Kd.N_drew)); exact (Kd.N_mono (Kd.N_far (p := ⟨gb368, 1, none⟩) (Kd.N_far (p := ⟨gb368, 0, none⟩) (Kd.N_mono HO360.out (fun k_ hk => (⟨hk, hk.2⟩ : _ ∧ k_ ≠ gb368))) (fun _ hk => hk.2) (.int .i64 t363)) (fun _ hk => hk.2) (.slice Ao26 t364.length co26)) (fun _ h_ => h_.1)))) k_ hk_), (Kd.freshB (g := gb356) (o := .cells #[.int .i64 a0_0, .slice A0_1 l0_1.length c0_1] 25 (0, 0)) (y1 NB356_368.out BK356.out) k_ hk_), (Kd.freshB (g := gb357) (o := .cells #[.int .i64 0, .slice none 0 0] 25 (0, 0)) (y1 NB357_368.out BK357.out) k_ hk_), (Kd.freshB (g := gb362) (o := .cells #[.slice Ao14 t358.length co14] 50 (0, 0)) (y1 NB362_368.out BK362.out) k_ hk_), (Kd.freshB (g := gb368) (o := .cells #[.int .i64 t363, .slice Ao26 t364.length co26] 25 (0, 0)) (by (with_reducible repeat (first | refine blk_drewN ?_ _ | refine blk_drew ?_ | refine blk_alloc ?_ _)); refine blk_put (cs := #[.int .i64 t363, .slice none 0 0]) ?_ 1 _ rfl; (with_reducible repeat (first | refine blk_drewN ?_ _ | refine blk_drew ?_ | refine blk_alloc ?_ _)); apply blk_put (i := 0); (case h => exact y0 BK368.out); (case e => rfl)) k_ hk_)⟩)) (below_size (y5 HB.out GE356.out GE357.out GE362.out GE368.out))); replace HO360 := Aside0.mk (Kd.N_elder' (by (with_reducible repeat (first | apply Kd.N_alloc | apply Kd.N_drewN | apply Kd.N_drew)); exact (Kd.N_mono (Kd.N_far (p := ⟨gb368, 1, none⟩) (Kd.N_far (p := ⟨gb368, 0, none⟩) (Kd.N_mono HO360.out (fun k_ hk => (⟨hk, hk.2⟩ : _ ∧ k_ ≠ gb368))) (fun _ hk => hk.2) (.int .i64 t363)) (fun _ hk => hk.2) (.slice Ao26 t364.length co26)) (fun _ h_ => h_.1))) (Kd.N_base ho0) hb); replace BK356 := Aside0.mk (blk_below (g := gb356) (o := .cells #[.int .i64 a0_0, .slice A0_1 l0_1.length c0_1] 25 (0, 0)) (y1 NB356_368.out BK356.out) hb); replace BK357 := Aside0.mk (blk_below (g := gb357) (o := .cells #[.int .i64 0, .slice none 0 0] 25 (0, 0)) (y1 NB357_368.out BK357.out) hb); replace BK362 := Aside0.mk (blk_below (g := gb362) (o := .cells #[.slice Ao14 t358.length co14] 50 (0, 0)) (y1 NB362_368.out BK362.out) hb); replace BK368 := Aside0.mk (blk_below (g := gb368) (o := .cells #[.int .i64 t363, .slice Ao26 t364.length co26] 25 (0, 0)) (by (with_reducible repeat (first | refine blk_drewN ?_ _ | refine blk_drew ?_ | refine blk_alloc ?_ _)); refine blk_put (cs := #[.int .i64 t363, .slice none 0 0]) ?_ 1 _ rfl; (with_reducible repeat (first | refine blk_drewN ?_ _ | refine blk_drew ?_ | refine blk_alloc ?_ _)); apply blk_put (i := 0); (case h => exact y0 BK368.out); (case e => rfl)) hb); replace HB := Aside0.mk (below_step (y5 HB.out GE356.out GE357.out GE362.out GE368.out) hb); (try clear hb); (try clear hb2); (try clear hk); (try clear hi); (try clear ho0); have hcz28_0 := zh BK357; have hcz28_1 := zh1 BK357; have hfz28_0 := zfr BK357 0; have hfz28_1 := zfr BK357 1; obtain ⟨Ao29, co29, eo29⟩ := Kd.N_slice HO372.out; subst eo29))
   refine bodyPost_ret (results_ct rfl _ _ gb357 25 #[.int .i64 t369, .slice Ao29 t370.length co29] (0, 0) _ rfl (by (with_reducible repeat (first | refine blk_drewN ?_ _ | refine blk_drew ?_ | refine blk_alloc ?_ _)); refine blk_put (cs := #[.int .i64 t369, .slice none 0 0]) ?_ 1 _ rfl; (with_reducible repeat (first | refine blk_drewN ?_ _ | refine blk_drew ?_ | refine blk_alloc ?_ _)); apply blk_put (i := 0); (case h => exact y0 BK357.out); (case e => rfl)) Try.underlying25 rfl (by kernel_rfl)) rfl ?_
   exact ⟨_, y15, (by (with_reducible repeat (first | apply Kd.N_alloc | apply Kd.N_drewN | apply Kd.N_drew)); exact Kd.N_mono (Kd.N_far (p := ⟨gb357, 1, none⟩) (Kd.N_far (p := ⟨gb357, 0, none⟩) (Kd.N_mono HO372.out (fun k_ hk => (⟨hk, hk.2.2.2.1⟩ : _ ∧ k_ ≠ gb357))) (fun _ hk => hk.2) (.int .i64 t369)) (fun _ hk => hk.2) (.slice Ao29 t370.length co29)) (fun _ hk => hk.1.1)), (y5 HB.out GE356.out GE357.out GE362.out GE368.out)⟩
  ·replace c6 := Bool.eq_false_iff.mpr c6
   subst c6
   rw [if_neg (show ¬ (false = true) by decide)] at H
   simp only [Option.some.injEq, Prod.mk.injEq] at H
   obtain ⟨rfl, rfl, rfl⟩ := H
   go_enter Try.func14, Try.ntmps14
   go_wp2_with (first | ((with_reducible refine gate_dst (N := 2) rfl ?_); refine zbx 2 #[.int .i64 a0_0, .slice A0_1 l0_1.length c0_1] 25 ?_; intro gb356 hg w30 hbox hb; replace HO0_1 := Aside0.mk (Kd.V_below (Kd.V_elderB (y11 HO0_1.out) gb356 (Nat.le_of_eq hg.symm)) hb); have BK356 := Aside0.mk hbox; have GW356 := Aside0.mk ((y10 hg HB.out : w.heap.size ≤ gb356)); have GE356 := Aside0.mk ((y10 hg HB.out : w.heap.size ≤ gb356)); replace HB := Aside0.mk (below_step (y6 HB.out) hb); clear hb hbox hg) | ((with_reducible refine gate_dst (N := 4) rfl ?_); refine zbx 4 #[.int .i64 0, .slice none 0 0] 25 ?_; intro gb357 hg w31 hbox hb; replace HO0_1 := Aside0.mk (Kd.V_below (Kd.V_elderB (y11 HO0_1.out) gb357 (Nat.le_of_eq hg.symm)) hb); have BK357 := Aside0.mk hbox; have GW357 := Aside0.mk ((y12 hg HB.out GE356.out : w.heap.size ≤ gb357)); have GE357 := Aside0.mk ((y12 hg HB.out GE356.out : w.heap.size ≤ gb357)); replace HB := Aside0.mk (below_step (y7 HB.out GE356.out) hb); have NB356_357 := zltn hg BK356; have NB357_356 := zgtn hg BK356; replace BK356 := zbb BK356 hb; clear hb hbox hg; have hnb32 := NB356_357.out; have hnc32 := NB357_356.out; have hcz33_0 := zh BK356; have hcz33_1 := zh1 BK356; have hfz33_0 := zfr BK356 0; have hfz33_1 := zfr BK356 1) | ((with_reducible refine gate_callee (f := 38) rfl ?_); refine goesL_ (some 12) rfl rfl Try.func38 (by kernel_rfl) rfl #[.agg #[.int .i64 a0_0, .slice A0_1 l0_1.length c0_1]] rfl y9 ?_; (with_reducible refine (impl_valTyped.calls k a0_0 _ _ l0_1 t358 true _ ?side1 ?side2 A3.out).mono ?_); (case side1 => exact y33 HO0_1.out); (case side2 => exact (Kd.V_reads' HO0_1.out).2.1); rintro e w34 ⟨v359, rfl, ho0, hb⟩; refine ⟨_, rfl, ?_⟩; replace HO0_1 := Aside0.mk (Kd.V_elder' (y11 HO0_1.out) (Kd.N_base ho0) hb); have HO360 := Aside0.mk (Kd.N_lower (Kd.N_mono (ok' := fun k_ => (P0_1_ k_ ∨ w.heap.size ≤ k_) ∧ k_ ≠ gb356 ∧ k_ ≠ gb357) ho0 (fun k_ hk_ => ⟨(.inr (Nat.le_trans (below_size (y3 HB.out GE356.out GE357.out)) hk_)), (Kd.freshB (g := gb356) (o := .cells #[.int .i64 a0_0, .slice A0_1 l0_1.length c0_1] 25 (0, 0)) (y0 BK356.out) k_ hk_), (Kd.freshB (g := gb357) (o := .cells #[.int .i64 0, .slice none 0 0] 25 (0, 0)) (y0 BK357.out) k_ hk_)⟩)) (below_size (y3 HB.out GE356.out GE357.out))); replace BK356 := zbb BK356 hb; replace BK357 := zbb BK357 hb; replace HB := Aside0.mk (below_step (y3 HB.out GE356.out GE357.out) hb); (try clear hb); (try clear hb2); (try clear hk); (try clear hi); (try clear ho0)) | ((with_reducible refine gate_dst (N := 6) rfl ?_); refine zbx 6 #[.slice none 0 0] 50 ?_; intro gb362 hg w35 hbox hb; replace HO0_1 := Aside0.mk (Kd.V_below (Kd.V_elderB (y11 HO0_1.out) gb362 (Nat.le_of_eq hg.symm)) hb); replace HO360 := Aside0.mk (Kd.N_below (Kd.N_elderB (y2 HO360.out) gb362 (Nat.le_of_eq hg.symm)) hb); have BK362 := Aside0.mk hbox; have GW362 := Aside0.mk ((y16 hg HB.out GE356.out GE357.out : w.heap.size ≤ gb362)); have GE362 := Aside0.mk ((y16 hg HB.out GE356.out GE357.out : w.heap.size ≤ gb362)); replace HB := Aside0.mk (below_step (y3 HB.out GE356.out GE357.out) hb); have NB356_362 := zltn hg BK356; have NB362_356 := zgtn hg BK356; replace BK356 := zbb BK356 hb; have NB357_362 := zltn hg BK357; have NB362_357 := zgtn hg BK357; replace BK357 := zbb BK357 hb; clear hb hbox hg; obtain ⟨Ao36, co36, eo36⟩ := Kd.N_slice HO360.out; subst eo36; have hnb37 := NB362_356.out; have hnc37 := NB356_362.out; have hnb38 := NB362_357.out; have hnc38 := NB357_362.out; have hcz39_0 := zh BK362; have hfz39_0 := zfr BK362 0) | ((with_reducible refine gate_store (t := 50) (p := 6) rfl ?_); refine store_event (t := 50) (p := 6) (v := ?vo_w40) (w1 := (w35.setCell ⟨gb362, 0, none⟩ (.slice Ao36 t358.length co36))) ?hg ?ho ?hn ?hr ?_; (case ho => rfl); (case hg => rfl); (case hn => rfl); (case hr => first | (go_simp; done) | (go_simp; rfl)); intro w40 hw; have n0_ : Aside0 (Kd.V k25 25 w40 w.heap.size (fun k_ => (P0_1_ k_ ∨ w.heap.size ≤ k_) ∧ some k_ ≠ (.slice Ao36 t358.length co36 : Value).ownBlock ∧ k_ ≠ gb356 ∧ k_ ≠ gb357 ∧ k_ ≠ gb362) (.slice A0_1 l0_1.length c0_1) l0_1) := ⟨(by rw [hw]; exact (by (with_reducible repeat (first | apply Kd.V_alloc | apply Kd.V_drewN | apply Kd.V_drew)); exact Kd.V_mono (Kd.V_far (p := ⟨gb362, 0, none⟩) (Kd.V_mono HO0_1.out (fun k_ hk => (⟨hk, hk.2⟩ : _ ∧ k_ ≠ gb362))) (fun _ hk => hk.2) (.slice Ao36 t358.length co36)) (fun _ hk => ⟨hk.1.1.1.1.1, ⟨hk.1.1.2, ⟨hk.1.1.1.1.2, ⟨hk.1.1.1.2, hk.1.2⟩⟩⟩⟩)))⟩; have n1_ : Aside0 (Kd.N k50 50 w40 w.heap.size (fun k_ => (P0_1_ k_ ∨ w.heap.size ≤ k_) ∧ k_ ≠ gb356 ∧ k_ ≠ gb357 ∧ k_ ≠ gb362) (.slice Ao36 t358.length co36) t358) := ⟨(by rw [hw]; exact (by (with_reducible repeat (first | apply Kd.N_alloc | apply Kd.N_drewN | apply Kd.N_drew)); exact Kd.N_mono (Kd.N_far (p := ⟨gb362, 0, none⟩) (Kd.N_mono HO360.out (fun k_ hk => (⟨hk, hk.2⟩ : _ ∧ k_ ≠ gb362))) (fun _ hk => hk.2) (.slice Ao36 t358.length co36)) (fun _ hk => ⟨hk.1.1.1, ⟨hk.1.1.2.1, ⟨hk.1.1.2.2, hk.1.2⟩⟩⟩)))⟩; have n2_ : Aside0 (w40.heap[gb356]? = some (.cells #[.int .i64 a0_0, .slice A0_1 l0_1.length c0_1] 25 (0, 0))) := ⟨(by rw [hw]; exact (y13 NB356_362.out BK356.out))⟩; have n3_ : Aside0 (w40.heap[gb357]? = some (.cells #[.int .i64 0, .slice none 0 0] 25 (0, 0))) := ⟨(by rw [hw]; exact (y13 NB357_362.out BK357.out))⟩; have n4_ : Aside0 (w40.heap[gb362]? = some (.cells #[.slice Ao36 t358.length co36] 50 (0, 0))) := ⟨(by rw [hw]; exact (by (with_reducible repeat (first | refine blk_drewN ?_ _ | refine blk_drew ?_ | refine blk_alloc ?_ _)); apply blk_put (i := 0); (case h => exact y0 BK362.out); (case e => rfl)))⟩; have n5_ : Aside0 (Below w.heap.size w w40) := ⟨(by rw [hw]; exact (y4 HB.out GE356.out GE357.out GE362.out))⟩; clear hw; clear HO0_1; clear HO360; clear BK356; clear BK357; clear BK362; clear HB; have HO0_1 := n0_; have HO360 := n1_; have BK356 := n2_; have BK357 := n3_; have BK362 := n4_; have HB := n5_; clear n0_ n1_ n2_ n3_ n4_ n5_; have hcz41_0 := zh BK356; have hcz41_1 := zh1 BK356; have hfz41_0 := zfr BK356 0; have hfz41_1 := zfr BK356 1) | ((with_reducible refine gate_callee (f := 39) rfl ?_); refine goesL_ (some 21) rfl rfl Try.func39 (by kernel_rfl) rfl #[.agg #[.int .i64 a0_0, .slice A0_1 l0_1.length c0_1], .slice A1 l1.length c1] rfl y9 ?_; (with_reducible refine (impl_Val.calls k a0_0 (fun k_ => ((P0_1_ k_ ∨ w.heap.size ≤ k_) ∧ (some k_ ≠ (.slice Ao36 t358.length co36 : Value).ownBlock ∧ (k_ ≠ gb356 ∧ (k_ ≠ gb357 ∧ k_ ≠ gb362))))) _ _ l0_1 _ _ l1 t363 t364 false _ ?side1 ?side2 ?side3 A5.out).mono ?_); (case side1 => exact HO0_1.out); (case side2 => exact y18 HR1.out HB.out); (case side3 => exact HC1.out); rintro e w42 ⟨v365, rfl, ho0, hb⟩; refine ⟨_, rfl, ?_⟩; replace HO0_1 := Aside0.mk (Kd.V_below (y11 HO0_1.out) hb); have HO366 := Aside0.mk (Kd.V_lower (Kd.V_mono (ok' := fun k_ => (P0_1_ k_ ∨ w.heap.size ≤ k_) ∧ some k_ ≠ (.slice Ao36 t358.length co36 : Value).ownBlock ∧ k_ ≠ gb356 ∧ k_ ≠ gb357 ∧ k_ ≠ gb362) ho0 (fun k_ hk_ => ⟨Or.elim hk_ (fun hs_ => hs_.1) (fun hn_ => (.inr (Nat.le_trans (below_size (y4 HB.out GE356.out GE357.out GE362.out)) hn_))), Or.elim hk_ (fun hs_ => hs_.2.1) (fun hn_ => (Kd.fresh' (Kd.N_lt (y2 HO360.out)) k_ hn_)), Or.elim hk_ (fun hs_ => hs_.2.2.1) (fun hn_ => (Kd.freshB (g := gb356) (o := .cells #[.int .i64 a0_0, .slice A0_1 l0_1.length c0_1] 25 (0, 0)) (y0 BK356.out) k_ hn_)), Or.elim hk_ (fun hs_ => hs_.2.2.2.1) (fun hn_ => (Kd.freshB (g := gb357) (o := .cells #[.int .i64 0, .slice none 0 0] 25 (0, 0)) (y0 BK357.out) k_ hn_)), Or.elim hk_ (fun hs_ => hs_.2.2.2.2) (fun hn_ => (Kd.freshB (g := gb362) (o := .cells #[.slice Ao36 t358.length co36] 50 (0, 0)) (y0 BK362.out) k_ hn_))⟩)) (below_size (y4 HB.out GE356.out GE357.out GE362.out))); replace HO360 := Aside0.mk (Kd.N_below (y2 HO360.out) hb); replace BK356 := zbb BK356 hb; replace BK357 := zbb BK357 hb; replace BK362 := zbb BK362 hb; replace HB := Aside0.mk (below_step (y4 HB.out GE356.out GE357.out GE362.out) hb); (try clear hb); (try clear hb2); (try clear hk); (try clear hi); (try clear ho0)) | ((with_reducible refine gate_dst (N := 8) rfl ?_); refine zbx 8 #[.int .i64 0, .slice none 0 0] 25 ?_; intro gb368 hg w43 hbox hb; replace HO0_1 := Aside0.mk (Kd.V_below (Kd.V_elderB (y11 HO0_1.out) gb368 (Nat.le_of_eq hg.symm)) hb); replace HO360 := Aside0.mk (Kd.N_below (Kd.N_elderB (y2 HO360.out) gb368 (Nat.le_of_eq hg.symm)) hb); replace HO366 := Aside0.mk (Kd.V_below (Kd.V_elderB (y11 HO366.out) gb368 (Nat.le_of_eq hg.symm)) hb); have BK368 := Aside0.mk hbox; have GW368 := Aside0.mk ((y20 hg HB.out GE356.out GE357.out GE362.out : w.heap.size ≤ gb368)); have GE368 := Aside0.mk ((y20 hg HB.out GE356.out GE357.out GE362.out : w.heap.size ≤ gb368)); replace HB := Aside0.mk (below_step (y4 HB.out GE356.out GE357.out GE362.out) hb); have NB356_368 := zltn hg BK356; have NB368_356 := zgtn hg BK356; replace BK356 := zbb BK356 hb; have NB357_368 := zltn hg BK357; have NB368_357 := zgtn hg BK357; replace BK357 := zbb BK357 hb; have NB362_368 := zltn hg BK362; have NB368_362 := zgtn hg BK362; replace BK362 := zbb BK362 hb; clear hb hbox hg; have hnb44 := NB368_356.out; have hnc44 := NB356_368.out; have hnb45 := NB368_357.out; have hnc45 := NB357_368.out; have hnb46 := NB368_362.out; have hnc46 := NB362_368.out; have hcz47_0 := zh BK368; have hcz47_1 := zh1 BK368; have hfz47_0 := zfr BK368 0; have hfz47_1 := zfr BK368 1; obtain ⟨Ao48, co48, eo48⟩ := Kd.V_slice HO366.out; subst eo48; have hcz49_0 := zh BK357; have hcz49_1 := zh1 BK357; have hfz49_0 := zfr BK357 0; have hfz49_1 := zfr BK357 1))
   refine bodyPost_ret (results_ct rfl _ _ gb357 25 #[.int .i64 0, .slice none 0 0] (0, 0) _ rfl (by (with_reducible repeat (first | refine blk_drewN ?_ _ | refine blk_drew ?_ | refine blk_alloc ?_ _)); refine blk_put (cs := #[.int .i64 0, .slice none 0 0]) ?_ 1 _ rfl; (with_reducible repeat (first | refine blk_drewN ?_ _ | refine blk_drew ?_ | refine blk_alloc ?_ _)); refine blk_put (cs := #[.int .i64 0, .slice none 0 0]) ?_ 0 _ rfl; (with_reducible repeat (first | refine blk_drewN ?_ _ | refine blk_drew ?_ | refine blk_alloc ?_ _)); refine blk_far ?_ NB357_368.out _; (with_reducible repeat (first | refine blk_drewN ?_ _ | refine blk_drew ?_ | refine blk_alloc ?_ _)); refine blk_far ?_ NB357_368.out _; (with_reducible repeat (first | refine blk_drewN ?_ _ | refine blk_drew ?_ | refine blk_alloc ?_ _)); exact BK357.out) Try.underlying25 rfl (by kernel_rfl)) rfl ?_
   exact ⟨_, y15, y38, (y5 HB.out GE356.out GE357.out GE362.out GE368.out)⟩
 ·replace c4 := Bool.eq_false_iff.mpr c4
  subst c4
  rw [if_neg (show ¬ (false = true) by decide)] at H
  simp only [Option.some.injEq, Prod.mk.injEq] at H
  obtain ⟨rfl, rfl, rfl⟩ := H
  go_enter Try.func14, Try.ntmps14
  go_wp2_with (first | ((with_reducible refine gate_dst (N := 2) rfl ?_); refine zbx 2 #[.int .i64 a0_0, .slice A0_1 l0_1.length c0_1] 25 ?_; intro gb356 hg w50 hbox hb; replace HO0_1 := Aside0.mk (Kd.V_below (Kd.V_elderB (y11 HO0_1.out) gb356 (Nat.le_of_eq hg.symm)) hb); have BK356 := Aside0.mk hbox; have GW356 := Aside0.mk ((y10 hg HB.out : w.heap.size ≤ gb356)); have GE356 := Aside0.mk ((y10 hg HB.out : w.heap.size ≤ gb356)); replace HB := Aside0.mk (below_step (y6 HB.out) hb); clear hb hbox hg) | ((with_reducible refine gate_dst (N := 4) rfl ?_); refine zbx 4 #[.int .i64 0, .slice none 0 0] 25 ?_; intro gb357 hg w51 hbox hb; replace HO0_1 := Aside0.mk (Kd.V_below (Kd.V_elderB (y11 HO0_1.out) gb357 (Nat.le_of_eq hg.symm)) hb); have BK357 := Aside0.mk hbox; have GW357 := Aside0.mk ((y12 hg HB.out GE356.out : w.heap.size ≤ gb357)); have GE357 := Aside0.mk ((y12 hg HB.out GE356.out : w.heap.size ≤ gb357)); replace HB := Aside0.mk (below_step (y7 HB.out GE356.out) hb); have NB356_357 := zltn hg BK356; have NB357_356 := zgtn hg BK356; replace BK356 := zbb BK356 hb; clear hb hbox hg; have hnb52 := NB356_357.out; have hnc52 := NB357_356.out; have hcz53_0 := zh BK356; have hcz53_1 := zh1 BK356; have hfz53_0 := zfr BK356 0; have hfz53_1 := zfr BK356 1) | ((with_reducible refine gate_callee (f := 38) rfl ?_); refine goesL_ (some 12) rfl rfl Try.func38 (by kernel_rfl) rfl #[.agg #[.int .i64 a0_0, .slice A0_1 l0_1.length c0_1]] rfl y9 ?_; (with_reducible refine (impl_valTyped.calls k a0_0 _ _ l0_1 t358 false _ ?side1 ?side2 A3.out).mono ?_); (case side1 => exact y33 HO0_1.out); (case side2 => exact (Kd.V_reads' HO0_1.out).2.1); rintro e w54 ⟨v359, rfl, ho0, hb⟩; refine ⟨_, rfl, ?_⟩; replace HO0_1 := Aside0.mk (Kd.V_elder' (y11 HO0_1.out) (Kd.N_base ho0) hb); have HO360 := Aside0.mk (Kd.N_lower (Kd.N_mono (ok' := fun k_ => (P0_1_ k_ ∨ w.heap.size ≤ k_) ∧ k_ ≠ gb356 ∧ k_ ≠ gb357) ho0 (fun k_ hk_ => ⟨(.inr (Nat.le_trans (below_size (y3 HB.out GE356.out GE357.out)) hk_)), (Kd.freshB (g := gb356) (o := .cells #[.int .i64 a0_0, .slice A0_1 l0_1.length c0_1] 25 (0, 0)) (y0 BK356.out) k_ hk_), (Kd.freshB (g := gb357) (o := .cells #[.int .i64 0, .slice none 0 0] 25 (0, 0)) (y0 BK357.out) k_ hk_)⟩)) (below_size (y3 HB.out GE356.out GE357.out))); replace BK356 := zbb BK356 hb; replace BK357 := zbb BK357 hb; replace HB := Aside0.mk (below_step (y3 HB.out GE356.out GE357.out) hb); (try clear hb); (try clear hb2); (try clear hk); (try clear hi); (try clear ho0)) | ((with_reducible refine gate_dst (N := 6) rfl ?_); refine zbx 6 #[.slice none 0 0] 50 ?_; intro gb362 hg w55 hbox hb; replace HO0_1 := Aside0.mk (Kd.V_below (Kd.V_elderB (y11 HO0_1.out) gb362 (Nat.le_of_eq hg.symm)) hb); replace HO360 := Aside0.mk (Kd.N_below (Kd.N_elderB (y2 HO360.out) gb362 (Nat.le_of_eq hg.symm)) hb); have BK362 := Aside0.mk hbox; have GW362 := Aside0.mk ((y16 hg HB.out GE356.out GE357.out : w.heap.size ≤ gb362)); have GE362 := Aside0.mk ((y16 hg HB.out GE356.out GE357.out : w.heap.size ≤ gb362)); replace HB := Aside0.mk (below_step (y3 HB.out GE356.out GE357.out) hb); have NB356_362 := zltn hg BK356; have NB362_356 := zgtn hg BK356; replace BK356 := zbb BK356 hb; have NB357_362 := zltn hg BK357; have NB362_357 := zgtn hg BK357; replace BK357 := zbb BK357 hb; clear hb hbox hg; obtain ⟨Ao56, co56, eo56⟩ := Kd.N_slice HO360.out; subst eo56; have hnb57 := NB362_356.out; have hnc57 := NB356_362.out; have hnb58 := NB362_357.out; have hnc58 := NB357_362.out; have hcz59_0 := zh BK362; have hfz59_0 := zfr BK362 0; have hcz60_0 := zh BK357; have hcz60_1 := zh1 BK357; have hfz60_0 := zfr BK357 0; have hfz60_1 := zfr BK357 1))
  refine bodyPost_ret (results_ct rfl _ _ gb357 25 #[.int .i64 0, .slice none 0 0] (0, 0) _ rfl (by (with_reducible repeat (first | refine blk_drewN ?_ _ | refine blk_drew ?_ | refine blk_alloc ?_ _)); refine blk_put (cs := #[.int .i64 0, .slice none 0 0]) ?_ 1 _ rfl; (with_reducible repeat (first | refine blk_drewN ?_ _ | refine blk_drew ?_ | refine blk_alloc ?_ _)); refine blk_put (cs := #[.int .i64 0, .slice none 0 0]) ?_ 0 _ rfl; (with_reducible repeat (first | refine blk_drewN ?_ _ | refine blk_drew ?_ | refine blk_alloc ?_ _)); refine blk_far ?_ NB357_362.out _; (with_reducible repeat (first | refine blk_drewN ?_ _ | refine blk_drew ?_ | refine blk_alloc ?_ _)); exact BK357.out) Try.underlying25 rfl (by kernel_rfl)) rfl ?_
  exact ⟨_, y15, y38, (y4 HB.out GE356.out GE357.out GE362.out)⟩
end Go.Proofs.Ythfflieeifakdaa.PA
end
section
namespace Go.Proofs.Ythfflieeifakdaa.PA
open Go.RowKit Go.Proofs.YthfflieeifakdaaW.PrintWords Go.Proofs.YthfflieeifakdaaW.PrintLast Go.Proofs.YthfflieeifakdaaW.PrintMore
attribute [local go_sem] max2_int min2_int max_two min_two max_three min_three max_four min_four
set_option linter.unusedVariables false
set_option linter.unusedSimpArgs false
mutual
def impl_typeSame.l0 : Nat → Int → Int → List (S50) → List (S50) → Option (Bool)
 | 0, _, _, _, _ => none
 | k + 1, x15, x16, x567000, x568000 => if x16 < x15 then (if 0 ≤ x16 then (if x16 < (x567000.length : Int) then (if x16 < (x568000.length : Int) then ((impl_typeSame.f k ((rd_T50 x567000 x16).f0) ((rd_T50 x568000 x16).f0)).bind fun t570 => (if t570 = true then (impl_typeSame.l0 k x15 (wrap64 (x16 + 1)) x567000 x568000) else (some false))) else (none)) else (none)) else (none)) else (some true)
def impl_typeSame.f : Nat → List (S50) → List (S50) → Option (Bool)
 | 0, _, _ => none
 | k + 1, l0_0, l1_0 => if (l0_0.length : Int) = (l1_0.length : Int) then (impl_typeSame.l0 k (l0_0.length : Int) 0 l0_0 l1_0) else (some false)
end
theorem impl_typeSame.mono_l : ∀ k, (∀ y0 y1, LeO (impl_typeSame.f k y0 y1) (impl_typeSame.f (k + 1) y0 y1)) ∧ (∀ y0 y1 y2 y3, LeO (impl_typeSame.l0 k y0 y1 y2 y3) (impl_typeSame.l0 (k + 1) y0 y1 y2 y3))
 | 0 => ⟨fun _ _ r h => by simp [impl_typeSame.f] at h, fun _ _ _ _ r h => by simp [impl_typeSame.l0] at h⟩
 | k + 1 => by
  obtain ⟨ih0, ih1⟩ := impl_typeSame.mono_l k
  refine ⟨?_, ?_⟩
  ·intro y0 y1
   unfold impl_typeSame.f
   repeat' first
   | (with_reducible exact ih0 _ _)
   | (with_reducible exact ih1 _ _ _ _)
   | (with_reducible exact LeO.refl _)
   | (with_reducible exact LeO.none _)
   | (with_reducible refine LeO.ite ?_ ?_)
   | (with_reducible refine LeO.bind ?_ (fun _ => ?_))
   | exact ih0 _ _
   | exact ih1 _ _ _ _
   | exact LeO.none _
   | refine LeO.ite ?_ ?_
   | refine LeO.bind ?_ (fun _ => ?_)
  ·intro y0 y1 y2 y3
   unfold impl_typeSame.l0
   repeat' first
   | (with_reducible exact ih0 _ _)
   | (with_reducible exact ih1 _ _ _ _)
   | (with_reducible exact LeO.refl _)
   | (with_reducible exact LeO.none _)
   | (with_reducible refine LeO.ite ?_ ?_)
   | (with_reducible refine LeO.bind ?_ (fun _ => ?_))
   | exact ih0 _ _
   | exact ih1 _ _ _ _
   | exact LeO.none _
   | refine LeO.ite ?_ ?_
   | refine LeO.bind ?_ (fun _ => ?_)
theorem impl_typeSame.mono : ∀ a0 a1 k, LeO (impl_typeSame.f k a0 a1) (impl_typeSame.f (k + 1) a0 a1) := by
 intro a0 a1 k
 obtain ⟨ih0, ih1⟩ := impl_typeSame.mono_l k
 exact ih0 a0 a1
def impl_typeSame.T6 : Bool × List (List Nat × List Nat) := (true, [([], []), ([0], [0]), ([], []), ([1, 2], [1, 2]), ([3], [3]), ([], []), ([5], [5]), ([], []), ([6, 7], [6, 7]), ([8], [8]), ([4, 9], [4, 9]), ([10], [10])])
def impl_typeSame.B6 : List Nat := [0, 1, 0, 7, 15, 0, 32, 0, 224, 480, 1023, 2047]
theorem impl_typeSame.tab6 : rtab .any (opsOf Try.f46 6) = impl_typeSame.T6 := by kernel_rfl
theorem impl_typeSame.bits6 : waitsOk impl_typeSame.T6.2 impl_typeSame.B6 = true := by kernel_rfl
set_option maxHeartbeats 8000000 in
set_option maxRecDepth 100000 in
theorem impl_typeSame.calls (k : Nat) : ∀ (A0_0 : Option Addr) (c0_0 : Nat) (l0_0 : List (S50)) (A1_0 : Option Addr) (c1_0 : Nat) (l1_0 : List (S50)) (r : Bool) (w : World) (hr0_0 : Kd.C k50 w A0_0 l0_0.length l0_0) (hc0_0 : l0_0.length ≤ c0_0) (hr1_0 : Kd.C k50 w A1_0 l1_0.length l1_0) (hc1_0 : l1_0.length ≤ c1_0) (h : impl_typeSame.f k l0_0 l1_0 = some r),
  Calls Try.prog 46 #[.agg #[.slice A0_0 l0_0.length c0_0], .agg #[.slice A1_0 l1_0.length c1_0]] w fun e w' => e = .returned (.bool r) ∧ Below w.heap.size w w' := by
 induction k using Nat.strongRecOn with
 | _ k ih =>
 intro A0_0 c0_0 l0_0 A1_0 c1_0 l1_0 r w hr0_0 hc0_0 hr1_0 hc1_0 h
 cases k with
 | zero => exact absurd h (by simp [impl_typeSame.f])
 | succ k =>
 simp only [impl_typeSame.f] at h
 have hu50 := Try.underlying50
 have HR0_0 := Aside0.mk hr0_0
 have HC0_0 := Aside0.mk hc0_0
 clear hr0_0 hc0_0
 have HR1_0 := Aside0.mk hr1_0
 have HC1_0 := Aside0.mk hc1_0
 clear hr1_0 hc1_0
 have HB := Aside0.mk (Below.refl w.heap.size w)
 have H : (if (l0_0.length : Int) = (l1_0.length : Int) then (impl_typeSame.l0 k (l0_0.length : Int) 0 l0_0 l1_0) else (some false)) = some r := h
 clear h
 have HZ3 := Aside0.mk H
 clear H
 go_enter Try.func46, Try.ntmps46
 go_upto_if 12 with (first | ((with_reducible refine gate_dst (N := 2) rfl ?_); refine zbx 2 #[.slice A0_0 l0_0.length c0_0] 50 ?_; intro gb566 hg w4 hbox hb; have BK566 := Aside0.mk hbox; have GW566 := Aside0.mk ((y10 hg HB.out : w.heap.size ≤ gb566)); have GE566 := Aside0.mk ((y10 hg HB.out : w.heap.size ≤ gb566)); replace HB := Aside0.mk (below_step (y6 HB.out) hb); clear hb hbox hg) | ((with_reducible refine gate_dst (N := 3) rfl ?_); refine zbx 3 #[.slice A1_0 l1_0.length c1_0] 50 ?_; intro gb567 hg w5 hbox hb; have BK567 := Aside0.mk hbox; have GW567 := Aside0.mk ((y12 hg HB.out GE566.out : w.heap.size ≤ gb567)); have GE567 := Aside0.mk ((y12 hg HB.out GE566.out : w.heap.size ≤ gb567)); replace HB := Aside0.mk (below_step (y7 HB.out GE566.out) hb); have NB566_567 := zltn hg BK566; have NB567_566 := zgtn hg BK566; replace BK566 := zbb BK566 hb; clear hb hbox hg; have hnb6 := NB566_567.out; have hnc6 := NB567_566.out; have hcz7_0 := zh BK566; have hfz7_0 := zfr BK566 0; have hcz8_0 := zh BK567; have hfz8_0 := zfr BK567 0))
 (try simp only [Act.put, List.setIfInBounds_toArray, List.set_cons_zero, List.set_cons_succ])
 have H := HZ3.out
 clear HZ3
 by_cases c9 : (l0_0.length : Int) = (l1_0.length : Int)
 ·rw [if_pos c9] at H
  have c9b0 : ((l0_0.length : Int) == (l1_0.length : Int)) = true := beq_iff_eq.mpr c9
  have c9b1 : ((l0_0.length : Int) != (l1_0.length : Int)) = false := bne_eq_false_iff_eq.mpr c9
  have c9b2 : (l0_0.length == l1_0.length) = true := by first | simpa using c9 | (simp at c9 ⊢; omega)
  clear c9
  (first | rw [c9b0] | (simp only [i64_w, i32_w]; rw [c9b0]) | skip)
  have H' := Aside0.mk H
  clear H
  have hnb10 := NB566_567.out
  have hnc10 := NB567_566.out
  have hcz11_0 := zh BK566
  have hfz11_0 := zfr BK566 0
  go_wp2
  go_loopg [16] k (fun kq v16 w' => ∃ (x16_1 : Int), v16 = .int .i64 x16_1 ∧ Aside0 (impl_typeSame.l0 kq (l0_0.length : Int) x16_1 l0_0 l1_0 = some r) ∧ Aside0 (kq ≤ k) ∧ Aside0 (w'.heap[gb566]? = some (.cells #[(.slice A0_0 l0_0.length c0_0)] 50 (0, 0))) ∧ Aside0 (w'.heap[gb567]? = some (.cells #[(.slice A1_0 l1_0.length c1_0)] 50 (0, 0))) ∧ Aside0 (Below w.heap.size w w'))
  case atStart => exact ⟨(0), y29, H', ⟨Nat.le_refl _⟩, ⟨(y0 BK566.out)⟩, ⟨(y0 BK567.out)⟩, ⟨(y3 HB.out GE566.out GE567.out)⟩⟩
  case round =>
   clear H'
   try clear c1
   try clear p2
   try clear c4
   try clear c6
   try clear c9
   try clear c9b0
   try clear c9b1
   try clear c9b2
   try clear c10
   try clear hcz11_0
   try clear hcz7_0
   try clear hcz8_0
   try clear hfz11_0
   try clear hfz7_0
   try clear hfz8_0
   (try clear BK566); (try clear BK567)
   obtain ⟨x16_1, rfl, HA, HK1, BK566, BK567, HB⟩ := hrel
   cases gk with
   | zero => exact absurd HA.out (by simp [impl_typeSame.l0])
   | succ k1 =>
    have H := HA.out
    clear HA
    simp only [impl_typeSame.l0] at H
    by_cases c12 : x16_1 < (l0_0.length : Int)
    ·rw [if_pos c12] at H
     have c12b0 : decide (x16_1 < (l0_0.length : Int)) = true := decide_eq_true c12
     clear c12
     by_cases c13 : 0 ≤ x16_1
     ·rw [if_pos c13] at H
      have c13b0 : decide (0 ≤ x16_1) = true := decide_eq_true c13
      clear c13
      by_cases c14 : x16_1 < (l0_0.length : Int)
      ·rw [if_pos c14] at H
       have c14b0 : decide (x16_1 < (l0_0.length : Int)) = true := decide_eq_true c14
       clear c14
       by_cases c15 : x16_1 < (l1_0.length : Int)
       ·rw [if_pos c15] at H
        have c15b0 : decide (x16_1 < (l1_0.length : Int)) = true := decide_eq_true c15
        clear c15
        obtain ⟨t570, A160, H⟩ := ob H
        have A16 := Aside0.mk A160
        clear A160
        have HZ17 := Aside0.mk H
        clear H
        try go_wp2
        replace BK566 := Aside0.mk (blk_drew BK566.out)
        replace BK567 := Aside0.mk (blk_drew BK567.out)
        replace HB := Aside0.mk (below_drew1 HB.out)
        have p568 : 0 ≤ (x16_1 : Int) := of_decide_eq_true y23
        have q568 : x16_1 < (l0_0.length : Int) := of_decide_eq_true y23
        obtain ⟨ad568, A568_0, c568_0, e568, hx568_0, hl568_0, hi568_0⟩ := at_T50 HR0_0.out x16_1 p568 q568
        have hw568_0 := hx568_0
        cases e568
        replace hx568_0 := (HB.out.cell (World.block_lt_of_cell? w _ hx568_0)).trans hx568_0
        have HR568_0 := Aside0.mk hi568_0
        have HC568_0 := Aside0.mk hl568_0
        clear hi568_0 hl568_0
        replace p568 := eq_true p568
        replace q568 := eq_true q568
        have p569 : 0 ≤ (x16_1 : Int) := of_decide_eq_true y23
        have q569 : x16_1 < (l1_0.length : Int) := of_decide_eq_true y23
        obtain ⟨ad569, A569_0, c569_0, e569, hx569_0, hl569_0, hi569_0⟩ := at_T50 HR1_0.out x16_1 p569 q569
        have hw569_0 := hx569_0
        cases e569
        replace hx569_0 := (HB.out.cell (World.block_lt_of_cell? w _ hx569_0)).trans hx569_0
        have HR569_0 := Aside0.mk hi569_0
        have HC569_0 := Aside0.mk hl569_0
        clear hi569_0 hl569_0
        replace p569 := eq_true p569
        replace q569 := eq_true q569
        refine start_ (n := 12) (S := fun w' => w'.cell? ⟨gb566, 0, none⟩ = some (.slice (some ad568) l0_0.length c0_0) ∧ w'.cell? ⟨gb567, 0, none⟩ = some (.slice (some ad569) l1_0.length c1_0) ∧ w'.cell? (ad568.add (x16_1).toNat) = some (.slice A568_0 ((rd_T50 l0_0 x16_1).f0).length c568_0) ∧ w'.cell? (ad569.add (x16_1).toNat) = some (.slice A569_0 ((rd_T50 l1_0 x16_1).f0).length c569_0)) (ds := []) #[false, false, false, false, false, false, false, false, false, false, false, false] (by kernel_rfl) rfl rfl ⟨(blk_cell BK566.out 0).trans rfl, (blk_cell BK567.out 0).trans rfl, ((HB.out.cell (World.block_lt_of_cell? w _ hw568_0)).trans hw568_0), ((HB.out.cell (World.block_lt_of_cell? w _ hw569_0)).trans hw569_0)⟩ (fun hHeld => ?_); refine with_tabW impl_typeSame.tab6 impl_typeSame.bits6 (fun HT_ HW_ => ?_)
        generalize wr.drew = w18 at BK566 BK567 HB HR568_0 HR569_0 hx568_0 hx569_0 hHeld ⊢
        refine zp 0 (some 19) HT_ ?_
        refine zp 2 (some 21) HT_ ?_
        refine zp 5 (some 24) HT_ ?_
        refine zp 7 (some 26) HT_ ?_
        refine zt4 1 (some 20) HT_ HW_ hHeld ?_
        refine zp 3 (some 22) HT_ ?_
        refine zt4 4 (some 23) HT_ HW_ hHeld ?_
        refine zt4 6 (some 25) HT_ HW_ hHeld ?_
        refine zp 8 (some 27) HT_ ?_
        refine zt4 9 (some 28) HT_ HW_ hHeld ?_
        refine one_ (i := 10) (N := some 29) #[true, true, true, true, true, true, true, true, true, true, true, false] rfl rfl (one_of HT_.out (by kernel_rfl)) (by decide) (fun K hK => ?_)
        refine goes_ Try.func46 (by kernel_rfl) rfl #[.agg #[.slice A568_0 ((rd_T50 l0_0 x16_1).f0).length c568_0], .agg #[.slice A569_0 ((rd_T50 l1_0 x16_1).f0).length c569_0]] (by rfl) rfl rfl y9 ?_
        with_reducible refine (ih k1 (y69 HK1.out) _ _ ((rd_T50 l0_0 x16_1).f0) _ _ ((rd_T50 l1_0 x16_1).f0) t570 _ ?side1 ?side2 ?side3 ?side4 A16.out).mono ?_
        (case side1 => exact y18 HR568_0.out HB.out)
        (case side2 => exact HC568_0.out)
        (case side3 => exact y18 HR569_0.out HB.out)
        (case side4 => exact HC569_0.out)
        rintro e w19 ⟨rfl, hb⟩
        refine ⟨_, rfl, ?_⟩
        replace BK566 := zbb BK566 hb
        replace BK567 := zbb BK567 hb
        replace HB := Aside0.mk (below_step (y3 HB.out GE566.out GE567.out) hb)
        (try clear hb)
        (try clear hb2)
        (try clear hk)
        (try clear hi)
        refine hK.out _ _ ⟨(blk_cell BK566.out 0).trans rfl, (blk_cell BK567.out 0).trans rfl, ((HB.out.cell (World.block_lt_of_cell? w _ hw568_0)).trans hw568_0), ((HB.out.cell (World.block_lt_of_cell? w _ hw569_0)).trans hw569_0)⟩ (fun hHeld => ?_)
        clear hK K
        refine norm_ (a' := ?_) ?_ ?_
        rotate_left
        ·show Act.put _ (some 29) _ = _
         simp only [Act.put, List.setIfInBounds_toArray, List.set_cons_zero, List.set_cons_succ, i64_w, i32_w]
         rfl
        refine zp 11 (some 30) HT_ ?_
        refine done_ (done_of HT_.out (by kernel_rfl)) ?_
        have H := HZ17.out
        clear HZ17
        by_cases c20 : t570 = true
        ·subst c20
         rw [if_pos rfl] at H
         have H' := Aside0.mk H
         clear H
         go_wp2
         go_roundg k1
         case measure => have := HK1.out; omega
         case rel => exact ⟨(wrap64 (x16_1 + 1)), y29, H', ⟨(y69 HK1.out)⟩, ⟨(y0 BK566.out)⟩, ⟨(y0 BK567.out)⟩, ⟨(y3 HB.out GE566.out GE567.out)⟩⟩
        ·replace c20 := Bool.eq_false_iff.mpr c20
         subst c20
         rw [if_neg (show ¬ (false = true) by decide)] at H
         obtain rfl := Option.some.inj H
         go_wp2
         go_ret
         exact ⟨y15, (y3 HB.out GE566.out GE567.out)⟩
       ·rw [if_neg c15] at H
        exact absurd H (by simp)
      ·rw [if_neg c14] at H
       exact absurd H (by simp)
     ·rw [if_neg c13] at H
      exact absurd H (by simp)
    ·rw [if_neg c12] at H
     have c12b0 : decide (x16_1 < (l0_0.length : Int)) = false := decide_eq_false c12
     clear c12
     obtain rfl := Option.some.inj H
     go_wp2
     go_ret
     exact ⟨y15, (y3 HB.out GE566.out GE567.out)⟩
 ·rw [if_neg c9] at H
  have c9b0 : ((l0_0.length : Int) == (l1_0.length : Int)) = false := beq_eq_false_iff_ne.mpr c9
  have c9b1 : ((l0_0.length : Int) != (l1_0.length : Int)) = true := bne_iff_ne.mpr c9
  have c9b2 : (l0_0.length == l1_0.length) = false := by first | simpa using c9 | (simp at c9 ⊢; omega)
  (first | rw [c9b0] | (simp only [i64_w, i32_w]; rw [c9b0]) | skip)
  obtain rfl := Option.some.inj H
  go_wp2
  go_ret
  exact ⟨y15, (y3 HB.out GE566.out GE567.out)⟩
end Go.Proofs.Ythfflieeifakdaa.PA
end
section
namespace Go.Proofs.Ythfflieeifakdaa.PA
open Go.RowKit Go.Proofs.YthfflieeifakdaaW.PrintWords Go.Proofs.YthfflieeifakdaaW.PrintLast Go.Proofs.YthfflieeifakdaaW.PrintMore
attribute [local go_sem] max2_int min2_int max_two min_two max_three min_three max_four min_four
set_option linter.unusedVariables false
set_option linter.unusedSimpArgs false
mutual
def impl_valWith.l0 : Nat → List Int → List (S25) → List (S25) → Int → Int → Int → List (S25) → Option (Int × (List (S25)))
 | 0, _, _, _, _, _, _, _ => none
 | k + 1, x1, x7, x19, x20, x21, x573000, x573001 => if x21 < x20 then (if 0 ≤ x21 then (if x21 < (x19.length : Int) then (if 0 < (x1.length : Int) then (if x21 = (rd x1 0) then (if 1 ≤ (x1.length : Int) then ((impl_valWith.f k ((rd_T25 x19 x21).f0) ((rd_T25 x19 x21).f1) (x1.drop 1) x573000 x573001).bind fun bt585 => (if x21 < (x7.length : Int) then (impl_valWith.l0 k x1 (x7.set (x21 : Int).toNat (⟨bt585.1, bt585.2⟩ : S25)) x19 x20 (wrap64 (x21 + 1)) x573000 x573001) else (none))) else (none)) else ((impl_valCopy.f k ((rd_T25 x19 x21).f0) ((rd_T25 x19 x21).f1)).bind fun bt590 => (if x21 < (x7.length : Int) then (impl_valWith.l0 k x1 (x7.set (x21 : Int).toNat (⟨bt590.1, bt590.2⟩ : S25)) x19 x20 (wrap64 (x21 + 1)) x573000 x573001) else (none)))) else (none)) else (none)) else (none)) else (some (0, x7))
def impl_valWith.f : Nat → Int → List (S25) → List Int → Int → List (S25) → Option (Int × (List (S25)))
 | 0, _, _, _, _, _ => none
 | k + 1, a0_0, l0_1, l1, a2_0, l2_1 => if (l1.length : Int) = 0 then ((impl_valCopy.f k a2_0 l2_1).bind fun bt574 => (some (bt574.1, bt574.2))) else (impl_valWith.l0 k l1 (([(⟨0, ([] : List (S25))⟩ : S25), (⟨0, ([] : List (S25))⟩ : S25)] : List (S25))) l0_1 (l0_1.length : Int) 0 a2_0 l2_1)
end
theorem impl_valWith.mono_l : ∀ k, (∀ y0 y1 y2 y3 y4, LeO (impl_valWith.f k y0 y1 y2 y3 y4) (impl_valWith.f (k + 1) y0 y1 y2 y3 y4)) ∧ (∀ y0 y1 y2 y3 y4 y5 y6, LeO (impl_valWith.l0 k y0 y1 y2 y3 y4 y5 y6) (impl_valWith.l0 (k + 1) y0 y1 y2 y3 y4 y5 y6))
 | 0 => ⟨fun _ _ _ _ _ r h => by simp [impl_valWith.f] at h, fun _ _ _ _ _ _ _ r h => by simp [impl_valWith.l0] at h⟩
 | k + 1 => by
  obtain ⟨ih0, ih1⟩ := impl_valWith.mono_l k
  refine ⟨?_, ?_⟩
  ·intro y0 y1 y2 y3 y4
   unfold impl_valWith.f
   repeat' first
   | (with_reducible exact ih0 _ _ _ _ _)
   | (with_reducible exact ih1 _ _ _ _ _ _ _)
   | (with_reducible exact impl_valCopy.mono _ _ _)
   | (with_reducible exact LeO.refl _)
   | (with_reducible exact LeO.none _)
   | (with_reducible refine LeO.ite ?_ ?_)
   | (with_reducible refine LeO.bind ?_ (fun _ => ?_))
   | exact ih0 _ _ _ _ _
   | exact ih1 _ _ _ _ _ _ _
   | exact impl_valCopy.mono _ _ _
   | exact LeO.none _
   | refine LeO.ite ?_ ?_
   | refine LeO.bind ?_ (fun _ => ?_)
  ·intro y0 y1 y2 y3 y4 y5 y6
   unfold impl_valWith.l0
   repeat' first
   | (with_reducible exact ih0 _ _ _ _ _)
   | (with_reducible exact ih1 _ _ _ _ _ _ _)
   | (with_reducible exact impl_valCopy.mono _ _ _)
   | (with_reducible exact LeO.refl _)
   | (with_reducible exact LeO.none _)
   | (with_reducible refine LeO.ite ?_ ?_)
   | (with_reducible refine LeO.bind ?_ (fun _ => ?_))
   | exact ih0 _ _ _ _ _
   | exact ih1 _ _ _ _ _ _ _
   | exact impl_valCopy.mono _ _ _
   | exact LeO.none _
   | refine LeO.ite ?_ ?_
   | refine LeO.bind ?_ (fun _ => ?_)
theorem impl_valWith.mono : ∀ a0 a1 a2 a3 a4 k, LeO (impl_valWith.f k a0 a1 a2 a3 a4) (impl_valWith.f (k + 1) a0 a1 a2 a3 a4) := by
 intro a0 a1 a2 a3 a4 k
 obtain ⟨ih0, ih1⟩ := impl_valWith.mono_l k
 exact ih0 a0 a1 a2 a3 a4
def impl_valWith.T8 : Bool × List (List Nat × List Nat) := (true, [([], []), ([], []), ([], []), ([], []), ([3], [3]), ([], []), ([2, 4, 5], [2, 4, 5]), ([0, 1, 0, 1, 2, 3, 4, 5, 6], [0, 1]), ([7, 6, 6, 0, 1, 2, 3, 4, 5, 6], [6, 7])])
def impl_valWith.B8 : List Nat := [0, 0, 0, 0, 8, 0, 60, 127, 255]
theorem impl_valWith.tab8 : rtab .any (opsOf Try.f47 8) = impl_valWith.T8 := by kernel_rfl
theorem impl_valWith.bits8 : waitsOk impl_valWith.T8.2 impl_valWith.B8 = true := by kernel_rfl
set_option maxHeartbeats 8000000 in
set_option maxRecDepth 100000 in
theorem impl_valWith.calls (k : Nat) : ∀ (a0_0 : Int) (P0_1_ : Nat → Prop) (A0_1 : Option Addr) (c0_1 : Nat) (l0_1 : List (S25)) (A1 : Option Addr) (c1 : Nat) (l1 : List Int) (a2_0 : Int) (P2_1_ : Nat → Prop) (A2_1 : Option Addr) (c2_1 : Nat) (l2_1 : List (S25)) (r1 : Int) (r2 : List (S25)) (w : World) (hs0_1 : Kd.V k25 25 w w.heap.size (fun k_ => P0_1_ k_) (.slice A0_1 l0_1.length c0_1) l0_1) (hr1 : Kd.C (Kd.int .i64) w A1 l1.length l1) (hc1 : l1.length ≤ c1) (hs2_1 : Kd.V k25 25 w w.heap.size (fun k_ => P2_1_ k_) (.slice A2_1 l2_1.length c2_1) l2_1) (h : impl_valWith.f k a0_0 l0_1 l1 a2_0 l2_1 = some (r1, r2)),
  Calls Try.prog 47 #[.agg #[.int .i64 a0_0, .slice A0_1 l0_1.length c0_1], .slice A1 l1.length c1, .agg #[.int .i64 a2_0, .slice A2_1 l2_1.length c2_1]] w fun e w' => ∃ v1_ : Value, e = .returned (.agg #[.int .i64 r1, v1_]) ∧ Kd.N k25 25 w' w.heap.size (fun k_ => ((P0_1_ k_ ∨ P2_1_ k_) ∨ w.heap.size ≤ k_)) v1_ r2 ∧ Below w.heap.size w w' := by
 induction k using Nat.strongRecOn with
 | _ k ih =>
 intro a0_0 P0_1_ A0_1 c0_1 l0_1 A1 c1 l1 a2_0 P2_1_ A2_1 c2_1 l2_1 r1 r2 w hs0_1 hr1 hc1 hs2_1 h
 cases k with
 | zero => exact absurd h (by simp [impl_valWith.f])
 | succ k =>
 simp only [impl_valWith.f] at h
 have hu25 := Try.underlying25
 have HO0_1 := Aside0.mk (show Kd.V k25 25 w w.heap.size (fun k_ => ((P0_1_ k_ ∨ P2_1_ k_) ∨ w.heap.size ≤ k_)) (.slice A0_1 l0_1.length c0_1) l0_1 from Kd.V_mono hs0_1 (fun k_ hk => .inl (.inl hk)))
 have HR1 := Aside0.mk hr1
 have HC1 := Aside0.mk hc1
 clear hr1 hc1
 have HO2_1 := Aside0.mk (show Kd.V k25 25 w w.heap.size (fun k_ => ((P0_1_ k_ ∨ P2_1_ k_) ∨ w.heap.size ≤ k_)) (.slice A2_1 l2_1.length c2_1) l2_1 from Kd.V_mono hs2_1 (fun k_ hk => .inl (.inr hk)))
 have HB := Aside0.mk (Below.refl w.heap.size w)
 have H : (if (l1.length : Int) = 0 then ((impl_valCopy.f k a2_0 l2_1).bind fun bt574 => (some (bt574.1, bt574.2))) else (impl_valWith.l0 k l1 (([(⟨0, ([] : List (S25))⟩ : S25), (⟨0, ([] : List (S25))⟩ : S25)] : List (S25))) l0_1 (l0_1.length : Int) 0 a2_0 l2_1)) = some (r1, r2) := h
 clear h
 have HZ4 := Aside0.mk H
 clear H
 go_enter Try.func47, Try.ntmps47
 go_upto_if 12 with (first | ((with_reducible refine gate_dst (N := 3) rfl ?_); refine zbx 3 #[.int .i64 a0_0, .slice A0_1 l0_1.length c0_1] 25 ?_; intro gb571 hg w5 hbox hb; replace HO0_1 := Aside0.mk (Kd.V_below (Kd.V_elderB (y11 HO0_1.out) gb571 (Nat.le_of_eq hg.symm)) hb); replace HO2_1 := Aside0.mk (Kd.V_below (Kd.V_elderB (y11 HO2_1.out) gb571 (Nat.le_of_eq hg.symm)) hb); have BK571 := Aside0.mk hbox; have GW571 := Aside0.mk ((y10 hg HB.out : w.heap.size ≤ gb571)); have GE571 := Aside0.mk ((y10 hg HB.out : w.heap.size ≤ gb571)); replace HB := Aside0.mk (below_step (y6 HB.out) hb); clear hb hbox hg) | ((with_reducible refine gate_dst (N := 5) rfl ?_); refine zbx 5 #[.int .i64 a2_0, .slice A2_1 l2_1.length c2_1] 25 ?_; intro gb572 hg w6 hbox hb; replace HO0_1 := Aside0.mk (Kd.V_below (Kd.V_elderB (y11 HO0_1.out) gb572 (Nat.le_of_eq hg.symm)) hb); replace HO2_1 := Aside0.mk (Kd.V_below (Kd.V_elderB (y11 HO2_1.out) gb572 (Nat.le_of_eq hg.symm)) hb); have BK572 := Aside0.mk hbox; have GW572 := Aside0.mk ((y12 hg HB.out GE571.out : w.heap.size ≤ gb572)); have GE572 := Aside0.mk ((y12 hg HB.out GE571.out : w.heap.size ≤ gb572)); replace HB := Aside0.mk (below_step (y7 HB.out GE571.out) hb); have NB571_572 := zltn hg BK571; have NB572_571 := zgtn hg BK571; replace BK571 := zbb BK571 hb; clear hb hbox hg) | ((with_reducible refine gate_dst (N := 6) rfl ?_); refine zbx 6 #[.int .i64 0, .slice none 0 0] 25 ?_; intro gb573 hg w7 hbox hb; replace HO0_1 := Aside0.mk (Kd.V_below (Kd.V_elderB (y11 HO0_1.out) gb573 (Nat.le_of_eq hg.symm)) hb); replace HO2_1 := Aside0.mk (Kd.V_below (Kd.V_elderB (y11 HO2_1.out) gb573 (Nat.le_of_eq hg.symm)) hb); have BK573 := Aside0.mk hbox; have GW573 := Aside0.mk ((y16 hg HB.out GE571.out GE572.out : w.heap.size ≤ gb573)); have GE573 := Aside0.mk ((y16 hg HB.out GE571.out GE572.out : w.heap.size ≤ gb573)); replace HB := Aside0.mk (below_step (y3 HB.out GE571.out GE572.out) hb); have NB571_573 := zltn hg BK571; have NB573_571 := zgtn hg BK571; replace BK571 := zbb BK571 hb; have NB572_573 := zltn hg BK572; have NB573_572 := zgtn hg BK572; replace BK572 := zbb BK572 hb; clear hb hbox hg))
 (try simp only [Act.put, List.setIfInBounds_toArray, List.set_cons_zero, List.set_cons_succ])
 have H := HZ4.out
 clear HZ4
 by_cases c8 : (l1.length : Int) = 0
 ·rw [if_pos c8] at H
  have c8b0 : ((l1.length : Int) == 0) = true := beq_iff_eq.mpr c8
  have c8b1 : ((l1.length : Int) != 0) = false := bne_eq_false_iff_eq.mpr c8
  clear c8
  (first | rw [c8b0] | (simp only [i64_w, i32_w]; rw [c8b0]) | skip)
  obtain ⟨⟨t574, t575⟩, A90, H⟩ := ob H
  have A9 := Aside0.mk A90
  clear A90
  simp only [Option.some.injEq, Prod.mk.injEq] at H
  obtain ⟨rfl, rfl⟩ := H
  have hnb10 := NB572_571.out
  have hnc10 := NB571_572.out
  have hnb11 := NB572_573.out
  have hnc11 := NB573_572.out
  have hcz12_0 := zh BK572
  have hcz12_1 := zh1 BK572
  have hfz12_0 := zfr BK572 0
  have hfz12_1 := zfr BK572 1
  go_wp2_with (first | ((with_reducible refine gate_callee (f := 40) rfl ?_); refine goesL_ (some 14) rfl rfl Try.func40 (by kernel_rfl) rfl #[.agg #[.int .i64 a2_0, .slice A2_1 l2_1.length c2_1]] rfl y9 ?_; (with_reducible refine (impl_valCopy.calls k a2_0 _ _ l2_1 t574 t575 _ ?side1 ?side2 A9.out).mono ?_); (case side1 => exact y33 HO2_1.out); (case side2 => exact (Kd.V_reads' HO2_1.out).2.1); rintro e w13 ⟨v576, rfl, ho0, hb⟩; refine ⟨_, rfl, ?_⟩; replace HO0_1 := Aside0.mk (Kd.V_elder' (y11 HO0_1.out) (Kd.N_base ho0) hb); replace HO2_1 := Aside0.mk (Kd.V_elder' (y11 HO2_1.out) (Kd.N_base ho0) hb); have HO577 := Aside0.mk (Kd.N_lower (Kd.N_mono (ok' := fun k_ => ((P0_1_ k_ ∨ P2_1_ k_) ∨ w.heap.size ≤ k_) ∧ k_ ≠ gb571 ∧ k_ ≠ gb572 ∧ k_ ≠ gb573) ho0 (fun k_ hk_ => ⟨(.inr (Nat.le_trans (below_size (y4 HB.out GE571.out GE572.out GE573.out)) hk_)), (Kd.freshB (g := gb571) (o := .cells #[.int .i64 a0_0, .slice A0_1 l0_1.length c0_1] 25 (0, 0)) (y0 BK571.out) k_ hk_), (Kd.freshB (g := gb572) (o := .cells #[.int .i64 a2_0, .slice A2_1 l2_1.length c2_1] 25 (0, 0)) (y0 BK572.out) k_ hk_), (Kd.freshB (g := gb573) (o := .cells #[.int .i64 0, .slice none 0 0] 25 (0, 0)) (y0 BK573.out) k_ hk_)⟩)) (below_size (y4 HB.out GE571.out GE572.out GE573.out))); replace BK571 := zbb BK571 hb; replace BK572 := zbb BK572 hb; replace BK573 := zbb BK573 hb; replace HB := Aside0.mk (below_step (y4 HB.out GE571.out GE572.out GE573.out) hb); (try clear hb); (try clear hb2); (try clear hk); (try clear hi); (try clear ho0); have hnb14 := NB573_571.out; have hnc14 := NB571_573.out; have hcz15_0 := zh BK573; have hcz15_1 := zh1 BK573; have hfz15_0 := zfr BK573 0; have hfz15_1 := zfr BK573 1; obtain ⟨Ao16, co16, eo16⟩ := Kd.N_slice HO577.out; subst eo16))
  refine bodyPost_ret (results_cell_row rfl _ _ gb573 25 #[.int .i64 t574, .slice Ao16 t575.length co16] (0, 0) _ rfl (by (with_reducible repeat (first | refine blk_drewN ?_ _ | refine blk_drew ?_ | refine blk_alloc ?_ _)); refine blk_put (cs := #[.int .i64 t574, .slice none 0 0]) ?_ 1 _ rfl; (with_reducible repeat (first | refine blk_drewN ?_ _ | refine blk_drew ?_ | refine blk_alloc ?_ _)); apply blk_put (i := 0); (case h => exact y0 BK573.out); (case e => rfl)) Try.underlying25 rfl (by kernel_rfl)) rfl ?_
  exact ⟨_, y15, (by (with_reducible repeat (first | apply Kd.N_alloc | apply Kd.N_drewN | apply Kd.N_drew)); exact Kd.N_mono (Kd.N_far (p := ⟨gb573, 1, none⟩) (Kd.N_far (p := ⟨gb573, 0, none⟩) (Kd.N_mono HO577.out (fun k_ hk => (⟨hk, hk.2.2.2⟩ : _ ∧ k_ ≠ gb573))) (fun _ hk => hk.2) (.int .i64 t574)) (fun _ hk => hk.2) (.slice Ao16 t575.length co16)) (fun _ hk => hk.1.1)), (y4 HB.out GE571.out GE572.out GE573.out)⟩
 ·rw [if_neg c8] at H
  have c8b0 : ((l1.length : Int) == 0) = false := beq_eq_false_iff_ne.mpr c8
  have c8b1 : ((l1.length : Int) != 0) = true := bne_iff_ne.mpr c8
  have c8b2 : ¬ (l1 = []) := fun h_ => c8 (by rw [h_]; rfl)
  (first | rw [c8b0] | (simp only [i64_w, i32_w]; rw [c8b0]) | skip)
  obtain ⟨y578, hy578⟩ : ∃ y_ : List (S25), y_ = (([(⟨0, ([] : List (S25))⟩ : S25), (⟨0, ([] : List (S25))⟩ : S25)] : List (S25))) := ⟨_, rfl⟩
  replace H : (impl_valWith.l0 k l1 y578 l0_1 (l0_1.length : Int) 0 a2_0 l2_1) = some (r1, r2) := by first | (rw [hy578]; with_reducible exact H) | (have H2_ := (Option.bind_some _ _).symm.trans H; rw [hy578]; with_reducible exact H2_) | (have H2_ := (Option.bind_some _ _).symm.trans H; with_reducible exact H2_) | with_reducible exact H | (rw [hy578]; exact H) | exact H
  have Ny578 := Aside0.mk hy578
  clear hy578
  have H' := Aside0.mk H
  clear H
  go_wp2_with (first | ((with_reducible refine gate_dst (N := 17) rfl ?_); refine Kd.N_lit k25 _ 25 ?hg (N' := 17) ?hd (xs := ([(⟨0, ([] : List (S25))⟩ : S25), (⟨0, ([] : List (S25))⟩ : S25)] : List (S25))) (inner := [.int .i64 0, .slice none 0 0, .int .i64 0, .slice none 0 0]) (ok := (fun k_ => ((P0_1_ k_ ∨ P2_1_ k_) ∨ w.heap.size ≤ k_) ∧ k_ ≠ gb571 ∧ k_ ≠ gb572 ∧ k_ ≠ gb573)) (okp := (fun k_ => ((P0_1_ k_ ∨ P2_1_ k_) ∨ w.heap.size ≤ k_) ∧ k_ ≠ gb571 ∧ k_ ≠ gb572 ∧ k_ ≠ gb573)) ?hr ?hp (fun _ hk => hk) ((show ∀ k_, w7.heap.size ≤ k_ → (fun k_ => ((P0_1_ k_ ∨ P2_1_ k_) ∨ w.heap.size ≤ k_) ∧ k_ ≠ gb571 ∧ k_ ≠ gb572 ∧ k_ ≠ gb573) k_ from fun k_ hk => ⟨(.inr (Nat.le_trans (below_size (y4 HB.out GE571.out GE572.out GE573.out)) hk)), Kd.freshB (g := gb571) (o := .cells #[.int .i64 a0_0, .slice A0_1 l0_1.length c0_1] 25 (0, 0)) (y0 BK571.out) k_ hk, Kd.freshB (g := gb572) (o := .cells #[.int .i64 a2_0, .slice A2_1 l2_1.length c2_1] 25 (0, 0)) (y0 BK572.out) k_ hk, Kd.freshB (g := gb573) (o := .cells #[.int .i64 0, .slice none 0 0] 25 (0, 0)) (y0 BK573.out) k_ hk⟩) _ (Nat.le_refl _)) (Below.refl _ _) (Nat.le_refl _) (by simp) ?_; (case hd => rfl); (case hg => rfl); (case hr => first | (go_simp; done) | (go_simp; rfl)); (case hp => exact (Reps.c2 (show Kd.FK k25 _ _ (⟨0, ([] : List (S25))⟩ : S25) [.int .i64 0, .slice none 0 0] from (k25_mkF _ _ (⟨0, ([] : List (S25))⟩ : S25) (Nat.le_refl _) (Kd.F_nil _ _ _))) (Reps.c2 (show Kd.FK k25 _ _ (⟨0, ([] : List (S25))⟩ : S25) [.int .i64 0, .slice none 0 0] from (k25_mkF _ _ (⟨0, ([] : List (S25))⟩ : S25) (Nat.le_refl _) (Kd.F_nil _ _ _))) (Reps.none _ _)))); intro v579 w17 ho18 hb hg_ hnew_; clear hg_ hnew_; (first | rw [← Ny578.out] at ho18 | (simp only [Int.reduceToNat] at ho18; rw [← Ny578.out] at ho18)); replace HO0_1 := Aside0.mk (Kd.V_elder' (y11 HO0_1.out) (Kd.N_base ho18) hb); replace HO2_1 := Aside0.mk (Kd.V_elder' (y11 HO2_1.out) (Kd.N_base ho18) hb); have HO580 := Aside0.mk (Kd.N_lower ho18 (below_size (y4 HB.out GE571.out GE572.out GE573.out))); replace BK571 := zbb BK571 hb; replace BK572 := zbb BK572 hb; replace BK573 := zbb BK573 hb; replace HB := Aside0.mk (below_step (y4 HB.out GE571.out GE572.out GE573.out) hb); clear hb ho18; have hnb19 := NB571_572.out; have hnc19 := NB572_571.out; have hnb20 := NB571_573.out; have hnc20 := NB573_571.out; have hcz21_0 := zh BK571; have hcz21_1 := zh1 BK571; have hfz21_0 := zfr BK571 0; have hfz21_1 := zfr BK571 1))
  go_loopg [21] k (fun kq v21 w' => ∃ (x7_1 : List (S25)) (x21_1 : Int) (x572000_1 : Int) (x572001_1 : List (S25)) (x573000_1 : Int) (x573001_1 : List (S25)) (x574000_1 : Int) (u572001 : Value) (u573001 : Value), v21 = .int .i64 x21_1 ∧ Aside0 (impl_valWith.l0 kq l1 x7_1 l0_1 (l0_1.length : Int) x21_1 x573000_1 x573001_1 = some (r1, r2)) ∧ Aside0 (kq ≤ k) ∧ Aside0 (Kd.N k25 25 w' w.heap.size (fun k_ => ((P0_1_ k_ ∨ P2_1_ k_) ∨ w.heap.size ≤ k_) ∧ k_ ≠ gb571 ∧ k_ ≠ gb572 ∧ k_ ≠ gb573) v579 x7_1) ∧ Aside0 (Kd.V k25 25 w' w.heap.size (fun k_ => ((P0_1_ k_ ∨ P2_1_ k_) ∨ w.heap.size ≤ k_) ∧ some k_ ≠ (v579 : Value).ownBlock ∧ k_ ≠ gb571 ∧ k_ ≠ gb572 ∧ k_ ≠ gb573) (.slice A0_1 l0_1.length c0_1) l0_1) ∧ Aside0 (Kd.V k25 25 w' w.heap.size (fun k_ => ((P0_1_ k_ ∨ P2_1_ k_) ∨ w.heap.size ≤ k_) ∧ some k_ ≠ (v579 : Value).ownBlock ∧ k_ ≠ gb571 ∧ k_ ≠ gb572 ∧ k_ ≠ gb573) u572001 x572001_1) ∧ Aside0 (Kd.V k25 25 w' w.heap.size (fun k_ => ((P0_1_ k_ ∨ P2_1_ k_) ∨ w.heap.size ≤ k_) ∧ some k_ ≠ (v579 : Value).ownBlock ∧ k_ ≠ gb571 ∧ k_ ≠ gb572 ∧ k_ ≠ gb573) u573001 x573001_1) ∧ Aside0 (w'.heap[gb571]? = some (.cells #[.int .i64 x572000_1, u572001] 25 (0, 0))) ∧ Aside0 (w'.heap[gb572]? = some (.cells #[.int .i64 x573000_1, u573001] 25 (0, 0))) ∧ Aside0 (w'.heap[gb573]? = some (.cells #[.int .i64 x574000_1, (.slice none 0 0)] 25 (0, 0))) ∧ Aside0 (Below w.heap.size w w'))
  case atStart => exact ⟨(y578), (0), (a0_0), (l0_1), (a2_0), (l2_1), (0), (.slice A0_1 l0_1.length c0_1), (.slice A2_1 l2_1.length c2_1), y29, H', ⟨Nat.le_refl _⟩, ⟨(y2 HO580.out)⟩, ⟨(y80 HO0_1.out)⟩, ⟨(y80 HO0_1.out)⟩, ⟨(y80 HO2_1.out)⟩, ⟨(y0 BK571.out)⟩, ⟨(y0 BK572.out)⟩, ⟨(y0 BK573.out)⟩, ⟨(y4 HB.out GE571.out GE572.out GE573.out)⟩⟩
  case round =>
   clear H'
   try clear c1
   try clear c2
   try clear p2
   try clear c4
   try clear c8
   try clear c8b0
   try clear c8b1
   try clear c8b2
   try clear c10
   try clear c11
   try clear c14
   try clear c19
   try clear c20
   try clear hcz12_0
   try clear hcz12_1
   try clear hcz15_0
   try clear hcz15_1
   try clear hcz21_0
   try clear hcz21_1
   try clear hfz12_0
   try clear hfz12_1
   try clear hfz15_0
   try clear hfz15_1
   try clear hfz21_0
   try clear hfz21_1
   (try clear BK571); (try clear BK572); (try clear BK573)
   obtain ⟨x7_1, x21_1, x572000_1, x572001_1, x573000_1, x573001_1, x574000_1, u572001, u573001, rfl, HA, HK1, HO_7, HO_19, HO_572001, HO_573001, BK571, BK572, BK573, HB⟩ := hrel
   cases gk with
   | zero => exact absurd HA.out (by simp [impl_valWith.l0])
   | succ k1 =>
    have H := HA.out
    clear HA
    simp only [impl_valWith.l0] at H
    by_cases c22 : x21_1 < (l0_1.length : Int)
    ·rw [if_pos c22] at H
     have c22b0 : decide (x21_1 < (l0_1.length : Int)) = true := decide_eq_true c22
     clear c22
     by_cases c23 : 0 ≤ x21_1
     ·rw [if_pos c23] at H
      have c23b0 : decide (0 ≤ x21_1) = true := decide_eq_true c23
      clear c23
      by_cases c24 : x21_1 < (l0_1.length : Int)
      ·rw [if_pos c24] at H
       have c24b0 : decide (x21_1 < (l0_1.length : Int)) = true := decide_eq_true c24
       clear c24
       by_cases c25 : 0 < (l1.length : Int)
       ·rw [if_pos c25] at H
        have c25b0 : decide (0 < (l1.length : Int)) = true := decide_eq_true c25
        have c25b1 : decide (0 < l1.length) = true := decide_eq_true (by omega)
        clear c25
        have HZ26 := Aside0.mk H
        clear H
        have p581 : 0 ≤ (x21_1 : Int) := of_decide_eq_true y23
        have q581 : x21_1 < (l0_1.length : Int) := of_decide_eq_true y23
        obtain ⟨ad581, A581_1, c581_1, e581, hx581_0, hx581_1, hl581_1, hi581_1⟩ := at_T25 (Kd.V_reads' HO_19.out).2.2 x21_1 p581 q581
        cases e581
        obtain ⟨ce581, hce581, hMe581, hcc581⟩ := Kd.V_get HO_19.out z25 x21_1 p581 (by first | exact q581 | exact of_decide_eq_true y23 | (have e_ := (Kd.V_reads' HO_19.out).1; omega))
        obtain ⟨ua581_1, uc581_1, rfl, ul581_1, ge581_1⟩ := k25_openF hMe581
        have hv581_1 := hcc581 1 _ rfl
        rw [add_field _ _ 1 (by omega)] at hv581_1
        replace hv581_1 := Option.some.inj (hv581_1.symm.trans hx581_1)
        injection hv581_1 with hva_ hvn_ hvc_
        rw [hva_] at ge581_1
        rw [hvc_] at ul581_1
        have HL581_1 := Aside0.mk (show Kd.V k25 25 _ w.heap.size _ _ ((rd_T25 l0_1 x21_1).f1) from Kd.V_mk ul581_1 ge581_1)
        clear hva_ hvn_ hvc_ ge581_1 ul581_1
        clear hcc581 hce581
        have HR581_1 := Aside0.mk hi581_1
        have HC581_1 := Aside0.mk hl581_1
        clear hi581_1 hl581_1
        replace p581 := eq_true p581
        replace q581 := eq_true q581
        go_upto_if 30 with (first | ((with_reducible refine gate_dst (N := 9) rfl ?_); refine zbx 9 #[.int .i64 0, .slice none 0 0] 25 ?_; intro gb582 hg w27 hbox hb; replace HO_7 := Aside0.mk (Kd.N_below (Kd.N_elderB (y2 HO_7.out) gb582 (Nat.le_of_eq hg.symm)) hb); replace HO_19 := Aside0.mk (Kd.V_below (Kd.V_elderB (y11 HO_19.out) gb582 (Nat.le_of_eq hg.symm)) hb); replace HO_572001 := Aside0.mk (Kd.V_below (Kd.V_elderB (y11 HO_572001.out) gb582 (Nat.le_of_eq hg.symm)) hb); replace HO_573001 := Aside0.mk (Kd.V_below (Kd.V_elderB (y11 HO_573001.out) gb582 (Nat.le_of_eq hg.symm)) hb); replace HL581_1 := Aside0.mk (Kd.V_below (Kd.V_elderB (y11 HL581_1.out) gb582 (Nat.le_of_eq hg.symm)) hb); replace HR581_1 := Aside0.mk (Kd.C_below (by repeat (first | (with_reducible exact HR581_1.out) | (with_reducible refine Kd.C_alloc ?_ _) | (with_reducible refine Kd.C_drewN ?_ _) | (with_reducible refine Kd.C_drew ?_) | exact HR581_1.out)) hb); have BK582 := Aside0.mk hbox; have GW582 := Aside0.mk ((y20 hg HB.out GE571.out GE572.out GE573.out : w.heap.size ≤ gb582)); have GE582 := Aside0.mk ((y20 hg HB.out GE571.out GE572.out GE573.out : w.heap.size ≤ gb582)); replace HB := Aside0.mk (below_step (y4 HB.out GE571.out GE572.out GE573.out) hb); have NB571_582 := zltn hg BK571; have NB582_571 := zgtn hg BK571; replace BK571 := zbb BK571 hb; have NB572_582 := zltn hg BK572; have NB582_572 := zgtn hg BK572; replace BK572 := zbb BK572 hb; have NB573_582 := zltn hg BK573; have NB582_573 := zgtn hg BK573; replace BK573 := zbb BK573 hb; clear hb hbox hg; have hnb28 := NB582_571.out; have hnc28 := NB571_582.out; have hnb29 := NB582_572.out; have hnc29 := NB572_582.out; have hnb30 := NB582_573.out; have hnc30 := NB573_582.out; have hcz31_0 := zh BK582; have hcz31_1 := zh1 BK582; have hfz31_0 := zfr BK582 0; have hfz31_1 := zfr BK582 1; have p583 : 0 ≤ (0 : Int) := (by omega); have q583 : 0 < (l1.length : Int) := of_decide_eq_true y23; obtain ⟨ad583, e583, hx583_0⟩ := Kd.at_int HR1.out 0 p583 q583; cases e583; have qi583 : (0 < l1.length) = True := eq_true (by omega); (try rw [show ((0 : Int)).toNat = 0 from rfl] at hx583_0); (try rw [Addr.add_zero'] at hx583_0); have hn583_0 : ad583.block ≠ gb582 := Nat.ne_of_lt (Nat.lt_of_lt_of_le (by have := World.block_lt_of_cell? _ _ hx583_0; first | rwa [add_block] at this | exact this) GW582.out); have hn583_1 : ad583.block ≠ gb582 := Nat.ne_of_lt (Nat.lt_of_lt_of_le (by have := World.block_lt_of_cell? _ _ hx583_0; first | rwa [add_block] at this | exact this) GW582.out); replace hx583_0 := (HB.out.cell (World.block_lt_of_cell? w _ hx583_0)).trans hx583_0; replace hx583_0 := (cell_far (p := ⟨gb582, 0, none⟩) (by first | (rw [add_block]; exact hn583_0) | (show (Addr.add _ _).block ≠ _; rw [add_block]; exact hn583_0) | exact hn583_0) (.int .i64 ((rd_T25 l0_1 x21_1).f0))).trans hx583_0; replace hx583_0 := (cell_far (p := ⟨gb582, 1, none⟩) (by first | (rw [add_block]; exact hn583_1) | (show (Addr.add _ _).block ≠ _; rw [add_block]; exact hn583_1) | exact hn583_1) (.slice A581_1 ((rd_T25 l0_1 x21_1).f1).length c581_1)).trans hx583_0; clear hn583_0; clear hn583_1; replace p583 := eq_true p583; replace q583 := eq_true q583))
        (try simp only [Act.put, List.setIfInBounds_toArray, List.set_cons_zero, List.set_cons_succ])
        have H := HZ26.out
        clear HZ26
        by_cases c32 : x21_1 = (rd l1 0)
        ·rw [if_pos c32] at H
         have c32b0 : (x21_1 == (rd l1 0)) = true := beq_iff_eq.mpr c32
         have c32b1 : (x21_1 != (rd l1 0)) = false := bne_eq_false_iff_eq.mpr c32
         clear c32
         (first | rw [c32b0] | (simp only [i64_w, i32_w]; rw [c32b0]) | skip)
         by_cases c33 : 1 ≤ (l1.length : Int)
         ·rw [if_pos c33] at H
          have c33b0 := eq_true c33
          have c33b1 : decide (1 ≤ (l1.length : Int)) = true := decide_eq_true c33
          clear c33
          obtain ⟨⟨t585, t586⟩, A340, H⟩ := ob H
          have A34 := Aside0.mk A340
          clear A340
          by_cases c35 : x21_1 < (x7_1.length : Int)
          ·rw [if_pos c35] at H
           have c35b0 : decide (x21_1 < (x7_1.length : Int)) = true := decide_eq_true c35
           clear c35
           obtain ⟨y589, hy589⟩ : ∃ y_ : List (S25), y_ = (x7_1.set (x21_1 : Int).toNat (⟨t585, t586⟩ : S25)) := ⟨_, rfl⟩
           replace H : (impl_valWith.l0 k1 l1 y589 l0_1 (l0_1.length : Int) (wrap64 (x21_1 + 1)) x573000_1 x573001_1) = some (r1, r2) := by first | (rw [hy589]; with_reducible exact H) | (have H2_ := (Option.bind_some _ _).symm.trans H; rw [hy589]; with_reducible exact H2_) | (have H2_ := (Option.bind_some _ _).symm.trans H; with_reducible exact H2_) | with_reducible exact H | (rw [hy589]; exact H) | exact H
           have Ny589 := Aside0.mk hy589
           clear hy589
           have H' := Aside0.mk H
           clear H
           try go_wp2
           have n0_ : Aside0 (Kd.N k25 25 ((w27.setCell ⟨gb582, 0, none⟩ (.int .i64 ((rd_T25 l0_1 x21_1).f0))).setCell ⟨gb582, 1, none⟩ (.slice A581_1 ((rd_T25 l0_1 x21_1).f1).length c581_1)) w.heap.size (fun k_ => ((P0_1_ k_ ∨ P2_1_ k_) ∨ w.heap.size ≤ k_) ∧ k_ ≠ gb571 ∧ k_ ≠ gb572 ∧ k_ ≠ gb573 ∧ k_ ≠ gb582) v579 x7_1) := ⟨(by (with_reducible repeat (first | apply Kd.N_alloc | apply Kd.N_drewN | apply Kd.N_drew)); exact Kd.N_mono (Kd.N_far (p := ⟨gb582, 1, none⟩) (Kd.N_far (p := ⟨gb582, 0, none⟩) (Kd.N_mono HO_7.out (fun k_ hk => (⟨hk, hk.2⟩ : _ ∧ k_ ≠ gb582))) (fun _ hk => hk.2) (.int .i64 ((rd_T25 l0_1 x21_1).f0))) (fun _ hk => hk.2) (.slice A581_1 ((rd_T25 l0_1 x21_1).f1).length c581_1)) (fun _ hk => ⟨hk.1.1.1, ⟨hk.1.1.2.1, ⟨hk.1.1.2.2.1, ⟨hk.1.1.2.2.2, hk.1.2⟩⟩⟩⟩))⟩
           have n1_ : Aside0 (Kd.V k25 25 ((w27.setCell ⟨gb582, 0, none⟩ (.int .i64 ((rd_T25 l0_1 x21_1).f0))).setCell ⟨gb582, 1, none⟩ (.slice A581_1 ((rd_T25 l0_1 x21_1).f1).length c581_1)) w.heap.size (fun k_ => ((P0_1_ k_ ∨ P2_1_ k_) ∨ w.heap.size ≤ k_) ∧ some k_ ≠ (v579 : Value).ownBlock ∧ k_ ≠ gb571 ∧ k_ ≠ gb572 ∧ k_ ≠ gb573 ∧ k_ ≠ gb582) (.slice (some ad581) l0_1.length c0_1) l0_1) := ⟨(by (with_reducible repeat (first | apply Kd.V_alloc | apply Kd.V_drewN | apply Kd.V_drew)); exact Kd.V_mono (Kd.V_far (p := ⟨gb582, 1, none⟩) (Kd.V_far (p := ⟨gb582, 0, none⟩) (Kd.V_mono HO_19.out (fun k_ hk => (⟨hk, hk.2⟩ : _ ∧ k_ ≠ gb582))) (fun _ hk => hk.2) (.int .i64 ((rd_T25 l0_1 x21_1).f0))) (fun _ hk => hk.2) (.slice A581_1 ((rd_T25 l0_1 x21_1).f1).length c581_1)) (fun _ hk => ⟨hk.1.1.1, ⟨hk.1.1.2.1, ⟨hk.1.1.2.2.1, ⟨hk.1.1.2.2.2.1, ⟨hk.1.1.2.2.2.2, hk.1.2⟩⟩⟩⟩⟩))⟩
           have n2_ : Aside0 (Kd.V k25 25 ((w27.setCell ⟨gb582, 0, none⟩ (.int .i64 ((rd_T25 l0_1 x21_1).f0))).setCell ⟨gb582, 1, none⟩ (.slice A581_1 ((rd_T25 l0_1 x21_1).f1).length c581_1)) w.heap.size (fun k_ => ((P0_1_ k_ ∨ P2_1_ k_) ∨ w.heap.size ≤ k_) ∧ some k_ ≠ (v579 : Value).ownBlock ∧ k_ ≠ gb571 ∧ k_ ≠ gb572 ∧ k_ ≠ gb573 ∧ k_ ≠ gb582) u572001 x572001_1) := ⟨(by (with_reducible repeat (first | apply Kd.V_alloc | apply Kd.V_drewN | apply Kd.V_drew)); exact Kd.V_mono (Kd.V_far (p := ⟨gb582, 1, none⟩) (Kd.V_far (p := ⟨gb582, 0, none⟩) (Kd.V_mono HO_572001.out (fun k_ hk => (⟨hk, hk.2⟩ : _ ∧ k_ ≠ gb582))) (fun _ hk => hk.2) (.int .i64 ((rd_T25 l0_1 x21_1).f0))) (fun _ hk => hk.2) (.slice A581_1 ((rd_T25 l0_1 x21_1).f1).length c581_1)) (fun _ hk => ⟨hk.1.1.1, ⟨hk.1.1.2.1, ⟨hk.1.1.2.2.1, ⟨hk.1.1.2.2.2.1, ⟨hk.1.1.2.2.2.2, hk.1.2⟩⟩⟩⟩⟩))⟩
           have n3_ : Aside0 (Kd.V k25 25 ((w27.setCell ⟨gb582, 0, none⟩ (.int .i64 ((rd_T25 l0_1 x21_1).f0))).setCell ⟨gb582, 1, none⟩ (.slice A581_1 ((rd_T25 l0_1 x21_1).f1).length c581_1)) w.heap.size (fun k_ => ((P0_1_ k_ ∨ P2_1_ k_) ∨ w.heap.size ≤ k_) ∧ some k_ ≠ (v579 : Value).ownBlock ∧ k_ ≠ gb571 ∧ k_ ≠ gb572 ∧ k_ ≠ gb573 ∧ k_ ≠ gb582) u573001 x573001_1) := ⟨(by (with_reducible repeat (first | apply Kd.V_alloc | apply Kd.V_drewN | apply Kd.V_drew)); exact Kd.V_mono (Kd.V_far (p := ⟨gb582, 1, none⟩) (Kd.V_far (p := ⟨gb582, 0, none⟩) (Kd.V_mono HO_573001.out (fun k_ hk => (⟨hk, hk.2⟩ : _ ∧ k_ ≠ gb582))) (fun _ hk => hk.2) (.int .i64 ((rd_T25 l0_1 x21_1).f0))) (fun _ hk => hk.2) (.slice A581_1 ((rd_T25 l0_1 x21_1).f1).length c581_1)) (fun _ hk => ⟨hk.1.1.1, ⟨hk.1.1.2.1, ⟨hk.1.1.2.2.1, ⟨hk.1.1.2.2.2.1, ⟨hk.1.1.2.2.2.2, hk.1.2⟩⟩⟩⟩⟩))⟩
           have n4_ : Aside0 (Kd.V k25 25 ((w27.setCell ⟨gb582, 0, none⟩ (.int .i64 ((rd_T25 l0_1 x21_1).f0))).setCell ⟨gb582, 1, none⟩ (.slice A581_1 ((rd_T25 l0_1 x21_1).f1).length c581_1)) w.heap.size (fun k_ => ((P0_1_ k_ ∨ P2_1_ k_) ∨ w.heap.size ≤ k_) ∧ some k_ ≠ (v579 : Value).ownBlock ∧ k_ ≠ gb571 ∧ k_ ≠ gb572 ∧ k_ ≠ gb573 ∧ k_ ≠ gb582) (.slice A581_1 ((rd_T25 l0_1 x21_1).f1).length c581_1) ((rd_T25 l0_1 x21_1).f1)) := ⟨(by (with_reducible repeat (first | apply Kd.V_alloc | apply Kd.V_drewN | apply Kd.V_drew)); exact Kd.V_mono (Kd.V_far (p := ⟨gb582, 1, none⟩) (Kd.V_far (p := ⟨gb582, 0, none⟩) (Kd.V_mono HL581_1.out (fun k_ hk => (⟨hk, hk.2⟩ : _ ∧ k_ ≠ gb582))) (fun _ hk => hk.2) (.int .i64 ((rd_T25 l0_1 x21_1).f0))) (fun _ hk => hk.2) (.slice A581_1 ((rd_T25 l0_1 x21_1).f1).length c581_1)) (fun _ hk => ⟨hk.1.1.1, ⟨hk.1.1.2.1, ⟨hk.1.1.2.2.1, ⟨hk.1.1.2.2.2.1, ⟨hk.1.1.2.2.2.2, hk.1.2⟩⟩⟩⟩⟩))⟩
           have n5_ : Aside0 (((w27.setCell ⟨gb582, 0, none⟩ (.int .i64 ((rd_T25 l0_1 x21_1).f0))).setCell ⟨gb582, 1, none⟩ (.slice A581_1 ((rd_T25 l0_1 x21_1).f1).length c581_1)).heap[gb571]? = some (.cells #[.int .i64 x572000_1, u572001] 25 (0, 0))) := ⟨(y1 NB571_582.out BK571.out)⟩
           have n6_ : Aside0 (((w27.setCell ⟨gb582, 0, none⟩ (.int .i64 ((rd_T25 l0_1 x21_1).f0))).setCell ⟨gb582, 1, none⟩ (.slice A581_1 ((rd_T25 l0_1 x21_1).f1).length c581_1)).heap[gb572]? = some (.cells #[.int .i64 x573000_1, u573001] 25 (0, 0))) := ⟨(y1 NB572_582.out BK572.out)⟩
           have n7_ : Aside0 (((w27.setCell ⟨gb582, 0, none⟩ (.int .i64 ((rd_T25 l0_1 x21_1).f0))).setCell ⟨gb582, 1, none⟩ (.slice A581_1 ((rd_T25 l0_1 x21_1).f1).length c581_1)).heap[gb573]? = some (.cells #[.int .i64 x574000_1, .slice none 0 0] 25 (0, 0))) := ⟨(y1 NB573_582.out BK573.out)⟩
           have n8_ : Aside0 (((w27.setCell ⟨gb582, 0, none⟩ (.int .i64 ((rd_T25 l0_1 x21_1).f0))).setCell ⟨gb582, 1, none⟩ (.slice A581_1 ((rd_T25 l0_1 x21_1).f1).length c581_1)).heap[gb582]? = some (.cells #[.int .i64 ((rd_T25 l0_1 x21_1).f0), .slice A581_1 ((rd_T25 l0_1 x21_1).f1).length c581_1] 25 (0, 0))) := ⟨(by (with_reducible repeat (first | refine blk_drewN ?_ _ | refine blk_drew ?_ | refine blk_alloc ?_ _)); refine blk_put (cs := #[.int .i64 ((rd_T25 l0_1 x21_1).f0), .slice none 0 0]) ?_ 1 _ rfl; (with_reducible repeat (first | refine blk_drewN ?_ _ | refine blk_drew ?_ | refine blk_alloc ?_ _)); refine blk_put (cs := #[.int .i64 0, .slice none 0 0]) ?_ 0 _ rfl; (with_reducible repeat (first | refine blk_drewN ?_ _ | refine blk_drew ?_ | refine blk_alloc ?_ _)); exact BK582.out)⟩
           have n9_ : Aside0 (Below w.heap.size w ((w27.setCell ⟨gb582, 0, none⟩ (.int .i64 ((rd_T25 l0_1 x21_1).f0))).setCell ⟨gb582, 1, none⟩ (.slice A581_1 ((rd_T25 l0_1 x21_1).f1).length c581_1))) := ⟨(y5 HB.out GE571.out GE572.out GE573.out GE582.out)⟩
           (try clear HO_7)
           (try clear HO_19)
           (try clear HO_572001)
           (try clear HO_573001)
           (try clear HL581_1)
           (try clear BK571)
           (try clear BK572)
           (try clear BK573)
           (try clear BK582)
           (try clear HB)
           generalize ((w27.setCell ⟨gb582, 0, none⟩ (.int .i64 ((rd_T25 l0_1 x21_1).f0))).setCell ⟨gb582, 1, none⟩ (.slice A581_1 ((rd_T25 l0_1 x21_1).f1).length c581_1)) = w37 at n0_ n1_ n2_ n3_ n4_ n5_ n6_ n7_ n8_ n9_ ⊢
           have HO_7 := n0_
           have HO_19 := n1_
           have HO_572001 := n2_
           have HO_573001 := n3_
           have HL581_1 := n4_
           have BK571 := n5_
           have BK572 := n6_
           have BK573 := n7_
           have BK582 := n8_
           have HB := n9_
           clear n0_ n1_ n2_ n3_ n4_ n5_ n6_ n7_ n8_ n9_
           replace HO_7 := Aside0.mk (Kd.N_drew HO_7.out)
           replace HO_19 := Aside0.mk (Kd.V_drew HO_19.out)
           replace HO_572001 := Aside0.mk (Kd.V_drew HO_572001.out)
           replace HO_573001 := Aside0.mk (Kd.V_drew HO_573001.out)
           replace HL581_1 := Aside0.mk (Kd.V_drew HL581_1.out)
           replace BK571 := Aside0.mk (blk_drew BK571.out)
           replace BK572 := Aside0.mk (blk_drew BK572.out)
           replace BK573 := Aside0.mk (blk_drew BK573.out)
           replace BK582 := Aside0.mk (blk_drew BK582.out)
           replace HB := Aside0.mk (below_drew1 HB.out)
           obtain ⟨i039, hi039, _, hsz39, _⟩ := info_parts info3
           obtain ⟨A39, hcut39, hA39, hC39⟩ := print_drop_of (P := Try.prog) (Value.int .i64) 0 26 3 .i64 Try.underlying26 hi039 hsz39 (some ad583) c1 l1 1 (by omega) (of_decide_eq_true y23) HC1.out
           have HR584 := Aside0.mk (Kd.C_of_reads (h1 := fun _ => rfl) (hA39 _ (Kd.reads_of_C HR1.out)))
           have HC584 := Aside0.mk hC39
           clear hA39 hC39 hi039 hsz39
           obtain ⟨Ao40, co40, eo40⟩ := Kd.V_slice HO_573001.out
           (first | subst eo40 | (injection eo40 with f1_ f2_ f3_; have f4_ := f1_.symm; have f5_ := f3_.symm; clear f1_ f2_ f3_; subst f4_; subst f5_))
           refine start_ (n := 9) (S := fun w' => w'.cell? ⟨gb582, 0, none⟩ = some (.int .i64 ((rd_T25 l0_1 x21_1).f0)) ∧ w'.cell? ⟨gb582, 1, none⟩ = some (.slice A581_1 ((rd_T25 l0_1 x21_1).f1).length c581_1) ∧ w'.cell? ⟨gb572, 0, none⟩ = some (.int .i64 x573000_1) ∧ w'.cell? ⟨gb572, 1, none⟩ = some (.slice Ao40 x573001_1.length co40)) (ds := [8]) #[false, false, false, false, false, false, false, false, false] (by kernel_rfl) rfl rfl ⟨(blk_cell BK582.out 0).trans rfl, (blk_cell BK582.out 1).trans rfl, (blk_cell BK572.out 0).trans rfl, (blk_cell BK572.out 1).trans rfl⟩ (fun hHeld => ?_); refine with_tabW impl_valWith.tab8 impl_valWith.bits8 (fun HT_ HW_ => ?_)
           generalize w37.drew = w38 at HO_7 HO_19 HO_572001 HO_573001 HL581_1 BK571 BK572 BK573 BK582 HB HR584 hHeld ⊢
           refine zp 0 (some 31) HT_ ?_
           refine zp 1 (some 32) HT_ ?_
           refine zp 3 (some 34) HT_ ?_
           refine zp 4 (some 35) HT_ ?_
           refine zt4 2 (some 33) HT_ HW_ hHeld ?_
           refine zt4 5 (some 36) HT_ HW_ hHeld ?_
           refine one_ (i := 6) (N := some 37) #[true, true, true, true, true, true, true, false, false] rfl rfl (one_of HT_.out (by kernel_rfl)) (by decide) (fun K hK => ?_)
           refine goes_ Try.func47 (by kernel_rfl) rfl #[.agg #[.int .i64 ((rd_T25 l0_1 x21_1).f0), .slice A581_1 ((rd_T25 l0_1 x21_1).f1).length c581_1], .slice A39 (l1.drop 1).length (c1 - 1), .agg #[.int .i64 x573000_1, .slice Ao40 x573001_1.length co40]] (by rfl) rfl rfl (by (try simp only [List.map_toArray, List.map_cons, List.map_nil]); first | done | (rw [show (l1.drop 1).length = (l1.length - 1) from List.length_drop] <;> rfl) | rfl | (simp only [List.length_drop, List.length_take]; rfl)) ?_
           with_reducible refine (ih k1 (y69 HK1.out) ((rd_T25 l0_1 x21_1).f0) (fun k_ => (((P0_1_ k_ ∨ P2_1_ k_) ∨ w.heap.size ≤ k_) ∧ (some k_ ≠ (v579 : Value).ownBlock ∧ (k_ ≠ gb571 ∧ (k_ ≠ gb572 ∧ (k_ ≠ gb573 ∧ k_ ≠ gb582)))))) _ _ ((rd_T25 l0_1 x21_1).f1) _ _ (l1.drop 1) x573000_1 (fun k_ => (((P0_1_ k_ ∨ P2_1_ k_) ∨ w.heap.size ≤ k_) ∧ (some k_ ≠ (v579 : Value).ownBlock ∧ (k_ ≠ gb571 ∧ (k_ ≠ gb572 ∧ (k_ ≠ gb573 ∧ k_ ≠ gb582)))))) _ _ x573001_1 t585 t586 _ ?side1 ?side2 ?side3 ?side4 A34.out).mono ?_
           (case side1 => exact HL581_1.out)
           (case side2 => exact y18 HR584.out HB.out)
           (case side3 => exact HC584.out)
           (case side4 => exact HO_573001.out)
           rintro e w41 ⟨v587, rfl, ho0, hb⟩
           refine ⟨_, rfl, ?_⟩
           replace HO_19 := Aside0.mk (Kd.V_elder' (y11 HO_19.out) (Kd.N_base ho0) hb)
           replace HO_572001 := Aside0.mk (Kd.V_elder' (y11 HO_572001.out) (Kd.N_base ho0) hb)
           replace HO_573001 := Aside0.mk (Kd.V_elder' (y11 HO_573001.out) (Kd.N_base ho0) hb)
           replace HL581_1 := Aside0.mk (Kd.V_elder' (y11 HL581_1.out) (Kd.N_base ho0) hb)
           have HO588 := Aside0.mk (Kd.N_lower (Kd.N_mono (ok' := fun k_ => ((P0_1_ k_ ∨ P2_1_ k_) ∨ w.heap.size ≤ k_) ∧ some k_ ≠ (v579 : Value).ownBlock ∧ k_ ≠ gb571 ∧ k_ ≠ gb572 ∧ k_ ≠ gb573 ∧ k_ ≠ gb582) ho0 (fun k_ hk_ => ⟨Or.elim hk_ (fun hs_ => Or.elim hs_ (fun hs_ => hs_.1) (fun hs_ => hs_.1)) (fun hn_ => (.inr (Nat.le_trans (below_size (y5 HB.out GE571.out GE572.out GE573.out GE582.out)) hn_))), Or.elim hk_ (fun hs_ => Or.elim hs_ (fun hs_ => hs_.2.1) (fun hs_ => hs_.2.1)) (fun hn_ => (Kd.fresh' (Kd.N_lt (y2 HO_7.out)) k_ hn_)), Or.elim hk_ (fun hs_ => Or.elim hs_ (fun hs_ => hs_.2.2.1) (fun hs_ => hs_.2.2.1)) (fun hn_ => (Kd.freshB (g := gb571) (o := .cells #[.int .i64 x572000_1, u572001] 25 (0, 0)) (y0 BK571.out) k_ hn_)), Or.elim hk_ (fun hs_ => Or.elim hs_ (fun hs_ => hs_.2.2.2.1) (fun hs_ => hs_.2.2.2.1)) (fun hn_ => (Kd.freshB (g := gb572) (o := .cells #[.int .i64 x573000_1, .slice Ao40 x573001_1.length co40] 25 (0, 0)) (y0 BK572.out) k_ hn_)), Or.elim hk_ (fun hs_ => Or.elim hs_ (fun hs_ => hs_.2.2.2.2.1) (fun hs_ => hs_.2.2.2.2.1)) (fun hn_ => (Kd.freshB (g := gb573) (o := .cells #[.int .i64 x574000_1, .slice none 0 0] 25 (0, 0)) (y0 BK573.out) k_ hn_)), Or.elim hk_ (fun hs_ => Or.elim hs_ (fun hs_ => hs_.2.2.2.2.2) (fun hs_ => hs_.2.2.2.2.2)) (fun hn_ => (Kd.freshB (g := gb582) (o := .cells #[.int .i64 ((rd_T25 l0_1 x21_1).f0), .slice A581_1 ((rd_T25 l0_1 x21_1).f1).length c581_1] 25 (0, 0)) (y0 BK582.out) k_ hn_))⟩)) (below_size (y5 HB.out GE571.out GE572.out GE573.out GE582.out)))
           replace HO_7 := Aside0.mk (Kd.N_elder' (y2 HO_7.out) (Kd.N_base ho0) hb)
           replace BK571 := zbb BK571 hb
           replace BK572 := zbb BK572 hb
           replace BK573 := zbb BK573 hb
           replace BK582 := zbb BK582 hb
           replace HB := Aside0.mk (below_step (y5 HB.out GE571.out GE572.out GE573.out GE582.out) hb)
           (try clear hb)
           (try clear hb2)
           (try clear hk)
           (try clear hi)
           (try clear ho0)
           have p36 : 0 ≤ (x21_1 : Int) := of_decide_eq_true y23
           have q36 : (x21_1 : Int) < ((x7_1.length : Int) : Int) := of_decide_eq_true y23
           obtain ⟨go36, co36, eo36, gb36, gl36, cl36, HG36⟩ := Kd.N_form HO_7.out (by omega)
           (first | cases eo36 | (injection eo36 with ea_ en_ ec_; (first | subst ea_ | (injection ea_ with ea_; subst ea_)); subst ec_; clear en_))
           have GB36 := Aside0.mk gb36
           have GG36 := Aside0.mk HG36
           clear gb36 gl36 HG36
           obtain ⟨ce36, hcl36, hM36, hcc36, hfr36⟩ := Kd.N_elem HO_7.out z25 (x21_1 : Int) p36 q36
           obtain ⟨ua36_1, uc36_1, rfl, ul36_1, ge36_1⟩ := k25_openF hM36
           have hx36_0 : World.cell? _ ⟨go36, (x21_1 : Int).toNat * 2, none⟩ = some (.int .i64 ((rd_T25 x7_1 x21_1).f0)) := hcc36 0 _ rfl
           have hx36_1 : World.cell? _ ⟨go36, (x21_1 : Int).toNat * 2 + 1, none⟩ = some (.slice ua36_1 ((rd_T25 x7_1 x21_1).f1).length uc36_1) := hcc36 1 _ rfl
           have hf36_0 : World.frozen? _ ⟨go36, (x21_1 : Int).toNat * 2, none⟩ = false := hfr36 0
           have hf36_1 : World.frozen? _ ⟨go36, (x21_1 : Int).toNat * 2 + 1, none⟩ = false := hfr36 1
           clear hcl36 hcc36 hfr36 hM36
           replace p36 := eq_true p36
           replace q36 := eq_true q36
           obtain ⟨Ao42, co42, eo42⟩ := Kd.N_slice HO588.out
           (first | subst eo42 | (injection eo42 with f1_ f2_ f3_; have f4_ := f1_.symm; have f5_ := f3_.symm; clear f1_ f2_ f3_; subst f4_; subst f5_))
           have HX43 := Aside0.mk (show Kd.N k25 25 _ w.heap.size (fun k_ => ((P0_1_ k_ ∨ P2_1_ k_) ∨ w.heap.size ≤ k_) ∧ some k_ ≠ (.slice Ao42 t586.length co42 : Value).ownBlock ∧ k_ ≠ gb571 ∧ k_ ≠ gb572 ∧ k_ ≠ gb573 ∧ k_ ≠ gb582) (.slice (some ⟨go36, 0, none⟩) x7_1.length co36) x7_1 from (Kd.N_mono (HO_7.out) (fun k_ hk => ⟨hk.1.1, ⟨hk.2, ⟨hk.1.2.1, ⟨hk.1.2.2.1, ⟨hk.1.2.2.2.1, hk.1.2.2.2.2⟩⟩⟩⟩⟩)))
           replace HX43 := Aside0.mk (show Kd.N k25 25 _ w.heap.size (fun k_ => ((P0_1_ k_ ∨ P2_1_ k_) ∨ w.heap.size ≤ k_) ∧ k_ ≠ gb571 ∧ k_ ≠ gb572 ∧ k_ ≠ gb573 ∧ k_ ≠ gb582) (.slice (some ⟨go36, 0, none⟩) x7_1.length co36) x7_1 from Kd.N_mono HX43.out (fun k_ hk => ⟨hk.1, ⟨hk.2.2.1, ⟨hk.2.2.2.1, ⟨hk.2.2.2.2.1, hk.2.2.2.2.2⟩⟩⟩⟩))
           obtain ⟨ce43, hcl43, hM43, hcc43, hfr43⟩ := Kd.N_elem HX43.out z25 (x21_1 : Int) (of_decide_eq_true y23) (by have h_ : (x21_1 : Int) < ((x7_1.length : Int) : Int) := of_decide_eq_true y23; first | exact h_ | (have e_ := (Kd.N_reads' HO_7.out).1; omega) | simpa using h_)
           obtain ⟨ua43_1, uc43_1, rfl, ul43_1, ge43_1⟩ := k25_openF hM43
           have HP43 := (Kd.N_seg HX43.out (x21_1 : Int) (of_decide_eq_true y23) (by have h_ : (x21_1 : Int) < ((x7_1.length : Int) : Int) := of_decide_eq_true y23; first | exact h_ | (have e_ := (Kd.N_reads' HO_7.out).1; omega) | simpa using h_) (seg := [.int .i64 t585, .slice Ao42 t586.length co42]) (j := 0) hcl43 hcc43 (show 2 ≤ 2 from by decide) (x' := (⟨t585, t586⟩ : S25)) (k25_mkF _ _ (⟨t585, t586⟩ : S25) (Kd.N_reads' (Kd.N_mono (ok' := (fun k_ => ((fun k_ => ((P0_1_ k_ ∨ P2_1_ k_) ∨ w.heap.size ≤ k_) ∧ k_ ≠ gb571 ∧ k_ ≠ gb572 ∧ k_ ≠ gb573 ∧ k_ ≠ gb582)) k_ ∧ k_ ≠ go36)) (HO588.out) (fun k_ hk => ⟨⟨hk.1, ⟨hk.2.2.1, ⟨hk.2.2.2.1, ⟨hk.2.2.2.2.1, hk.2.2.2.2.2⟩⟩⟩⟩, fun e_ => (hk.2.1) (by rw [e_]; rfl)⟩))).2.1 (Kd.N_F (Kd.N_mono (ok' := (fun k_ => ((fun k_ => ((P0_1_ k_ ∨ P2_1_ k_) ∨ w.heap.size ≤ k_) ∧ k_ ≠ gb571 ∧ k_ ≠ gb572 ∧ k_ ≠ gb573 ∧ k_ ≠ gb582)) k_ ∧ k_ ≠ go36)) (HO588.out) (fun k_ hk => ⟨⟨hk.1, ⟨hk.2.2.1, ⟨hk.2.2.2.1, ⟨hk.2.2.2.2.1, hk.2.2.2.2.2⟩⟩⟩⟩, fun e_ => (hk.2.1) (by rw [e_]; rfl)⟩)))) (fun _ hk => hk)).1
           rw [← Ny589.out] at HP43
           have HQ43 := Aside0.mk HP43
           clear hcl43 hcc43 hfr43 hM43 HP43
           refine hK.out _ _ ⟨(blk_cell BK582.out 0).trans rfl, (blk_cell BK582.out 1).trans rfl, (blk_cell BK572.out 0).trans rfl, (blk_cell BK572.out 1).trans rfl⟩ (fun hHeld => ?_)
           clear hK K
           refine norm_ (a' := ?_) ?_ ?_
           rotate_left
           ·show Act.put _ (some 37) _ = _
            simp only [Act.put, List.setIfInBounds_toArray, List.set_cons_zero, List.set_cons_succ, i64_w, i32_w]
            rfl
           refine zp 7 (some 38) HT_ ?_
           refine last_ (i := 8) (N := none) #[true, true, true, true, true, true, true, true, true] rfl rfl (one_of HT_.out (by kernel_rfl)) (by decide) (fun K hK => ?_)
           refine skip_ (w1 := ?_) (by rfl) rfl ?_ ?_
           rotate_left
           ·go_simp
            rfl
           refine hK.out _ _ ?_
           clear hK K
           refine done_ (done_of HT_.out (by kernel_rfl)) ?_
           try go_wp2
           go_roundg k1
           case measure => have := HK1.out; omega
           case rel => exact ⟨(y589), (wrap64 (x21_1 + 1)), (x572000_1), (x572001_1), (x573000_1), (x573001_1), (x574000_1), (u572001), (.slice Ao40 x573001_1.length co40), y29, H', ⟨(y69 HK1.out)⟩, ⟨(y103 HQ43.out)⟩, ⟨(by (with_reducible repeat (first | apply Kd.V_alloc | apply Kd.V_drewN | apply Kd.V_drew)); exact Kd.V_mono (Kd.V_far (p := ⟨go36, (x21_1 : Int).toNat * 2 + 1, none⟩) (Kd.V_far (p := ⟨go36, (x21_1 : Int).toNat * 2, none⟩) (Kd.V_mono HO_19.out (fun k_ hk => (⟨hk, fun e_ => hk.1.2.1 (by rw [e_]; rfl)⟩ : _ ∧ k_ ≠ go36))) (fun _ hk => hk.2) (.int .i64 t585)) (fun _ hk => hk.2) (.slice Ao42 t586.length co42)) (fun _ hk => ⟨hk.1.1.1, ⟨hk.1.1.2.1, ⟨hk.1.1.2.2.1, ⟨hk.1.1.2.2.2.1, hk.1.1.2.2.2.2.1⟩⟩⟩⟩))⟩, ⟨(by (with_reducible repeat (first | apply Kd.V_alloc | apply Kd.V_drewN | apply Kd.V_drew)); exact Kd.V_mono (Kd.V_far (p := ⟨go36, (x21_1 : Int).toNat * 2 + 1, none⟩) (Kd.V_far (p := ⟨go36, (x21_1 : Int).toNat * 2, none⟩) (Kd.V_mono HO_572001.out (fun k_ hk => (⟨hk, fun e_ => hk.1.2.1 (by rw [e_]; rfl)⟩ : _ ∧ k_ ≠ go36))) (fun _ hk => hk.2) (.int .i64 t585)) (fun _ hk => hk.2) (.slice Ao42 t586.length co42)) (fun _ hk => ⟨hk.1.1.1, ⟨hk.1.1.2.1, ⟨hk.1.1.2.2.1, ⟨hk.1.1.2.2.2.1, hk.1.1.2.2.2.2.1⟩⟩⟩⟩))⟩, ⟨(by (with_reducible repeat (first | apply Kd.V_alloc | apply Kd.V_drewN | apply Kd.V_drew)); exact Kd.V_mono (Kd.V_far (p := ⟨go36, (x21_1 : Int).toNat * 2 + 1, none⟩) (Kd.V_far (p := ⟨go36, (x21_1 : Int).toNat * 2, none⟩) (Kd.V_mono HO_573001.out (fun k_ hk => (⟨hk, fun e_ => hk.1.2.1 (by rw [e_]; rfl)⟩ : _ ∧ k_ ≠ go36))) (fun _ hk => hk.2) (.int .i64 t585)) (fun _ hk => hk.2) (.slice Ao42 t586.length co42)) (fun _ hk => ⟨hk.1.1.1, ⟨hk.1.1.2.1, ⟨hk.1.1.2.2.1, ⟨hk.1.1.2.2.2.1, hk.1.1.2.2.2.2.1⟩⟩⟩⟩))⟩, ⟨(y57 HQ43.out BK571.out)⟩, ⟨(y56 HQ43.out BK572.out)⟩, ⟨(y55 HQ43.out BK573.out)⟩, ⟨(y78 HB.out GB36.out GE571.out GE572.out GE573.out GE582.out)⟩⟩
          ·rw [if_neg c35] at H
           exact absurd H (by simp)
         ·rw [if_neg c33] at H
          exact absurd H (by simp)
        ·rw [if_neg c32] at H
         have c32b0 : (x21_1 == (rd l1 0)) = false := beq_eq_false_iff_ne.mpr c32
         have c32b1 : (x21_1 != (rd l1 0)) = true := bne_iff_ne.mpr c32
         (first | rw [c32b0] | (simp only [i64_w, i32_w]; rw [c32b0]) | skip)
         obtain ⟨⟨t590, t591⟩, A440, H⟩ := ob H
         have A44 := Aside0.mk A440
         clear A440
         by_cases c45 : x21_1 < (x7_1.length : Int)
         ·rw [if_pos c45] at H
          have c45b0 : decide (x21_1 < (x7_1.length : Int)) = true := decide_eq_true c45
          clear c45
          obtain ⟨y594, hy594⟩ : ∃ y_ : List (S25), y_ = (x7_1.set (x21_1 : Int).toNat (⟨t590, t591⟩ : S25)) := ⟨_, rfl⟩
          replace H : (impl_valWith.l0 k1 l1 y594 l0_1 (l0_1.length : Int) (wrap64 (x21_1 + 1)) x573000_1 x573001_1) = some (r1, r2) := by first | (rw [hy594]; with_reducible exact H) | (have H2_ := (Option.bind_some _ _).symm.trans H; rw [hy594]; with_reducible exact H2_) | (have H2_ := (Option.bind_some _ _).symm.trans H; with_reducible exact H2_) | with_reducible exact H | (rw [hy594]; exact H) | exact H
          have Ny594 := Aside0.mk hy594
          clear hy594
          have H' := Aside0.mk H
          clear H
          have hnb47 := NB582_571.out
          have hnc47 := NB571_582.out
          have hnb48 := NB582_572.out
          have hnc48 := NB572_582.out
          have hnb49 := NB582_573.out
          have hnc49 := NB573_582.out
          have hcz50_0 := zh BK582
          have hcz50_1 := zh1 BK582
          have hfz50_0 := zfr BK582 0
          have hfz50_1 := zfr BK582 1
          go_wp2_with (first | ((with_reducible refine gate_callee (f := 40) rfl ?_); refine goesL_ (some 42) rfl rfl Try.func40 (by kernel_rfl) rfl #[.agg #[.int .i64 ((rd_T25 l0_1 x21_1).f0), .slice A581_1 ((rd_T25 l0_1 x21_1).f1).length c581_1]] rfl y9 ?_; (with_reducible refine (impl_valCopy.calls k1 ((rd_T25 l0_1 x21_1).f0) _ _ ((rd_T25 l0_1 x21_1).f1) t590 t591 _ ?side1 ?side2 A44.out).mono ?_); (case side1 => repeat (first | exact ((Kd.V_reads' (by (with_reducible repeat (first | apply Kd.V_alloc | apply Kd.V_drewN | apply Kd.V_drew)); exact (Kd.V_mono (Kd.V_far (p := ⟨gb582, 1, none⟩) (Kd.V_far (p := ⟨gb582, 0, none⟩) (Kd.V_mono HL581_1.out (fun k_ hk => (⟨hk, hk.2⟩ : _ ∧ k_ ≠ gb582))) (fun _ hk => hk.2) (.int .i64 ((rd_T25 l0_1 x21_1).f0))) (fun _ hk => hk.2) (.slice A581_1 ((rd_T25 l0_1 x21_1).f1).length c581_1)) (fun _ h_ => h_.1)))).2.2) | (with_reducible refine Kd.C_alloc ?_ _) | (with_reducible refine Kd.C_drewN ?_ _) | (with_reducible refine Kd.C_drew ?_))); (case side2 => exact HC581_1.out); rintro e w51 ⟨v592, rfl, ho0, hb⟩; refine ⟨_, rfl, ?_⟩; replace HO_19 := Aside0.mk (Kd.V_elder' (by (with_reducible repeat (first | apply Kd.V_alloc | apply Kd.V_drewN | apply Kd.V_drew)); exact (Kd.V_mono (Kd.V_far (p := ⟨gb582, 1, none⟩) (Kd.V_far (p := ⟨gb582, 0, none⟩) (Kd.V_mono HO_19.out (fun k_ hk => (⟨hk, hk.2⟩ : _ ∧ k_ ≠ gb582))) (fun _ hk => hk.2) (.int .i64 ((rd_T25 l0_1 x21_1).f0))) (fun _ hk => hk.2) (.slice A581_1 ((rd_T25 l0_1 x21_1).f1).length c581_1)) (fun _ h_ => h_.1))) (Kd.N_base ho0) hb); replace HO_572001 := Aside0.mk (Kd.V_elder' (by (with_reducible repeat (first | apply Kd.V_alloc | apply Kd.V_drewN | apply Kd.V_drew)); exact (Kd.V_mono (Kd.V_far (p := ⟨gb582, 1, none⟩) (Kd.V_far (p := ⟨gb582, 0, none⟩) (Kd.V_mono HO_572001.out (fun k_ hk => (⟨hk, hk.2⟩ : _ ∧ k_ ≠ gb582))) (fun _ hk => hk.2) (.int .i64 ((rd_T25 l0_1 x21_1).f0))) (fun _ hk => hk.2) (.slice A581_1 ((rd_T25 l0_1 x21_1).f1).length c581_1)) (fun _ h_ => h_.1))) (Kd.N_base ho0) hb); replace HO_573001 := Aside0.mk (Kd.V_elder' (by (with_reducible repeat (first | apply Kd.V_alloc | apply Kd.V_drewN | apply Kd.V_drew)); exact (Kd.V_mono (Kd.V_far (p := ⟨gb582, 1, none⟩) (Kd.V_far (p := ⟨gb582, 0, none⟩) (Kd.V_mono HO_573001.out (fun k_ hk => (⟨hk, hk.2⟩ : _ ∧ k_ ≠ gb582))) (fun _ hk => hk.2) (.int .i64 ((rd_T25 l0_1 x21_1).f0))) (fun _ hk => hk.2) (.slice A581_1 ((rd_T25 l0_1 x21_1).f1).length c581_1)) (fun _ h_ => h_.1))) (Kd.N_base ho0) hb); have HO593 := Aside0.mk (Kd.N_lower (Kd.N_mono (ok' := fun k_ => ((P0_1_ k_ ∨ P2_1_ k_) ∨ w.heap.size ≤ k_) ∧ some k_ ≠ (v579 : Value).ownBlock ∧ k_ ≠ gb571 ∧ k_ ≠ gb572 ∧ k_ ≠ gb573 ∧ k_ ≠ gb582) ho0 (fun k_ hk_ => ⟨(.inr (Nat.le_trans (below_size (y5 HB.out GE571.out GE572.out GE573.out GE582.out)) hk_)), (Kd.fresh' (Kd.N_lt (by (with_reducible repeat (first | apply Kd.N_alloc | apply Kd.N_drewN | apply Kd.N_drew)); exact (Kd.N_mono (Kd.N_far (p := ⟨gb582, 1, none⟩) (Kd.N_far (p := ⟨gb582, 0, none⟩) (Kd.N_mono HO_7.out (fun k_ hk => (⟨hk, hk.2⟩ : _ ∧ k_ ≠ gb582))) (fun _ hk => hk.2) (.int .i64 ((rd_T25 l0_1 x21_1).f0))) (fun _ hk => hk.2) (.slice A581_1 ((rd_T25 l0_1 x21_1).f1).length c581_1)) (fun _ h_ => h_.1)))) k_ hk_), (Kd.freshB (g := gb571) (o := .cells #[.int .i64 x572000_1, u572001] 25 (0, 0)) (y1 NB571_582.out BK571.out) k_ hk_), (Kd.freshB (g := gb572) (o := .cells #[.int .i64 x573000_1, u573001] 25 (0, 0)) (y1 NB572_582.out BK572.out) k_ hk_), (Kd.freshB (g := gb573) (o := .cells #[.int .i64 x574000_1, .slice none 0 0] 25 (0, 0)) (y1 NB573_582.out BK573.out) k_ hk_), (Kd.freshB (g := gb582) (o := .cells #[.int .i64 ((rd_T25 l0_1 x21_1).f0), .slice A581_1 ((rd_T25 l0_1 x21_1).f1).length c581_1] 25 (0, 0)) (by (with_reducible repeat (first | refine blk_drewN ?_ _ | refine blk_drew ?_ | refine blk_alloc ?_ _)); refine blk_put (cs := #[.int .i64 ((rd_T25 l0_1 x21_1).f0), .slice none 0 0]) ?_ 1 _ rfl; (with_reducible repeat (first | refine blk_drewN ?_ _ | refine blk_drew ?_ | refine blk_alloc ?_ _)); apply blk_put (i := 0); (case h => exact y0 BK582.out); (case e => rfl)) k_ hk_)⟩)) (below_size (y5 HB.out GE571.out GE572.out GE573.out GE582.out))); replace HO_7 := Aside0.mk (Kd.N_elder' (by (with_reducible repeat (first | apply Kd.N_alloc | apply Kd.N_drewN | apply Kd.N_drew)); exact (Kd.N_mono (Kd.N_far (p := ⟨gb582, 1, none⟩) (Kd.N_far (p := ⟨gb582, 0, none⟩) (Kd.N_mono HO_7.out (fun k_ hk => (⟨hk, hk.2⟩ : _ ∧ k_ ≠ gb582))) (fun _ hk => hk.2) (.int .i64 ((rd_T25 l0_1 x21_1).f0))) (fun _ hk => hk.2) (.slice A581_1 ((rd_T25 l0_1 x21_1).f1).length c581_1)) (fun _ h_ => h_.1))) (Kd.N_base ho0) hb); replace BK571 := Aside0.mk (blk_below (g := gb571) (o := .cells #[.int .i64 x572000_1, u572001] 25 (0, 0)) (y1 NB571_582.out BK571.out) hb); replace BK572 := Aside0.mk (blk_below (g := gb572) (o := .cells #[.int .i64 x573000_1, u573001] 25 (0, 0)) (y1 NB572_582.out BK572.out) hb); replace BK573 := Aside0.mk (blk_below (g := gb573) (o := .cells #[.int .i64 x574000_1, .slice none 0 0] 25 (0, 0)) (y1 NB573_582.out BK573.out) hb); replace HR581_1 := Aside0.mk (Kd.C_below ((Kd.V_reads' (by (with_reducible repeat (first | apply Kd.V_alloc | apply Kd.V_drewN | apply Kd.V_drew)); exact (Kd.V_mono (Kd.V_far (p := ⟨gb582, 1, none⟩) (Kd.V_far (p := ⟨gb582, 0, none⟩) (Kd.V_mono HL581_1.out (fun k_ hk => (⟨hk, hk.2⟩ : _ ∧ k_ ≠ gb582))) (fun _ hk => hk.2) (.int .i64 ((rd_T25 l0_1 x21_1).f0))) (fun _ hk => hk.2) (.slice A581_1 ((rd_T25 l0_1 x21_1).f1).length c581_1)) (fun _ h_ => h_.1)))).2.2) hb); replace HL581_1 := Aside0.mk (Kd.V_elder' (by (with_reducible repeat (first | apply Kd.V_alloc | apply Kd.V_drewN | apply Kd.V_drew)); exact (Kd.V_mono (Kd.V_far (p := ⟨gb582, 1, none⟩) (Kd.V_far (p := ⟨gb582, 0, none⟩) (Kd.V_mono HL581_1.out (fun k_ hk => (⟨hk, hk.2⟩ : _ ∧ k_ ≠ gb582))) (fun _ hk => hk.2) (.int .i64 ((rd_T25 l0_1 x21_1).f0))) (fun _ hk => hk.2) (.slice A581_1 ((rd_T25 l0_1 x21_1).f1).length c581_1)) (fun _ h_ => h_.1))) (Kd.N_base ho0) hb); replace BK582 := Aside0.mk (blk_below (g := gb582) (o := .cells #[.int .i64 ((rd_T25 l0_1 x21_1).f0), .slice A581_1 ((rd_T25 l0_1 x21_1).f1).length c581_1] 25 (0, 0)) (by (with_reducible repeat (first | refine blk_drewN ?_ _ | refine blk_drew ?_ | refine blk_alloc ?_ _)); refine blk_put (cs := #[.int .i64 ((rd_T25 l0_1 x21_1).f0), .slice none 0 0]) ?_ 1 _ rfl; (with_reducible repeat (first | refine blk_drewN ?_ _ | refine blk_drew ?_ | refine blk_alloc ?_ _)); apply blk_put (i := 0); (case h => exact y0 BK582.out); (case e => rfl)) hb); replace HB := Aside0.mk (below_step (y5 HB.out GE571.out GE572.out GE573.out GE582.out) hb); (try clear hb); (try clear hb2); (try clear hk); (try clear hi); (try clear ho0); have p46 : 0 ≤ (x21_1 : Int) := of_decide_eq_true y23; have q46 : (x21_1 : Int) < ((x7_1.length : Int) : Int) := of_decide_eq_true y23; obtain ⟨go46, co46, eo46, gb46, gl46, cl46, HG46⟩ := Kd.N_form HO_7.out (by omega); (first | cases eo46 | (injection eo46 with ea_ en_ ec_; (first | subst ea_ | (injection ea_ with ea_; subst ea_)); subst ec_; clear en_)); have GB46 := Aside0.mk gb46; have GG46 := Aside0.mk HG46; clear gb46 gl46 HG46; obtain ⟨ce46, hcl46, hM46, hcc46, hfr46⟩ := Kd.N_elem HO_7.out z25 (x21_1 : Int) p46 q46; obtain ⟨ua46_1, uc46_1, rfl, ul46_1, ge46_1⟩ := k25_openF hM46; have hx46_0 : w51.cell? ⟨go46, (x21_1 : Int).toNat * 2, none⟩ = some (.int .i64 ((rd_T25 x7_1 x21_1).f0)) := hcc46 0 _ rfl; have hx46_1 : w51.cell? ⟨go46, (x21_1 : Int).toNat * 2 + 1, none⟩ = some (.slice ua46_1 ((rd_T25 x7_1 x21_1).f1).length uc46_1) := hcc46 1 _ rfl; have hf46_0 : w51.frozen? ⟨go46, (x21_1 : Int).toNat * 2, none⟩ = false := hfr46 0; have hf46_1 : w51.frozen? ⟨go46, (x21_1 : Int).toNat * 2 + 1, none⟩ = false := hfr46 1; clear hcl46 hcc46 hfr46 hM46; replace p46 := eq_true p46; replace q46 := eq_true q46; obtain ⟨Ao52, co52, eo52⟩ := Kd.N_slice HO593.out; subst eo52; have n_ := Aside0.mk (Kd.N_mono (ok' := (fun k_ => ((P0_1_ k_ ∨ P2_1_ k_) ∨ w.heap.size ≤ k_) ∧ some k_ ≠ (.slice Ao52 t591.length co52 : Value).ownBlock ∧ k_ ≠ gb571 ∧ k_ ≠ gb572 ∧ k_ ≠ gb573 ∧ k_ ≠ gb582)) HO_7.out (fun k_ hk => ⟨hk.1.1.1, ⟨hk.2, ⟨hk.1.1.2.1, ⟨hk.1.1.2.2.1, ⟨hk.1.1.2.2.2, hk.1.2⟩⟩⟩⟩⟩)); clear HO_7; have HO_7 := n_; clear n_; have HX53 := Aside0.mk (show Kd.N k25 25 w51 w.heap.size (fun k_ => ((P0_1_ k_ ∨ P2_1_ k_) ∨ w.heap.size ≤ k_) ∧ k_ ≠ gb571 ∧ k_ ≠ gb572 ∧ k_ ≠ gb573 ∧ k_ ≠ gb582) (.slice (some ⟨go46, 0, none⟩) x7_1.length co46) x7_1 from (by (with_reducible repeat (first | apply Kd.N_alloc | apply Kd.N_drewN | apply Kd.N_drew)); exact Kd.N_mono HO_7.out (fun _ hk => ⟨hk.1, ⟨hk.2.2.1, ⟨hk.2.2.2.1, ⟨hk.2.2.2.2.1, hk.2.2.2.2.2⟩⟩⟩⟩))); obtain ⟨ce53, hcl53, hM53, hcc53, hfr53⟩ := Kd.N_elem HX53.out z25 (x21_1 : Int) (of_decide_eq_true y23) (by have h_ : (x21_1 : Int) < ((x7_1.length : Int) : Int) := of_decide_eq_true y23; first | exact h_ | (have e_ := (Kd.N_reads' HO_7.out).1; omega) | simpa using h_); obtain ⟨ua53_1, uc53_1, rfl, ul53_1, ge53_1⟩ := k25_openF hM53; have HP53 := Kd.N_seg HX53.out (x21_1 : Int) (of_decide_eq_true y23) (by have h_ : (x21_1 : Int) < ((x7_1.length : Int) : Int) := of_decide_eq_true y23; first | exact h_ | (have e_ := (Kd.N_reads' HO_7.out).1; omega) | simpa using h_) (seg := [.int .i64 t590, .slice Ao52 t591.length co52]) (j := 0) hcl53 hcc53 (show 2 ≤ 2 from by decide) (x' := (⟨t590, t591⟩ : S25)) (k25_mkF _ _ (⟨t590, t591⟩ : S25) (Kd.N_reads' (Kd.N_mono (ok' := (fun k_ => ((fun k_ => ((P0_1_ k_ ∨ P2_1_ k_) ∨ w.heap.size ≤ k_) ∧ k_ ≠ gb571 ∧ k_ ≠ gb572 ∧ k_ ≠ gb573 ∧ k_ ≠ gb582)) k_ ∧ k_ ≠ go46)) (HO593.out) (fun k_ hk => ⟨⟨hk.1, ⟨hk.2.2.1, ⟨hk.2.2.2.1, ⟨hk.2.2.2.2.1, hk.2.2.2.2.2⟩⟩⟩⟩, fun e_ => (hk.2.1) (by rw [e_]; rfl)⟩))).2.1 (Kd.N_F (Kd.N_mono (ok' := (fun k_ => ((fun k_ => ((P0_1_ k_ ∨ P2_1_ k_) ∨ w.heap.size ≤ k_) ∧ k_ ≠ gb571 ∧ k_ ≠ gb572 ∧ k_ ≠ gb573 ∧ k_ ≠ gb582)) k_ ∧ k_ ≠ go46)) (HO593.out) (fun k_ hk => ⟨⟨hk.1, ⟨hk.2.2.1, ⟨hk.2.2.2.1, ⟨hk.2.2.2.2.1, hk.2.2.2.2.2⟩⟩⟩⟩, fun e_ => (hk.2.1) (by rw [e_]; rfl)⟩)))) (fun _ hk => hk); have hx53_0 := hcc53 0 _ rfl; (try simp only [show (k25).sz = 2 from rfl, Nat.mul_one, Nat.add_zero] at hx53_0); have hf53_0 := hfr53 0; (try simp only [show (k25).sz = 2 from rfl, Nat.mul_one, Nat.add_zero] at hf53_0); have hx53_1 := hcc53 1 _ rfl; (try simp only [show (k25).sz = 2 from rfl, Nat.mul_one, Nat.add_zero] at hx53_1); have hf53_1 := hfr53 1; (try simp only [show (k25).sz = 2 from rfl, Nat.mul_one, Nat.add_zero] at hf53_1); clear hcl53 hcc53 hfr53 hM53) | ((with_reducible refine gate_store (t := 25) (p := 43) rfl ?_); refine store_event (t := 25) (p := 43) (v := ?vo_w54) (w1 := ((w51.setCell ⟨go46, (x21_1 : Int).toNat * 2, none⟩ (.int .i64 t590)).setCell ⟨go46, (x21_1 : Int).toNat * 2 + 1, none⟩ (.slice Ao52 t591.length co52))) ?hg ?ho ?hn ?hr ?_; (case ho => rfl); (case hg => rfl); (case hn => rfl); (case hr => first | (go_simp; done) | (go_simp; rfl)); intro w54 hw; have hg : w51.grownBy w54 (some go46) := (by rw [hw]; exact HP53.2); have hp_ : Kd.N k25 25 w54 w.heap.size (fun k_ => ((P0_1_ k_ ∨ P2_1_ k_) ∨ w.heap.size ≤ k_) ∧ k_ ≠ gb571 ∧ k_ ≠ gb572 ∧ k_ ≠ gb573 ∧ k_ ≠ gb582) (.slice (some ⟨go46, 0, none⟩) x7_1.length co46) y594 := (by rw [hw, Ny594.out]; exact HP53.1); clear HP53; replace HO_19 := Aside0.mk (Kd.V_afterv (v := (.slice (some ⟨go46, 0, none⟩) x7_1.length co46)) (v1 := (.slice (some ⟨go46, 0, none⟩) x7_1.length co46)) (ok := (fun k_ => ((P0_1_ k_ ∨ P2_1_ k_) ∨ w.heap.size ≤ k_) ∧ some k_ ≠ (.slice Ao52 t591.length co52 : Value).ownBlock ∧ k_ ≠ gb571 ∧ k_ ≠ gb572 ∧ k_ ≠ gb573 ∧ k_ ≠ gb582)) (y66 HO_19.out) hg (.inl rfl)); replace HO_572001 := Aside0.mk (Kd.V_afterv (v := (.slice (some ⟨go46, 0, none⟩) x7_1.length co46)) (v1 := (.slice (some ⟨go46, 0, none⟩) x7_1.length co46)) (ok := (fun k_ => ((P0_1_ k_ ∨ P2_1_ k_) ∨ w.heap.size ≤ k_) ∧ some k_ ≠ (.slice Ao52 t591.length co52 : Value).ownBlock ∧ k_ ≠ gb571 ∧ k_ ≠ gb572 ∧ k_ ≠ gb573 ∧ k_ ≠ gb582)) (y66 HO_572001.out) hg (.inl rfl)); replace HO_573001 := Aside0.mk (Kd.V_afterv (v := (.slice (some ⟨go46, 0, none⟩) x7_1.length co46)) (v1 := (.slice (some ⟨go46, 0, none⟩) x7_1.length co46)) (ok := (fun k_ => ((P0_1_ k_ ∨ P2_1_ k_) ∨ w.heap.size ≤ k_) ∧ some k_ ≠ (.slice Ao52 t591.length co52 : Value).ownBlock ∧ k_ ≠ gb571 ∧ k_ ≠ gb572 ∧ k_ ≠ gb573 ∧ k_ ≠ gb582)) (y66 HO_573001.out) hg (.inl rfl)); replace BK571 := Aside0.mk (blk_grown (g := gb571) (o := .cells #[.int .i64 x572000_1, u572001] 25 (0, 0)) (y0 BK571.out) hg (Kd.N_away HO_7.out (fun _ hk => hk.2.2.1))); replace BK572 := Aside0.mk (blk_grown (g := gb572) (o := .cells #[.int .i64 x573000_1, u573001] 25 (0, 0)) (y0 BK572.out) hg (Kd.N_away HO_7.out (fun _ hk => hk.2.2.2.1))); replace BK573 := Aside0.mk (blk_grown (g := gb573) (o := .cells #[.int .i64 x574000_1, .slice none 0 0] 25 (0, 0)) (y0 BK573.out) hg (Kd.N_away HO_7.out (fun _ hk => hk.2.2.2.2.1))); replace HL581_1 := Aside0.mk (Kd.V_afterv (v := (.slice (some ⟨go46, 0, none⟩) x7_1.length co46)) (v1 := (.slice (some ⟨go46, 0, none⟩) x7_1.length co46)) (ok := (fun k_ => ((P0_1_ k_ ∨ P2_1_ k_) ∨ w.heap.size ≤ k_) ∧ some k_ ≠ (.slice Ao52 t591.length co52 : Value).ownBlock ∧ k_ ≠ gb571 ∧ k_ ≠ gb572 ∧ k_ ≠ gb573 ∧ k_ ≠ gb582)) (y66 HL581_1.out) hg (.inl rfl)); replace BK582 := Aside0.mk (blk_grown (g := gb582) (o := .cells #[.int .i64 ((rd_T25 l0_1 x21_1).f0), .slice A581_1 ((rd_T25 l0_1 x21_1).f1).length c581_1] 25 (0, 0)) (y0 BK582.out) hg (Kd.N_away HO_7.out (fun _ hk => hk.2.2.2.2.2))); replace HO_7 := Aside0.mk (hp_); replace HB := Aside0.mk ((by rw [hw]; exact below_set (below_set (HB.out) GB46.out) GB46.out : Below w.heap.size w w54)); clear HO593; clear hg hw hp_))
          go_roundg k1
          case measure => have := HK1.out; omega
          case rel => exact ⟨(y594), (wrap64 (x21_1 + 1)), (x572000_1), (x572001_1), (x573000_1), (x573001_1), (x574000_1), (u572001), (u573001), y29, H', ⟨(y69 HK1.out)⟩, ⟨(y103 HO_7.out)⟩, ⟨(y77 HO_19.out)⟩, ⟨(y77 HO_572001.out)⟩, ⟨(y77 HO_573001.out)⟩, ⟨(y0 BK571.out)⟩, ⟨(y0 BK572.out)⟩, ⟨(y0 BK573.out)⟩, ⟨(y5 HB.out GE571.out GE572.out GE573.out GE582.out)⟩⟩
         ·rw [if_neg c45] at H
          exact absurd H (by simp)
       ·rw [if_neg c25] at H
        exact absurd H (by simp)
      ·rw [if_neg c24] at H
       exact absurd H (by simp)
     ·rw [if_neg c23] at H
      exact absurd H (by simp)
    ·rw [if_neg c22] at H
     have c22b0 : decide (x21_1 < (l0_1.length : Int)) = false := decide_eq_false c22
     clear c22
     simp only [Option.some.injEq, Prod.mk.injEq] at H
     obtain ⟨rfl, rfl⟩ := H
     obtain ⟨Ao55, co55, eo55⟩ := Kd.N_slice HO_7.out
     subst eo55
     have hnb56 := NB573_571.out
     have hnc56 := NB571_573.out
     have hnb57 := NB573_572.out
     have hnc57 := NB572_573.out
     have hcz58_0 := zh BK573
     have hcz58_1 := zh1 BK573
     have hfz58_0 := zfr BK573 0
     have hfz58_1 := zfr BK573 1
     go_wp2
     refine bodyPost_ret (results_cell_row rfl _ _ gb573 25 #[.int .i64 0, .slice Ao55 x7_1.length co55] (0, 0) _ rfl (by (with_reducible repeat (first | refine blk_drewN ?_ _ | refine blk_drew ?_ | refine blk_alloc ?_ _)); refine blk_put (cs := #[.int .i64 0, .slice none 0 0]) ?_ 1 _ rfl; (with_reducible repeat (first | refine blk_drewN ?_ _ | refine blk_drew ?_ | refine blk_alloc ?_ _)); apply blk_put (i := 0); (case h => exact y0 BK573.out); (case e => rfl)) Try.underlying25 rfl (by kernel_rfl)) rfl ?_
     exact ⟨_, y15, (by (with_reducible repeat (first | apply Kd.N_alloc | apply Kd.N_drewN | apply Kd.N_drew)); exact Kd.N_mono (Kd.N_far (p := ⟨gb573, 1, none⟩) (Kd.N_far (p := ⟨gb573, 0, none⟩) (Kd.N_mono HO_7.out (fun k_ hk => (⟨hk, hk.2.2.2⟩ : _ ∧ k_ ≠ gb573))) (fun _ hk => hk.2) (.int .i64 0)) (fun _ hk => hk.2) (.slice Ao55 x7_1.length co55)) (fun _ hk => hk.1.1)), (y4 HB.out GE571.out GE572.out GE573.out)⟩
end Go.Proofs.Ythfflieeifakdaa.PA
end
