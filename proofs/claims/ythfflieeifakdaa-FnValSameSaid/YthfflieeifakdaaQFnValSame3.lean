-- Ythfflieeifakdaa's texts for the statement FnValSame, one behind the other (merge.py).
import Derived.Test.YthfflieeifakdaaQFnValSame0
import Derived.Test.YthfflieeifakdaaQFnValSame2
import Derived.Test.YthfflieeifakdaaQFnValSame1
import Derived.OpenShut
import Derived.Laws.BitsLemmas
section
namespace Go.Proofs.Ythfflieeifakdaa.PA
open Go.RowKit Go.Proofs.YthfflieeifakdaaW.PrintWords Go.Proofs.YthfflieeifakdaaW.PrintLast Go.Proofs.YthfflieeifakdaaW.PrintMore
attribute [local go_sem] max2_int min2_int max_two min_two max_three min_three max_four min_four
set_option linter.unusedVariables false
set_option linter.unusedSimpArgs false
mutual
def impl_typeSame.l0 : Nat → Int → Int → List (S50) → List (S50) → Option (Bool)
 | 0, _, _, _, _ => none
 | k + 1, x15, x16, x493000, x494000 => if x16 < x15 then (if 0 ≤ x16 then (if x16 < (x493000.length : Int) then (if x16 < (x494000.length : Int) then ((impl_typeSame.f k ((rd_T50 x493000 x16).f0) ((rd_T50 x494000 x16).f0)).bind fun t496 => (if t496 = true then (impl_typeSame.l0 k x15 (wrap64 (x16 + 1)) x493000 x494000) else (some false))) else (none)) else (none)) else (none)) else (some true)
def impl_typeSame.f : Nat → List (S50) → List (S50) → Option (Bool)
 | 0, _, _ => none
 | k + 1, l0_0, l1_0 => if (l0_0.length : Int) = (l1_0.length : Int) then (impl_typeSame.l0 k (l0_0.length : Int) 0 l0_0 l1_0) else (some false)
end
theorem impl_typeSame.mono_l : ∀ k, (∀ y0 y1, LeO (impl_typeSame.f k y0 y1) (impl_typeSame.f (k + 1) y0 y1)) ∧ (∀ y0 y1 y2 y3, LeO (impl_typeSame.l0 k y0 y1 y2 y3) (impl_typeSame.l0 (k + 1) y0 y1 y2 y3))
 | 0 => ⟨fun _ _ r h => by simp [impl_typeSame.f] at h, fun _ _ _ _ r h => by simp [impl_typeSame.l0] at h⟩
 | k + 1 => by
  obtain ⟨ih0, ih1⟩ := impl_typeSame.mono_l k
  refine ⟨?_, ?_⟩
  ·intro y0 y1
   unfold impl_typeSame.f
   repeat' first
   | (with_reducible exact ih0 _ _)
   | (with_reducible exact ih1 _ _ _ _)
   | (with_reducible exact LeO.refl _)
   | (with_reducible exact LeO.none _)
   | (with_reducible refine LeO.ite ?_ ?_)
   | (with_reducible refine LeO.bind ?_ (fun _ => ?_))
   | exact ih0 _ _
   | exact ih1 _ _ _ _
   | exact LeO.none _
   | refine LeO.ite ?_ ?_
   | refine LeO.bind ?_ (fun _ => ?_)
  ·intro y0 y1 y2 y3
   unfold impl_typeSame.l0
   repeat' first
   | (with_reducible exact ih0 _ _)
   | (with_reducible exact ih1 _ _ _ _)
   | (with_reducible exact LeO.refl _)
   | (with_reducible exact LeO.none _)
   | (with_reducible refine LeO.ite ?_ ?_)
   | (with_reducible refine LeO.bind ?_ (fun _ => ?_))
   | exact ih0 _ _
   | exact ih1 _ _ _ _
   | exact LeO.none _
   | refine LeO.ite ?_ ?_
   | refine LeO.bind ?_ (fun _ => ?_)
theorem impl_typeSame.mono : ∀ a0 a1 k, LeO (impl_typeSame.f k a0 a1) (impl_typeSame.f (k + 1) a0 a1) := by
 intro a0 a1 k
 obtain ⟨ih0, ih1⟩ := impl_typeSame.mono_l k
 exact ih0 a0 a1
def impl_typeSame.T6 : Bool × List (List Nat × List Nat) := (true, [([], []), ([0], [0]), ([], []), ([1, 2], [1, 2]), ([3], [3]), ([], []), ([5], [5]), ([], []), ([6, 7], [6, 7]), ([8], [8]), ([4, 9], [4, 9]), ([10], [10])])
def impl_typeSame.B6 : List Nat := [0, 1, 0, 7, 15, 0, 32, 0, 224, 480, 1023, 2047]
theorem impl_typeSame.tab6 : rtab .any (opsOf Try.f46 6) = impl_typeSame.T6 := by kernel_rfl
theorem impl_typeSame.bits6 : waitsOk impl_typeSame.T6.2 impl_typeSame.B6 = true := by kernel_rfl
set_option maxHeartbeats 8000000 in
set_option maxRecDepth 100000 in
theorem impl_typeSame.calls (k : Nat) : ∀ (A0_0 : Option Addr) (c0_0 : Nat) (l0_0 : List (S50)) (A1_0 : Option Addr) (c1_0 : Nat) (l1_0 : List (S50)) (r : Bool) (w : World) (hr0_0 : Kd.C k50 w A0_0 l0_0.length l0_0) (hc0_0 : l0_0.length ≤ c0_0) (hr1_0 : Kd.C k50 w A1_0 l1_0.length l1_0) (hc1_0 : l1_0.length ≤ c1_0) (h : impl_typeSame.f k l0_0 l1_0 = some r),
  Calls Try.prog 46 #[.agg #[.slice A0_0 l0_0.length c0_0], .agg #[.slice A1_0 l1_0.length c1_0]] w fun e w' => e = .returned (.bool r) ∧ Below w.heap.size w w' := by
 induction k using Nat.strongRecOn with
 | _ k ih =>
 intro A0_0 c0_0 l0_0 A1_0 c1_0 l1_0 r w hr0_0 hc0_0 hr1_0 hc1_0 h
 cases k with
 | zero => exact absurd h (by simp [impl_typeSame.f])
 | succ k =>
 simp only [impl_typeSame.f] at h
 have hu50 := Try.underlying50
 have HR0_0 := Aside0.mk hr0_0
 have HC0_0 := Aside0.mk hc0_0
 clear hr0_0 hc0_0
 have HR1_0 := Aside0.mk hr1_0
 have HC1_0 := Aside0.mk hc1_0
 clear hr1_0 hc1_0
 have HB := Aside0.mk (Below.refl w.heap.size w)
 have H : (if (l0_0.length : Int) = (l1_0.length : Int) then (impl_typeSame.l0 k (l0_0.length : Int) 0 l0_0 l1_0) else (some false)) = some r := h
 clear h
 by_cases c3 : (l0_0.length : Int) = (l1_0.length : Int)
 ·rw [if_pos c3] at H
  have c3b0 : ((l0_0.length : Int) == (l1_0.length : Int)) = true := beq_iff_eq.mpr c3
  have c3b1 : ((l0_0.length : Int) != (l1_0.length : Int)) = false := bne_eq_false_iff_eq.mpr c3
  have c3b2 : (l0_0.length == l1_0.length) = true := by first | simpa using c3 | (simp at c3 ⊢; omega)
  clear c3
  have H' := Aside0.mk H
  clear H
  go_enter Try.func46, Try.ntmps46
  go_wp2_with (first | ((with_reducible refine gate_dst (N := 2) rfl ?_); refine zbx 2 #[.slice A0_0 l0_0.length c0_0] 50 ?_; intro gb492 hg w4 hbox hb; have BK492 := Aside0.mk hbox; have GW492 := Aside0.mk ((y9 hg HB.out : w.heap.size ≤ gb492)); have GE492 := Aside0.mk ((y9 hg HB.out : w.heap.size ≤ gb492)); replace HB := Aside0.mk (below_step (y5 HB.out) hb); clear hb hbox hg) | ((with_reducible refine gate_dst (N := 3) rfl ?_); refine zbx 3 #[.slice A1_0 l1_0.length c1_0] 50 ?_; intro gb493 hg w5 hbox hb; have BK493 := Aside0.mk hbox; have GW493 := Aside0.mk ((y11 hg HB.out GE492.out : w.heap.size ≤ gb493)); have GE493 := Aside0.mk ((y11 hg HB.out GE492.out : w.heap.size ≤ gb493)); replace HB := Aside0.mk (below_step (y6 HB.out GE492.out) hb); have NB492_493 := zltn hg BK492; have NB493_492 := zgtn hg BK492; replace BK492 := zbb BK492 hb; clear hb hbox hg; have hnb6 := NB492_493.out; have hnc6 := NB493_492.out; have hcz7_0 := zh BK492; have hfz7_0 := zfr BK492 0; have hcz8_0 := zh BK493; have hfz8_0 := zfr BK493 0))
  go_loopg [16] k (fun kq v16 w' => ∃ (x16_1 : Int), v16 = .int .i64 x16_1 ∧ Aside0 (impl_typeSame.l0 kq (l0_0.length : Int) x16_1 l0_0 l1_0 = some r) ∧ Aside0 (kq ≤ k) ∧ Aside0 (w'.heap[gb492]? = some (.cells #[(.slice A0_0 l0_0.length c0_0)] 50 (0, 0))) ∧ Aside0 (w'.heap[gb493]? = some (.cells #[(.slice A1_0 l1_0.length c1_0)] 50 (0, 0))) ∧ Aside0 (Below w.heap.size w w'))
  case atStart => exact ⟨(0), y34, H', ⟨Nat.le_refl _⟩, ⟨(y0 BK492.out)⟩, ⟨(y0 BK493.out)⟩, ⟨(y2 HB.out GE492.out GE493.out)⟩⟩
  case round =>
   clear H'
   try clear c1
   try clear p2
   try clear c3
   try clear c3b0
   try clear c3b1
   try clear c3b2
   try clear c4
   try clear c6
   try clear hcz7_0
   try clear hcz8_0
   try clear hfz7_0
   try clear hfz8_0
   (try clear BK492); (try clear BK493)
   obtain ⟨x16_1, rfl, HA, HK1, BK492, BK493, HB⟩ := hrel
   cases gk with
   | zero => exact absurd HA.out (by simp [impl_typeSame.l0])
   | succ k1 =>
    have H := HA.out
    clear HA
    simp only [impl_typeSame.l0] at H
    by_cases c9 : x16_1 < (l0_0.length : Int)
    ·rw [if_pos c9] at H
     have c9b0 : decide (x16_1 < (l0_0.length : Int)) = true := decide_eq_true c9
     clear c9
     by_cases c10 : 0 ≤ x16_1
     ·rw [if_pos c10] at H
      have c10b0 : decide (0 ≤ x16_1) = true := decide_eq_true c10
      clear c10
      by_cases c11 : x16_1 < (l0_0.length : Int)
      ·rw [if_pos c11] at H
       have c11b0 : decide (x16_1 < (l0_0.length : Int)) = true := decide_eq_true c11
       clear c11
       by_cases c12 : x16_1 < (l1_0.length : Int)
       ·rw [if_pos c12] at H
        have c12b0 : decide (x16_1 < (l1_0.length : Int)) = true := decide_eq_true c12
        clear c12
        obtain ⟨t496, A130, H⟩ := ob H
        have A13 := Aside0.mk A130
        clear A130
        by_cases c14 : t496 = true
        ·subst c14
         rw [if_pos rfl] at H
         have H' := Aside0.mk H
         clear H
         try go_wp2
         replace BK492 := Aside0.mk (blk_drew BK492.out)
         replace BK493 := Aside0.mk (blk_drew BK493.out)
         replace HB := Aside0.mk (below_drew1 HB.out)
         have p494 : 0 ≤ (x16_1 : Int) := of_decide_eq_true y23
         have q494 : x16_1 < (l0_0.length : Int) := of_decide_eq_true y23
         obtain ⟨ad494, A494_0, c494_0, e494, hx494_0, hl494_0, hi494_0⟩ := at_T50 HR0_0.out x16_1 p494 q494
         have hw494_0 := hx494_0
         cases e494
         replace hx494_0 := (HB.out.cell (World.block_lt_of_cell? w _ hx494_0)).trans hx494_0
         have HR494_0 := Aside0.mk hi494_0
         have HC494_0 := Aside0.mk hl494_0
         clear hi494_0 hl494_0
         replace p494 := eq_true p494
         replace q494 := eq_true q494
         have p495 : 0 ≤ (x16_1 : Int) := of_decide_eq_true y23
         have q495 : x16_1 < (l1_0.length : Int) := of_decide_eq_true y23
         obtain ⟨ad495, A495_0, c495_0, e495, hx495_0, hl495_0, hi495_0⟩ := at_T50 HR1_0.out x16_1 p495 q495
         have hw495_0 := hx495_0
         cases e495
         replace hx495_0 := (HB.out.cell (World.block_lt_of_cell? w _ hx495_0)).trans hx495_0
         have HR495_0 := Aside0.mk hi495_0
         have HC495_0 := Aside0.mk hl495_0
         clear hi495_0 hl495_0
         replace p495 := eq_true p495
         replace q495 := eq_true q495
         refine start_ (n := 12) (S := fun w' => w'.cell? ⟨gb492, 0, none⟩ = some (.slice (some ad494) l0_0.length c0_0) ∧ w'.cell? ⟨gb493, 0, none⟩ = some (.slice (some ad495) l1_0.length c1_0) ∧ w'.cell? (ad494.add (x16_1).toNat) = some (.slice A494_0 ((rd_T50 l0_0 x16_1).f0).length c494_0) ∧ w'.cell? (ad495.add (x16_1).toNat) = some (.slice A495_0 ((rd_T50 l1_0 x16_1).f0).length c495_0)) (ds := []) #[false, false, false, false, false, false, false, false, false, false, false, false] (by kernel_rfl) rfl rfl ⟨(blk_cell BK492.out 0).trans rfl, (blk_cell BK493.out 0).trans rfl, ((HB.out.cell (World.block_lt_of_cell? w _ hw494_0)).trans hw494_0), ((HB.out.cell (World.block_lt_of_cell? w _ hw495_0)).trans hw495_0)⟩ (fun hHeld => ?_); refine with_tabW impl_typeSame.tab6 impl_typeSame.bits6 (fun HT_ HW_ => ?_)
         generalize wr.drew = w15 at BK492 BK493 HB HR494_0 HR495_0 hx494_0 hx495_0 hHeld ⊢
         refine zp 0 (some 19) HT_ ?_
         refine zp 2 (some 21) HT_ ?_
         refine zp 5 (some 24) HT_ ?_
         refine zp 7 (some 26) HT_ ?_
         refine zt4 1 (some 20) HT_ HW_ hHeld ?_
         refine zp 3 (some 22) HT_ ?_
         refine zt4 4 (some 23) HT_ HW_ hHeld ?_
         refine zt4 6 (some 25) HT_ HW_ hHeld ?_
         refine zp 8 (some 27) HT_ ?_
         refine zt4 9 (some 28) HT_ HW_ hHeld ?_
         refine one_ (i := 10) (N := some 29) #[true, true, true, true, true, true, true, true, true, true, true, false] rfl rfl (one_of HT_.out (by kernel_rfl)) (by decide) (fun K hK => ?_)
         refine goes_ Try.func46 (by kernel_rfl) rfl #[.agg #[.slice A494_0 ((rd_T50 l0_0 x16_1).f0).length c494_0], .agg #[.slice A495_0 ((rd_T50 l1_0 x16_1).f0).length c495_0]] (by rfl) rfl rfl y8 ?_
         with_reducible refine (ih k1 (y57 HK1.out) _ _ ((rd_T50 l0_0 x16_1).f0) _ _ ((rd_T50 l1_0 x16_1).f0) true _ ?side1 ?side2 ?side3 ?side4 A13.out).mono ?_
         (case side1 => exact y15 HR494_0.out HB.out)
         (case side2 => exact HC494_0.out)
         (case side3 => exact y15 HR495_0.out HB.out)
         (case side4 => exact HC495_0.out)
         rintro e w16 ⟨rfl, hb⟩
         refine ⟨_, rfl, ?_⟩
         replace BK492 := zbb BK492 hb
         replace BK493 := zbb BK493 hb
         replace HB := Aside0.mk (below_step (y2 HB.out GE492.out GE493.out) hb)
         (try clear hb)
         (try clear hb2)
         (try clear hk)
         (try clear hi)
         refine hK.out _ _ ⟨(blk_cell BK492.out 0).trans rfl, (blk_cell BK493.out 0).trans rfl, ((HB.out.cell (World.block_lt_of_cell? w _ hw494_0)).trans hw494_0), ((HB.out.cell (World.block_lt_of_cell? w _ hw495_0)).trans hw495_0)⟩ (fun hHeld => ?_)
         clear hK K
         refine norm_ (a' := ?_) ?_ ?_
         rotate_left
         ·show Act.put _ (some 29) _ = _
          simp only [Act.put, List.setIfInBounds_toArray, List.set_cons_zero, List.set_cons_succ, i64_w, i32_w]
          rfl
         refine zp 11 (some 30) HT_ ?_
         refine done_ (done_of HT_.out (by kernel_rfl)) ?_
         try go_wp2
         go_roundg k1
         case measure => have := HK1.out; omega
         case rel => exact ⟨(wrap64 (x16_1 + 1)), y34, H', ⟨(y57 HK1.out)⟩, ⟨(y0 BK492.out)⟩, ⟨(y0 BK493.out)⟩, ⟨(y2 HB.out GE492.out GE493.out)⟩⟩
        ·replace c14 := Bool.eq_false_iff.mpr c14
         subst c14
         rw [if_neg (show ¬ (false = true) by decide)] at H
         obtain rfl := Option.some.inj H
         try go_wp2
         replace BK492 := Aside0.mk (blk_drew BK492.out)
         replace BK493 := Aside0.mk (blk_drew BK493.out)
         replace HB := Aside0.mk (below_drew1 HB.out)
         have p494 : 0 ≤ (x16_1 : Int) := of_decide_eq_true y23
         have q494 : x16_1 < (l0_0.length : Int) := of_decide_eq_true y23
         obtain ⟨ad494, A494_0, c494_0, e494, hx494_0, hl494_0, hi494_0⟩ := at_T50 HR0_0.out x16_1 p494 q494
         have hw494_0 := hx494_0
         cases e494
         replace hx494_0 := (HB.out.cell (World.block_lt_of_cell? w _ hx494_0)).trans hx494_0
         have HR494_0 := Aside0.mk hi494_0
         have HC494_0 := Aside0.mk hl494_0
         clear hi494_0 hl494_0
         replace p494 := eq_true p494
         replace q494 := eq_true q494
         have p495 : 0 ≤ (x16_1 : Int) := of_decide_eq_true y23
         have q495 : x16_1 < (l1_0.length : Int) := of_decide_eq_true y23
         obtain ⟨ad495, A495_0, c495_0, e495, hx495_0, hl495_0, hi495_0⟩ := at_T50 HR1_0.out x16_1 p495 q495
         have hw495_0 := hx495_0
         cases e495
         replace hx495_0 := (HB.out.cell (World.block_lt_of_cell? w _ hx495_0)).trans hx495_0
         have HR495_0 := Aside0.mk hi495_0
         have HC495_0 := Aside0.mk hl495_0
         clear hi495_0 hl495_0
         replace p495 := eq_true p495
         replace q495 := eq_true q495
         refine start_ (n := 12) (S := fun w' => w'.cell? ⟨gb492, 0, none⟩ = some (.slice (some ad494) l0_0.length c0_0) ∧ w'.cell? ⟨gb493, 0, none⟩ = some (.slice (some ad495) l1_0.length c1_0) ∧ w'.cell? (ad494.add (x16_1).toNat) = some (.slice A494_0 ((rd_T50 l0_0 x16_1).f0).length c494_0) ∧ w'.cell? (ad495.add (x16_1).toNat) = some (.slice A495_0 ((rd_T50 l1_0 x16_1).f0).length c495_0)) (ds := []) #[false, false, false, false, false, false, false, false, false, false, false, false] (by kernel_rfl) rfl rfl ⟨(blk_cell BK492.out 0).trans rfl, (blk_cell BK493.out 0).trans rfl, ((HB.out.cell (World.block_lt_of_cell? w _ hw494_0)).trans hw494_0), ((HB.out.cell (World.block_lt_of_cell? w _ hw495_0)).trans hw495_0)⟩ (fun hHeld => ?_); refine with_tabW impl_typeSame.tab6 impl_typeSame.bits6 (fun HT_ HW_ => ?_)
         generalize wr.drew = w17 at BK492 BK493 HB HR494_0 HR495_0 hx494_0 hx495_0 hHeld ⊢
         refine zp 0 (some 19) HT_ ?_
         refine zp 2 (some 21) HT_ ?_
         refine zp 5 (some 24) HT_ ?_
         refine zp 7 (some 26) HT_ ?_
         refine zt4 1 (some 20) HT_ HW_ hHeld ?_
         refine zp 3 (some 22) HT_ ?_
         refine zt4 4 (some 23) HT_ HW_ hHeld ?_
         refine zt4 6 (some 25) HT_ HW_ hHeld ?_
         refine zp 8 (some 27) HT_ ?_
         refine zt4 9 (some 28) HT_ HW_ hHeld ?_
         refine one_ (i := 10) (N := some 29) #[true, true, true, true, true, true, true, true, true, true, true, false] rfl rfl (one_of HT_.out (by kernel_rfl)) (by decide) (fun K hK => ?_)
         refine goes_ Try.func46 (by kernel_rfl) rfl #[.agg #[.slice A494_0 ((rd_T50 l0_0 x16_1).f0).length c494_0], .agg #[.slice A495_0 ((rd_T50 l1_0 x16_1).f0).length c495_0]] (by rfl) rfl rfl y8 ?_
         with_reducible refine (ih k1 (y57 HK1.out) _ _ ((rd_T50 l0_0 x16_1).f0) _ _ ((rd_T50 l1_0 x16_1).f0) false _ ?side1 ?side2 ?side3 ?side4 A13.out).mono ?_
         (case side1 => exact y15 HR494_0.out HB.out)
         (case side2 => exact HC494_0.out)
         (case side3 => exact y15 HR495_0.out HB.out)
         (case side4 => exact HC495_0.out)
         rintro e w18 ⟨rfl, hb⟩
         refine ⟨_, rfl, ?_⟩
         replace BK492 := zbb BK492 hb
         replace BK493 := zbb BK493 hb
         replace HB := Aside0.mk (below_step (y2 HB.out GE492.out GE493.out) hb)
         (try clear hb)
         (try clear hb2)
         (try clear hk)
         (try clear hi)
         refine hK.out _ _ ⟨(blk_cell BK492.out 0).trans rfl, (blk_cell BK493.out 0).trans rfl, ((HB.out.cell (World.block_lt_of_cell? w _ hw494_0)).trans hw494_0), ((HB.out.cell (World.block_lt_of_cell? w _ hw495_0)).trans hw495_0)⟩ (fun hHeld => ?_)
         clear hK K
         refine norm_ (a' := ?_) ?_ ?_
         rotate_left
         ·show Act.put _ (some 29) _ = _
          simp only [Act.put, List.setIfInBounds_toArray, List.set_cons_zero, List.set_cons_succ, i64_w, i32_w]
          rfl
         refine zp 11 (some 30) HT_ ?_
         refine done_ (done_of HT_.out (by kernel_rfl)) ?_
         try go_wp2
         go_ret
         exact ⟨y19, (y2 HB.out GE492.out GE493.out)⟩
       ·rw [if_neg c12] at H
        exact absurd H (by simp)
      ·rw [if_neg c11] at H
       exact absurd H (by simp)
     ·rw [if_neg c10] at H
      exact absurd H (by simp)
    ·rw [if_neg c9] at H
     have c9b0 : decide (x16_1 < (l0_0.length : Int)) = false := decide_eq_false c9
     clear c9
     obtain rfl := Option.some.inj H
     go_wp2
     go_ret
     exact ⟨y19, (y2 HB.out GE492.out GE493.out)⟩
 ·rw [if_neg c3] at H
  have c3b0 : ((l0_0.length : Int) == (l1_0.length : Int)) = false := beq_eq_false_iff_ne.mpr c3
  have c3b1 : ((l0_0.length : Int) != (l1_0.length : Int)) = true := bne_iff_ne.mpr c3
  have c3b2 : (l0_0.length == l1_0.length) = false := by first | simpa using c3 | (simp at c3 ⊢; omega)
  obtain rfl := Option.some.inj H
  go_enter Try.func46, Try.ntmps46
  go_wp2_with (first | ((with_reducible refine gate_dst (N := 2) rfl ?_); refine zbx 2 #[.slice A0_0 l0_0.length c0_0] 50 ?_; intro gb492 hg w19 hbox hb; have BK492 := Aside0.mk hbox; have GW492 := Aside0.mk ((y9 hg HB.out : w.heap.size ≤ gb492)); have GE492 := Aside0.mk ((y9 hg HB.out : w.heap.size ≤ gb492)); replace HB := Aside0.mk (below_step (y5 HB.out) hb); clear hb hbox hg) | ((with_reducible refine gate_dst (N := 3) rfl ?_); refine zbx 3 #[.slice A1_0 l1_0.length c1_0] 50 ?_; intro gb493 hg w20 hbox hb; have BK493 := Aside0.mk hbox; have GW493 := Aside0.mk ((y11 hg HB.out GE492.out : w.heap.size ≤ gb493)); have GE493 := Aside0.mk ((y11 hg HB.out GE492.out : w.heap.size ≤ gb493)); replace HB := Aside0.mk (below_step (y6 HB.out GE492.out) hb); have NB492_493 := zltn hg BK492; have NB493_492 := zgtn hg BK492; replace BK492 := zbb BK492 hb; clear hb hbox hg; have hnb21 := NB492_493.out; have hnc21 := NB493_492.out; have hcz22_0 := zh BK492; have hfz22_0 := zfr BK492 0; have hcz23_0 := zh BK493; have hfz23_0 := zfr BK493 0))
  go_ret
  exact ⟨y19, (y2 HB.out GE492.out GE493.out)⟩
end Go.Proofs.Ythfflieeifakdaa.PA
end
section
namespace Go.Proofs.Ythfflieeifakdaa.PA
open Go.RowKit Go.Proofs.YthfflieeifakdaaW.PrintWords Go.Proofs.YthfflieeifakdaaW.PrintLast Go.Proofs.YthfflieeifakdaaW.PrintMore
attribute [local go_sem] max2_int min2_int max_two min_two max_three min_three max_four min_four
set_option linter.unusedVariables false
set_option linter.unusedSimpArgs false
mutual
def impl_valWith.l0 : Nat → List Int → List (S25) → List (S25) → Int → Int → Int → List (S25) → Option (Int × (List (S25)))
 | 0, _, _, _, _, _, _, _ => none
 | k + 1, x1, x7, x19, x20, x21, x499000, x499001 => if x21 < x20 then (if 0 ≤ x21 then (if x21 < (x19.length : Int) then (if 0 < (x1.length : Int) then (if x21 = (rd x1 0) then (if 1 ≤ (x1.length : Int) then ((impl_valWith.f k ((rd_T25 x19 x21).f0) ((rd_T25 x19 x21).f1) (x1.drop 1) x499000 x499001).bind fun bt511 => (if x21 < (x7.length : Int) then (impl_valWith.l0 k x1 (x7.set (x21 : Int).toNat (⟨bt511.1, bt511.2⟩ : S25)) x19 x20 (wrap64 (x21 + 1)) x499000 x499001) else (none))) else (none)) else ((impl_valCopy.f k ((rd_T25 x19 x21).f0) ((rd_T25 x19 x21).f1)).bind fun bt516 => (if x21 < (x7.length : Int) then (impl_valWith.l0 k x1 (x7.set (x21 : Int).toNat (⟨bt516.1, bt516.2⟩ : S25)) x19 x20 (wrap64 (x21 + 1)) x499000 x499001) else (none)))) else (none)) else (none)) else (none)) else (some (0, x7))
def impl_valWith.f : Nat → Int → List (S25) → List Int → Int → List (S25) → Option (Int × (List (S25)))
 | 0, _, _, _, _, _ => none
 | k + 1, a0_0, l0_1, l1, a2_0, l2_1 => if (l1.length : Int) = 0 then ((impl_valCopy.f k a2_0 l2_1).bind fun bt500 => (some (bt500.1, bt500.2))) else (impl_valWith.l0 k l1 (([(⟨0, ([] : List (S25))⟩ : S25), (⟨0, ([] : List (S25))⟩ : S25)] : List (S25))) l0_1 (l0_1.length : Int) 0 a2_0 l2_1)
end
theorem impl_valWith.mono_l : ∀ k, (∀ y0 y1 y2 y3 y4, LeO (impl_valWith.f k y0 y1 y2 y3 y4) (impl_valWith.f (k + 1) y0 y1 y2 y3 y4)) ∧ (∀ y0 y1 y2 y3 y4 y5 y6, LeO (impl_valWith.l0 k y0 y1 y2 y3 y4 y5 y6) (impl_valWith.l0 (k + 1) y0 y1 y2 y3 y4 y5 y6))
 | 0 => ⟨fun _ _ _ _ _ r h => by simp [impl_valWith.f] at h, fun _ _ _ _ _ _ _ r h => by simp [impl_valWith.l0] at h⟩
 | k + 1 => by
  obtain ⟨ih0, ih1⟩ := impl_valWith.mono_l k
  refine ⟨?_, ?_⟩
  ·intro y0 y1 y2 y3 y4
   unfold impl_valWith.f
   repeat' first
   | (with_reducible exact ih0 _ _ _ _ _)
   | (with_reducible exact ih1 _ _ _ _ _ _ _)
   | (with_reducible exact impl_valCopy.mono _ _ _)
   | (with_reducible exact LeO.refl _)
   | (with_reducible exact LeO.none _)
   | (with_reducible refine LeO.ite ?_ ?_)
   | (with_reducible refine LeO.bind ?_ (fun _ => ?_))
   | exact ih0 _ _ _ _ _
   | exact ih1 _ _ _ _ _ _ _
   | exact impl_valCopy.mono _ _ _
   | exact LeO.none _
   | refine LeO.ite ?_ ?_
   | refine LeO.bind ?_ (fun _ => ?_)
  ·intro y0 y1 y2 y3 y4 y5 y6
   unfold impl_valWith.l0
   repeat' first
   | (with_reducible exact ih0 _ _ _ _ _)
   | (with_reducible exact ih1 _ _ _ _ _ _ _)
   | (with_reducible exact impl_valCopy.mono _ _ _)
   | (with_reducible exact LeO.refl _)
   | (with_reducible exact LeO.none _)
   | (with_reducible refine LeO.ite ?_ ?_)
   | (with_reducible refine LeO.bind ?_ (fun _ => ?_))
   | exact ih0 _ _ _ _ _
   | exact ih1 _ _ _ _ _ _ _
   | exact impl_valCopy.mono _ _ _
   | exact LeO.none _
   | refine LeO.ite ?_ ?_
   | refine LeO.bind ?_ (fun _ => ?_)
theorem impl_valWith.mono : ∀ a0 a1 a2 a3 a4 k, LeO (impl_valWith.f k a0 a1 a2 a3 a4) (impl_valWith.f (k + 1) a0 a1 a2 a3 a4) := by
 intro a0 a1 a2 a3 a4 k
 obtain ⟨ih0, ih1⟩ := impl_valWith.mono_l k
 exact ih0 a0 a1 a2 a3 a4
def impl_valWith.T8 : Bool × List (List Nat × List Nat) := (true, [([], []), ([], []), ([], []), ([], []), ([3], [3]), ([], []), ([2, 4, 5], [2, 4, 5]), ([0, 1, 0, 1, 2, 3, 4, 5, 6], [0, 1]), ([7, 6, 6, 0, 1, 2, 3, 4, 5, 6], [6, 7])])
def impl_valWith.B8 : List Nat := [0, 0, 0, 0, 8, 0, 60, 127, 255]
theorem impl_valWith.tab8 : rtab .any (opsOf Try.f47 8) = impl_valWith.T8 := by kernel_rfl
theorem impl_valWith.bits8 : waitsOk impl_valWith.T8.2 impl_valWith.B8 = true := by kernel_rfl
set_option maxHeartbeats 8000000 in
set_option maxRecDepth 100000 in
theorem impl_valWith.calls (k : Nat) : ∀ (a0_0 : Int) (P0_1_ : Nat → Prop) (A0_1 : Option Addr) (c0_1 : Nat) (l0_1 : List (S25)) (A1 : Option Addr) (c1 : Nat) (l1 : List Int) (a2_0 : Int) (P2_1_ : Nat → Prop) (A2_1 : Option Addr) (c2_1 : Nat) (l2_1 : List (S25)) (r1 : Int) (r2 : List (S25)) (w : World) (hs0_1 : Kd.V k25 25 w w.heap.size (fun k_ => P0_1_ k_) (.slice A0_1 l0_1.length c0_1) l0_1) (hr1 : Kd.C (Kd.int .i64) w A1 l1.length l1) (hc1 : l1.length ≤ c1) (hs2_1 : Kd.V k25 25 w w.heap.size (fun k_ => P2_1_ k_) (.slice A2_1 l2_1.length c2_1) l2_1) (h : impl_valWith.f k a0_0 l0_1 l1 a2_0 l2_1 = some (r1, r2)),
  Calls Try.prog 47 #[.agg #[.int .i64 a0_0, .slice A0_1 l0_1.length c0_1], .slice A1 l1.length c1, .agg #[.int .i64 a2_0, .slice A2_1 l2_1.length c2_1]] w fun e w' => ∃ v1_ : Value, e = .returned (.agg #[.int .i64 r1, v1_]) ∧ Kd.N k25 25 w' w.heap.size (fun k_ => ((P0_1_ k_ ∨ P2_1_ k_) ∨ w.heap.size ≤ k_)) v1_ r2 ∧ Below w.heap.size w w' := by
 induction k using Nat.strongRecOn with
 | _ k ih =>
 intro a0_0 P0_1_ A0_1 c0_1 l0_1 A1 c1 l1 a2_0 P2_1_ A2_1 c2_1 l2_1 r1 r2 w hs0_1 hr1 hc1 hs2_1 h
 cases k with
 | zero => exact absurd h (by simp [impl_valWith.f])
 | succ k =>
 simp only [impl_valWith.f] at h
 have hu25 := Try.underlying25
 have HO0_1 := Aside0.mk (show Kd.V k25 25 w w.heap.size (fun k_ => ((P0_1_ k_ ∨ P2_1_ k_) ∨ w.heap.size ≤ k_)) (.slice A0_1 l0_1.length c0_1) l0_1 from Kd.V_mono hs0_1 (fun k_ hk => .inl (.inl hk)))
 have HR1 := Aside0.mk hr1
 have HC1 := Aside0.mk hc1
 clear hr1 hc1
 have HO2_1 := Aside0.mk (show Kd.V k25 25 w w.heap.size (fun k_ => ((P0_1_ k_ ∨ P2_1_ k_) ∨ w.heap.size ≤ k_)) (.slice A2_1 l2_1.length c2_1) l2_1 from Kd.V_mono hs2_1 (fun k_ hk => .inl (.inr hk)))
 have HB := Aside0.mk (Below.refl w.heap.size w)
 have H : (if (l1.length : Int) = 0 then ((impl_valCopy.f k a2_0 l2_1).bind fun bt500 => (some (bt500.1, bt500.2))) else (impl_valWith.l0 k l1 (([(⟨0, ([] : List (S25))⟩ : S25), (⟨0, ([] : List (S25))⟩ : S25)] : List (S25))) l0_1 (l0_1.length : Int) 0 a2_0 l2_1)) = some (r1, r2) := h
 clear h
 by_cases c4 : (l1.length : Int) = 0
 ·rw [if_pos c4] at H
  have c4b0 : ((l1.length : Int) == 0) = true := beq_iff_eq.mpr c4
  have c4b1 : ((l1.length : Int) != 0) = false := bne_eq_false_iff_eq.mpr c4
  clear c4
  obtain ⟨⟨t500, t501⟩, A50, H⟩ := ob H
  have A5 := Aside0.mk A50
  clear A50
  simp only [Option.some.injEq, Prod.mk.injEq] at H
  obtain ⟨rfl, rfl⟩ := H
  go_enter Try.func47, Try.ntmps47
  go_wp2_with (first | ((with_reducible refine gate_dst (N := 3) rfl ?_); refine zbx 3 #[.int .i64 a0_0, .slice A0_1 l0_1.length c0_1] 25 ?_; intro gb497 hg w6 hbox hb; replace HO0_1 := Aside0.mk (Kd.V_below (Kd.V_elderB (y10 HO0_1.out) gb497 (Nat.le_of_eq hg.symm)) hb); replace HO2_1 := Aside0.mk (Kd.V_below (Kd.V_elderB (y10 HO2_1.out) gb497 (Nat.le_of_eq hg.symm)) hb); have BK497 := Aside0.mk hbox; have GW497 := Aside0.mk ((y9 hg HB.out : w.heap.size ≤ gb497)); have GE497 := Aside0.mk ((y9 hg HB.out : w.heap.size ≤ gb497)); replace HB := Aside0.mk (below_step (y5 HB.out) hb); clear hb hbox hg) | ((with_reducible refine gate_dst (N := 5) rfl ?_); refine zbx 5 #[.int .i64 a2_0, .slice A2_1 l2_1.length c2_1] 25 ?_; intro gb498 hg w7 hbox hb; replace HO0_1 := Aside0.mk (Kd.V_below (Kd.V_elderB (y10 HO0_1.out) gb498 (Nat.le_of_eq hg.symm)) hb); replace HO2_1 := Aside0.mk (Kd.V_below (Kd.V_elderB (y10 HO2_1.out) gb498 (Nat.le_of_eq hg.symm)) hb); have BK498 := Aside0.mk hbox; have GW498 := Aside0.mk ((y11 hg HB.out GE497.out : w.heap.size ≤ gb498)); have GE498 := Aside0.mk ((y11 hg HB.out GE497.out : w.heap.size ≤ gb498)); replace HB := Aside0.mk (below_step (y6 HB.out GE497.out) hb); have NB497_498 := zltn hg BK497; have NB498_497 := zgtn hg BK497; replace BK497 := zbb BK497 hb; clear hb hbox hg) | ((with_reducible refine gate_dst (N := 6) rfl ?_); refine zbx 6 #[.int .i64 0, .slice none 0 0] 25 ?_; intro gb499 hg w8 hbox hb; replace HO0_1 := Aside0.mk (Kd.V_below (Kd.V_elderB (y10 HO0_1.out) gb499 (Nat.le_of_eq hg.symm)) hb); replace HO2_1 := Aside0.mk (Kd.V_below (Kd.V_elderB (y10 HO2_1.out) gb499 (Nat.le_of_eq hg.symm)) hb); have BK499 := Aside0.mk hbox; have GW499 := Aside0.mk ((y16 hg HB.out GE497.out GE498.out : w.heap.size ≤ gb499)); have GE499 := Aside0.mk ((y16 hg HB.out GE497.out GE498.out : w.heap.size ≤ gb499)); replace HB := Aside0.mk (below_step (y2 HB.out GE497.out GE498.out) hb); have NB497_499 := zltn hg BK497; have NB499_497 := zgtn hg BK497; replace BK497 := zbb BK497 hb; have NB498_499 := zltn hg BK498; have NB499_498 := zgtn hg BK498; replace BK498 := zbb BK498 hb; clear hb hbox hg; have hnb9 := NB498_497.out; have hnc9 := NB497_498.out; have hnb10 := NB498_499.out; have hnc10 := NB499_498.out; have hcz11_0 := zh BK498; have hcz11_1 := zh1 BK498; have hfz11_0 := zfr BK498 0; have hfz11_1 := zfr BK498 1) | ((with_reducible refine gate_callee (f := 40) rfl ?_); refine goesL_ (some 14) rfl rfl Try.func40 (by kernel_rfl) rfl #[.agg #[.int .i64 a2_0, .slice A2_1 l2_1.length c2_1]] rfl y8 ?_; (with_reducible refine (impl_valCopy.calls k a2_0 _ _ l2_1 t500 t501 _ ?side1 ?side2 A5.out).mono ?_); (case side1 => exact y35 HO2_1.out); (case side2 => exact (Kd.V_reads' HO2_1.out).2.1); rintro e w12 ⟨v502, rfl, ho0, hb⟩; refine ⟨_, rfl, ?_⟩; replace HO0_1 := Aside0.mk (Kd.V_elder' (y10 HO0_1.out) (Kd.N_base ho0) hb); replace HO2_1 := Aside0.mk (Kd.V_elder' (y10 HO2_1.out) (Kd.N_base ho0) hb); have HO503 := Aside0.mk (Kd.N_lower (Kd.N_mono (ok' := fun k_ => ((P0_1_ k_ ∨ P2_1_ k_) ∨ w.heap.size ≤ k_) ∧ k_ ≠ gb497 ∧ k_ ≠ gb498 ∧ k_ ≠ gb499) ho0 (fun k_ hk_ => ⟨(.inr (Nat.le_trans (below_size (y4 HB.out GE497.out GE498.out GE499.out)) hk_)), (Kd.freshB (g := gb497) (o := .cells #[.int .i64 a0_0, .slice A0_1 l0_1.length c0_1] 25 (0, 0)) (y0 BK497.out) k_ hk_), (Kd.freshB (g := gb498) (o := .cells #[.int .i64 a2_0, .slice A2_1 l2_1.length c2_1] 25 (0, 0)) (y0 BK498.out) k_ hk_), (Kd.freshB (g := gb499) (o := .cells #[.int .i64 0, .slice none 0 0] 25 (0, 0)) (y0 BK499.out) k_ hk_)⟩)) (below_size (y4 HB.out GE497.out GE498.out GE499.out))); replace BK497 := zbb BK497 hb; replace BK498 := zbb BK498 hb; replace BK499 := zbb BK499 hb; replace HB := Aside0.mk (below_step (y4 HB.out GE497.out GE498.out GE499.out) hb); (try clear hb); (try clear hb2); (try clear hk); (try clear hi); (try clear ho0); have hnb13 := NB499_497.out; have hnc13 := NB497_499.out; have hcz14_0 := zh BK499; have hcz14_1 := zh1 BK499; have hfz14_0 := zfr BK499 0; have hfz14_1 := zfr BK499 1; obtain ⟨Ao15, co15, eo15⟩ := Kd.N_slice HO503.out; subst eo15))
  refine bodyPost_ret (results_cell_row rfl _ _ gb499 25 #[.int .i64 t500, .slice Ao15 t501.length co15] (0, 0) _ rfl (by (with_reducible repeat (first | refine blk_drewN ?_ _ | refine blk_drew ?_ | refine blk_alloc ?_ _)); refine blk_put (cs := #[.int .i64 t500, .slice none 0 0]) ?_ 1 _ rfl; (with_reducible repeat (first | refine blk_drewN ?_ _ | refine blk_drew ?_ | refine blk_alloc ?_ _)); apply blk_put (i := 0); (case h => exact y0 BK499.out); (case e => rfl)) Try.underlying25 rfl (by kernel_rfl)) rfl ?_
  exact ⟨_, y19, (by (with_reducible repeat (first | apply Kd.N_alloc | apply Kd.N_drewN | apply Kd.N_drew)); exact Kd.N_mono (Kd.N_far (p := ⟨gb499, 1, none⟩) (Kd.N_far (p := ⟨gb499, 0, none⟩) (Kd.N_mono HO503.out (fun k_ hk => (⟨hk, hk.2.2.2⟩ : _ ∧ k_ ≠ gb499))) (fun _ hk => hk.2) (.int .i64 t500)) (fun _ hk => hk.2) (.slice Ao15 t501.length co15)) (fun _ hk => hk.1.1)), (y4 HB.out GE497.out GE498.out GE499.out)⟩
 ·rw [if_neg c4] at H
  have c4b0 : ((l1.length : Int) == 0) = false := beq_eq_false_iff_ne.mpr c4
  have c4b1 : ((l1.length : Int) != 0) = true := bne_iff_ne.mpr c4
  have c4b2 : ¬ (l1 = []) := fun h_ => c4 (by rw [h_]; rfl)
  obtain ⟨y504, hy504⟩ : ∃ y_ : List (S25), y_ = (([(⟨0, ([] : List (S25))⟩ : S25), (⟨0, ([] : List (S25))⟩ : S25)] : List (S25))) := ⟨_, rfl⟩
  replace H : (impl_valWith.l0 k l1 y504 l0_1 (l0_1.length : Int) 0 a2_0 l2_1) = some (r1, r2) := by first | (rw [hy504]; with_reducible exact H) | (have H2_ := (Option.bind_some _ _).symm.trans H; rw [hy504]; with_reducible exact H2_) | (have H2_ := (Option.bind_some _ _).symm.trans H; with_reducible exact H2_) | with_reducible exact H | (rw [hy504]; exact H) | exact H
  have Ny504 := Aside0.mk hy504
  clear hy504
  have H' := Aside0.mk H
  clear H
  go_enter Try.func47, Try.ntmps47
  go_wp2_with (first | ((with_reducible refine gate_dst (N := 3) rfl ?_); refine zbx 3 #[.int .i64 a0_0, .slice A0_1 l0_1.length c0_1] 25 ?_; intro gb497 hg w16 hbox hb; replace HO0_1 := Aside0.mk (Kd.V_below (Kd.V_elderB (y10 HO0_1.out) gb497 (Nat.le_of_eq hg.symm)) hb); replace HO2_1 := Aside0.mk (Kd.V_below (Kd.V_elderB (y10 HO2_1.out) gb497 (Nat.le_of_eq hg.symm)) hb); have BK497 := Aside0.mk hbox; have GW497 := Aside0.mk ((y9 hg HB.out : w.heap.size ≤ gb497)); have GE497 := Aside0.mk ((y9 hg HB.out : w.heap.size ≤ gb497)); replace HB := Aside0.mk (below_step (y5 HB.out) hb); clear hb hbox hg) | ((with_reducible refine gate_dst (N := 5) rfl ?_); refine zbx 5 #[.int .i64 a2_0, .slice A2_1 l2_1.length c2_1] 25 ?_; intro gb498 hg w17 hbox hb; replace HO0_1 := Aside0.mk (Kd.V_below (Kd.V_elderB (y10 HO0_1.out) gb498 (Nat.le_of_eq hg.symm)) hb); replace HO2_1 := Aside0.mk (Kd.V_below (Kd.V_elderB (y10 HO2_1.out) gb498 (Nat.le_of_eq hg.symm)) hb); have BK498 := Aside0.mk hbox; have GW498 := Aside0.mk ((y11 hg HB.out GE497.out : w.heap.size ≤ gb498)); have GE498 := Aside0.mk ((y11 hg HB.out GE497.out : w.heap.size ≤ gb498)); replace HB := Aside0.mk (below_step (y6 HB.out GE497.out) hb); have NB497_498 := zltn hg BK497; have NB498_497 := zgtn hg BK497; replace BK497 := zbb BK497 hb; clear hb hbox hg) | ((with_reducible refine gate_dst (N := 6) rfl ?_); refine zbx 6 #[.int .i64 0, .slice none 0 0] 25 ?_; intro gb499 hg w18 hbox hb; replace HO0_1 := Aside0.mk (Kd.V_below (Kd.V_elderB (y10 HO0_1.out) gb499 (Nat.le_of_eq hg.symm)) hb); replace HO2_1 := Aside0.mk (Kd.V_below (Kd.V_elderB (y10 HO2_1.out) gb499 (Nat.le_of_eq hg.symm)) hb); have BK499 := Aside0.mk hbox; have GW499 := Aside0.mk ((y16 hg HB.out GE497.out GE498.out : w.heap.size ≤ gb499)); have GE499 := Aside0.mk ((y16 hg HB.out GE497.out GE498.out : w.heap.size ≤ gb499)); replace HB := Aside0.mk (below_step (y2 HB.out GE497.out GE498.out) hb); have NB497_499 := zltn hg BK497; have NB499_497 := zgtn hg BK497; replace BK497 := zbb BK497 hb; have NB498_499 := zltn hg BK498; have NB499_498 := zgtn hg BK498; replace BK498 := zbb BK498 hb; clear hb hbox hg) | ((with_reducible refine gate_dst (N := 17) rfl ?_); refine Kd.N_lit k25 _ 25 ?hg (N' := 17) ?hd (xs := ([(⟨0, ([] : List (S25))⟩ : S25), (⟨0, ([] : List (S25))⟩ : S25)] : List (S25))) (inner := [.int .i64 0, .slice none 0 0, .int .i64 0, .slice none 0 0]) (ok := (fun k_ => ((P0_1_ k_ ∨ P2_1_ k_) ∨ w.heap.size ≤ k_) ∧ k_ ≠ gb497 ∧ k_ ≠ gb498 ∧ k_ ≠ gb499)) (okp := (fun k_ => ((P0_1_ k_ ∨ P2_1_ k_) ∨ w.heap.size ≤ k_) ∧ k_ ≠ gb497 ∧ k_ ≠ gb498 ∧ k_ ≠ gb499)) ?hr ?hp (fun _ hk => hk) ((show ∀ k_, w18.heap.size ≤ k_ → (fun k_ => ((P0_1_ k_ ∨ P2_1_ k_) ∨ w.heap.size ≤ k_) ∧ k_ ≠ gb497 ∧ k_ ≠ gb498 ∧ k_ ≠ gb499) k_ from fun k_ hk => ⟨(.inr (Nat.le_trans (below_size (y4 HB.out GE497.out GE498.out GE499.out)) hk)), Kd.freshB (g := gb497) (o := .cells #[.int .i64 a0_0, .slice A0_1 l0_1.length c0_1] 25 (0, 0)) (y0 BK497.out) k_ hk, Kd.freshB (g := gb498) (o := .cells #[.int .i64 a2_0, .slice A2_1 l2_1.length c2_1] 25 (0, 0)) (y0 BK498.out) k_ hk, Kd.freshB (g := gb499) (o := .cells #[.int .i64 0, .slice none 0 0] 25 (0, 0)) (y0 BK499.out) k_ hk⟩) _ (Nat.le_refl _)) (Below.refl _ _) (Nat.le_refl _) (by simp) ?_; (case hd => rfl); (case hg => rfl); (case hr => first | (go_simp; done) | (go_simp; rfl)); (case hp => exact (Reps.c2 (show Kd.FK k25 _ _ (⟨0, ([] : List (S25))⟩ : S25) [.int .i64 0, .slice none 0 0] from (k25_mkF _ _ (⟨0, ([] : List (S25))⟩ : S25) (Nat.le_refl _) (Kd.F_nil _ _ _))) (Reps.c2 (show Kd.FK k25 _ _ (⟨0, ([] : List (S25))⟩ : S25) [.int .i64 0, .slice none 0 0] from (k25_mkF _ _ (⟨0, ([] : List (S25))⟩ : S25) (Nat.le_refl _) (Kd.F_nil _ _ _))) (Reps.none _ _)))); intro v505 w19 ho20 hb hg_ hnew_; clear hg_ hnew_; (first | rw [← Ny504.out] at ho20 | (simp only [Int.reduceToNat] at ho20; rw [← Ny504.out] at ho20)); replace HO0_1 := Aside0.mk (Kd.V_elder' (y10 HO0_1.out) (Kd.N_base ho20) hb); replace HO2_1 := Aside0.mk (Kd.V_elder' (y10 HO2_1.out) (Kd.N_base ho20) hb); have HO506 := Aside0.mk (Kd.N_lower ho20 (below_size (y4 HB.out GE497.out GE498.out GE499.out))); replace BK497 := zbb BK497 hb; replace BK498 := zbb BK498 hb; replace BK499 := zbb BK499 hb; replace HB := Aside0.mk (below_step (y4 HB.out GE497.out GE498.out GE499.out) hb); clear hb ho20; have hnb21 := NB497_498.out; have hnc21 := NB498_497.out; have hnb22 := NB497_499.out; have hnc22 := NB499_497.out; have hcz23_0 := zh BK497; have hcz23_1 := zh1 BK497; have hfz23_0 := zfr BK497 0; have hfz23_1 := zfr BK497 1))
  go_loopg [21] k (fun kq v21 w' => ∃ (x7_1 : List (S25)) (x21_1 : Int) (x498000_1 : Int) (x498001_1 : List (S25)) (x499000_1 : Int) (x499001_1 : List (S25)) (x500000_1 : Int) (u498001 : Value) (u499001 : Value), v21 = .int .i64 x21_1 ∧ Aside0 (impl_valWith.l0 kq l1 x7_1 l0_1 (l0_1.length : Int) x21_1 x499000_1 x499001_1 = some (r1, r2)) ∧ Aside0 (kq ≤ k) ∧ Aside0 (Kd.N k25 25 w' w.heap.size (fun k_ => ((P0_1_ k_ ∨ P2_1_ k_) ∨ w.heap.size ≤ k_) ∧ k_ ≠ gb497 ∧ k_ ≠ gb498 ∧ k_ ≠ gb499) v505 x7_1) ∧ Aside0 (Kd.V k25 25 w' w.heap.size (fun k_ => ((P0_1_ k_ ∨ P2_1_ k_) ∨ w.heap.size ≤ k_) ∧ some k_ ≠ (v505 : Value).ownBlock ∧ k_ ≠ gb497 ∧ k_ ≠ gb498 ∧ k_ ≠ gb499) (.slice A0_1 l0_1.length c0_1) l0_1) ∧ Aside0 (Kd.V k25 25 w' w.heap.size (fun k_ => ((P0_1_ k_ ∨ P2_1_ k_) ∨ w.heap.size ≤ k_) ∧ some k_ ≠ (v505 : Value).ownBlock ∧ k_ ≠ gb497 ∧ k_ ≠ gb498 ∧ k_ ≠ gb499) u498001 x498001_1) ∧ Aside0 (Kd.V k25 25 w' w.heap.size (fun k_ => ((P0_1_ k_ ∨ P2_1_ k_) ∨ w.heap.size ≤ k_) ∧ some k_ ≠ (v505 : Value).ownBlock ∧ k_ ≠ gb497 ∧ k_ ≠ gb498 ∧ k_ ≠ gb499) u499001 x499001_1) ∧ Aside0 (w'.heap[gb497]? = some (.cells #[.int .i64 x498000_1, u498001] 25 (0, 0))) ∧ Aside0 (w'.heap[gb498]? = some (.cells #[.int .i64 x499000_1, u499001] 25 (0, 0))) ∧ Aside0 (w'.heap[gb499]? = some (.cells #[.int .i64 x500000_1, (.slice none 0 0)] 25 (0, 0))) ∧ Aside0 (Below w.heap.size w w'))
  case atStart => exact ⟨(y504), (0), (a0_0), (l0_1), (a2_0), (l2_1), (0), (.slice A0_1 l0_1.length c0_1), (.slice A2_1 l2_1.length c2_1), y34, H', ⟨Nat.le_refl _⟩, ⟨(y3 HO506.out)⟩, ⟨(y68 HO0_1.out)⟩, ⟨(y68 HO0_1.out)⟩, ⟨(y68 HO2_1.out)⟩, ⟨(y0 BK497.out)⟩, ⟨(y0 BK498.out)⟩, ⟨(y0 BK499.out)⟩, ⟨(y4 HB.out GE497.out GE498.out GE499.out)⟩⟩
  case round =>
   clear H'
   try clear c1
   try clear c2
   try clear p2
   try clear c4
   try clear c4b0
   try clear c4b1
   try clear c4b2
   try clear c9
   try clear c10
   try clear c13
   try clear c21
   try clear c22
   try clear hcz11_0
   try clear hcz11_1
   try clear hcz14_0
   try clear hcz14_1
   try clear hcz23_0
   try clear hcz23_1
   try clear hfz11_0
   try clear hfz11_1
   try clear hfz14_0
   try clear hfz14_1
   try clear hfz23_0
   try clear hfz23_1
   (try clear BK497); (try clear BK498); (try clear BK499)
   obtain ⟨x7_1, x21_1, x498000_1, x498001_1, x499000_1, x499001_1, x500000_1, u498001, u499001, rfl, HA, HK1, HO_7, HO_19, HO_498001, HO_499001, BK497, BK498, BK499, HB⟩ := hrel
   cases gk with
   | zero => exact absurd HA.out (by simp [impl_valWith.l0])
   | succ k1 =>
    have H := HA.out
    clear HA
    simp only [impl_valWith.l0] at H
    by_cases c24 : x21_1 < (l0_1.length : Int)
    ·rw [if_pos c24] at H
     have c24b0 : decide (x21_1 < (l0_1.length : Int)) = true := decide_eq_true c24
     clear c24
     by_cases c25 : 0 ≤ x21_1
     ·rw [if_pos c25] at H
      have c25b0 : decide (0 ≤ x21_1) = true := decide_eq_true c25
      clear c25
      by_cases c26 : x21_1 < (l0_1.length : Int)
      ·rw [if_pos c26] at H
       have c26b0 : decide (x21_1 < (l0_1.length : Int)) = true := decide_eq_true c26
       clear c26
       by_cases c27 : 0 < (l1.length : Int)
       ·rw [if_pos c27] at H
        have c27b0 : decide (0 < (l1.length : Int)) = true := decide_eq_true c27
        have c27b1 : decide (0 < l1.length) = true := decide_eq_true (by omega)
        clear c27
        by_cases c28 : x21_1 = (rd l1 0)
        ·rw [if_pos c28] at H
         have c28b0 : (x21_1 == (rd l1 0)) = true := beq_iff_eq.mpr c28
         have c28b1 : (x21_1 != (rd l1 0)) = false := bne_eq_false_iff_eq.mpr c28
         clear c28
         by_cases c29 : 1 ≤ (l1.length : Int)
         ·rw [if_pos c29] at H
          have c29b0 := eq_true c29
          have c29b1 : decide (1 ≤ (l1.length : Int)) = true := decide_eq_true c29
          clear c29
          obtain ⟨⟨t511, t512⟩, A300, H⟩ := ob H
          have A30 := Aside0.mk A300
          clear A300
          by_cases c31 : x21_1 < (x7_1.length : Int)
          ·rw [if_pos c31] at H
           have c31b0 : decide (x21_1 < (x7_1.length : Int)) = true := decide_eq_true c31
           clear c31
           obtain ⟨y515, hy515⟩ : ∃ y_ : List (S25), y_ = (x7_1.set (x21_1 : Int).toNat (⟨t511, t512⟩ : S25)) := ⟨_, rfl⟩
           replace H : (impl_valWith.l0 k1 l1 y515 l0_1 (l0_1.length : Int) (wrap64 (x21_1 + 1)) x499000_1 x499001_1) = some (r1, r2) := by first | (rw [hy515]; with_reducible exact H) | (have H2_ := (Option.bind_some _ _).symm.trans H; rw [hy515]; with_reducible exact H2_) | (have H2_ := (Option.bind_some _ _).symm.trans H; with_reducible exact H2_) | with_reducible exact H | (rw [hy515]; exact H) | exact H
           have Ny515 := Aside0.mk hy515
           clear hy515
           have H' := Aside0.mk H
           clear H
           have p507 : 0 ≤ (x21_1 : Int) := of_decide_eq_true y23
           have q507 : x21_1 < (l0_1.length : Int) := of_decide_eq_true y23
           obtain ⟨ad507, A507_1, c507_1, e507, hx507_0, hx507_1, hl507_1, hi507_1⟩ := at_T25 (Kd.V_reads' HO_19.out).2.2 x21_1 p507 q507
           cases e507
           obtain ⟨ce507, hce507, hMe507, hcc507⟩ := Kd.V_get HO_19.out z25 x21_1 p507 (by first | exact q507 | exact of_decide_eq_true y23 | (have e_ := (Kd.V_reads' HO_19.out).1; omega))
           obtain ⟨ua507_1, uc507_1, rfl, ul507_1, ge507_1⟩ := k25_openF hMe507
           have hv507_1 := hcc507 1 _ rfl
           rw [add_field _ _ 1 (by omega)] at hv507_1
           replace hv507_1 := Option.some.inj (hv507_1.symm.trans hx507_1)
           injection hv507_1 with hva_ hvn_ hvc_
           rw [hva_] at ge507_1
           rw [hvc_] at ul507_1
           have HL507_1 := Aside0.mk (show Kd.V k25 25 _ w.heap.size _ _ ((rd_T25 l0_1 x21_1).f1) from Kd.V_mk ul507_1 ge507_1)
           clear hva_ hvn_ hvc_ ge507_1 ul507_1
           clear hcc507 hce507
           have HR507_1 := Aside0.mk hi507_1
           have HC507_1 := Aside0.mk hl507_1
           clear hi507_1 hl507_1
           replace p507 := eq_true p507
           replace q507 := eq_true q507
           try go_wp2_with (first | ((with_reducible refine gate_dst (N := 9) rfl ?_); refine zbx 9 #[.int .i64 0, .slice none 0 0] 25 ?_; intro gb508 hg w33 hbox hb; replace HO_7 := Aside0.mk (Kd.N_below (Kd.N_elderB (y3 HO_7.out) gb508 (Nat.le_of_eq hg.symm)) hb); replace HO_19 := Aside0.mk (Kd.V_below (Kd.V_elderB (y10 HO_19.out) gb508 (Nat.le_of_eq hg.symm)) hb); replace HO_498001 := Aside0.mk (Kd.V_below (Kd.V_elderB (y10 HO_498001.out) gb508 (Nat.le_of_eq hg.symm)) hb); replace HO_499001 := Aside0.mk (Kd.V_below (Kd.V_elderB (y10 HO_499001.out) gb508 (Nat.le_of_eq hg.symm)) hb); replace HL507_1 := Aside0.mk (Kd.V_below (Kd.V_elderB (y10 HL507_1.out) gb508 (Nat.le_of_eq hg.symm)) hb); replace HR507_1 := Aside0.mk (Kd.C_below (y85 HR507_1.out) hb); have BK508 := Aside0.mk hbox; have GW508 := Aside0.mk ((y22 hg HB.out GE497.out GE498.out GE499.out : w.heap.size ≤ gb508)); have GE508 := Aside0.mk ((y22 hg HB.out GE497.out GE498.out GE499.out : w.heap.size ≤ gb508)); replace HB := Aside0.mk (below_step (y4 HB.out GE497.out GE498.out GE499.out) hb); have NB497_508 := zltn hg BK497; have NB508_497 := zgtn hg BK497; replace BK497 := zbb BK497 hb; have NB498_508 := zltn hg BK498; have NB508_498 := zgtn hg BK498; replace BK498 := zbb BK498 hb; have NB499_508 := zltn hg BK499; have NB508_499 := zgtn hg BK499; replace BK499 := zbb BK499 hb; clear hb hbox hg; have hnb34 := NB508_497.out; have hnc34 := NB497_508.out; have hnb35 := NB508_498.out; have hnc35 := NB498_508.out; have hnb36 := NB508_499.out; have hnc36 := NB499_508.out; have hcz37_0 := zh BK508; have hcz37_1 := zh1 BK508; have hfz37_0 := zfr BK508 0; have hfz37_1 := zfr BK508 1; have p509 : 0 ≤ (0 : Int) := (by omega); have q509 : 0 < (l1.length : Int) := of_decide_eq_true y23; obtain ⟨ad509, e509, hx509_0⟩ := Kd.at_int HR1.out 0 p509 q509; cases e509; have qi509 : (0 < l1.length) = True := eq_true (by omega); (try rw [show ((0 : Int)).toNat = 0 from rfl] at hx509_0); (try rw [Addr.add_zero'] at hx509_0); have hn509_0 : ad509.block ≠ gb508 := Nat.ne_of_lt (Nat.lt_of_lt_of_le (by have := World.block_lt_of_cell? _ _ hx509_0; first | rwa [add_block] at this | exact this) GW508.out); have hn509_1 : ad509.block ≠ gb508 := Nat.ne_of_lt (Nat.lt_of_lt_of_le (by have := World.block_lt_of_cell? _ _ hx509_0; first | rwa [add_block] at this | exact this) GW508.out); replace hx509_0 := (HB.out.cell (World.block_lt_of_cell? w _ hx509_0)).trans hx509_0; replace hx509_0 := (cell_far (p := ⟨gb508, 0, none⟩) (by first | (rw [add_block]; exact hn509_0) | (show (Addr.add _ _).block ≠ _; rw [add_block]; exact hn509_0) | exact hn509_0) (.int .i64 ((rd_T25 l0_1 x21_1).f0))).trans hx509_0; replace hx509_0 := (cell_far (p := ⟨gb508, 1, none⟩) (by first | (rw [add_block]; exact hn509_1) | (show (Addr.add _ _).block ≠ _; rw [add_block]; exact hn509_1) | exact hn509_1) (.slice A507_1 ((rd_T25 l0_1 x21_1).f1).length c507_1)).trans hx509_0; clear hn509_0; clear hn509_1; replace p509 := eq_true p509; replace q509 := eq_true q509))
           have n0_ : Aside0 (Kd.N k25 25 ((w33.setCell ⟨gb508, 0, none⟩ (.int .i64 ((rd_T25 l0_1 x21_1).f0))).setCell ⟨gb508, 1, none⟩ (.slice A507_1 ((rd_T25 l0_1 x21_1).f1).length c507_1)) w.heap.size (fun k_ => ((P0_1_ k_ ∨ P2_1_ k_) ∨ w.heap.size ≤ k_) ∧ k_ ≠ gb497 ∧ k_ ≠ gb498 ∧ k_ ≠ gb499 ∧ k_ ≠ gb508) v505 x7_1) := ⟨(by (with_reducible repeat (first | apply Kd.N_alloc | apply Kd.N_drewN | apply Kd.N_drew)); exact Kd.N_mono (Kd.N_far (p := ⟨gb508, 1, none⟩) (Kd.N_far (p := ⟨gb508, 0, none⟩) (Kd.N_mono HO_7.out (fun k_ hk => (⟨hk, hk.2⟩ : _ ∧ k_ ≠ gb508))) (fun _ hk => hk.2) (.int .i64 ((rd_T25 l0_1 x21_1).f0))) (fun _ hk => hk.2) (.slice A507_1 ((rd_T25 l0_1 x21_1).f1).length c507_1)) (fun _ hk => ⟨hk.1.1.1, ⟨hk.1.1.2.1, ⟨hk.1.1.2.2.1, ⟨hk.1.1.2.2.2, hk.1.2⟩⟩⟩⟩))⟩
           have n1_ : Aside0 (Kd.V k25 25 ((w33.setCell ⟨gb508, 0, none⟩ (.int .i64 ((rd_T25 l0_1 x21_1).f0))).setCell ⟨gb508, 1, none⟩ (.slice A507_1 ((rd_T25 l0_1 x21_1).f1).length c507_1)) w.heap.size (fun k_ => ((P0_1_ k_ ∨ P2_1_ k_) ∨ w.heap.size ≤ k_) ∧ some k_ ≠ (v505 : Value).ownBlock ∧ k_ ≠ gb497 ∧ k_ ≠ gb498 ∧ k_ ≠ gb499 ∧ k_ ≠ gb508) (.slice (some ad507) l0_1.length c0_1) l0_1) := ⟨(by (with_reducible repeat (first | apply Kd.V_alloc | apply Kd.V_drewN | apply Kd.V_drew)); exact Kd.V_mono (Kd.V_far (p := ⟨gb508, 1, none⟩) (Kd.V_far (p := ⟨gb508, 0, none⟩) (Kd.V_mono HO_19.out (fun k_ hk => (⟨hk, hk.2⟩ : _ ∧ k_ ≠ gb508))) (fun _ hk => hk.2) (.int .i64 ((rd_T25 l0_1 x21_1).f0))) (fun _ hk => hk.2) (.slice A507_1 ((rd_T25 l0_1 x21_1).f1).length c507_1)) (fun _ hk => ⟨hk.1.1.1, ⟨hk.1.1.2.1, ⟨hk.1.1.2.2.1, ⟨hk.1.1.2.2.2.1, ⟨hk.1.1.2.2.2.2, hk.1.2⟩⟩⟩⟩⟩))⟩
           have n2_ : Aside0 (Kd.V k25 25 ((w33.setCell ⟨gb508, 0, none⟩ (.int .i64 ((rd_T25 l0_1 x21_1).f0))).setCell ⟨gb508, 1, none⟩ (.slice A507_1 ((rd_T25 l0_1 x21_1).f1).length c507_1)) w.heap.size (fun k_ => ((P0_1_ k_ ∨ P2_1_ k_) ∨ w.heap.size ≤ k_) ∧ some k_ ≠ (v505 : Value).ownBlock ∧ k_ ≠ gb497 ∧ k_ ≠ gb498 ∧ k_ ≠ gb499 ∧ k_ ≠ gb508) u498001 x498001_1) := ⟨(by (with_reducible repeat (first | apply Kd.V_alloc | apply Kd.V_drewN | apply Kd.V_drew)); exact Kd.V_mono (Kd.V_far (p := ⟨gb508, 1, none⟩) (Kd.V_far (p := ⟨gb508, 0, none⟩) (Kd.V_mono HO_498001.out (fun k_ hk => (⟨hk, hk.2⟩ : _ ∧ k_ ≠ gb508))) (fun _ hk => hk.2) (.int .i64 ((rd_T25 l0_1 x21_1).f0))) (fun _ hk => hk.2) (.slice A507_1 ((rd_T25 l0_1 x21_1).f1).length c507_1)) (fun _ hk => ⟨hk.1.1.1, ⟨hk.1.1.2.1, ⟨hk.1.1.2.2.1, ⟨hk.1.1.2.2.2.1, ⟨hk.1.1.2.2.2.2, hk.1.2⟩⟩⟩⟩⟩))⟩
           have n3_ : Aside0 (Kd.V k25 25 ((w33.setCell ⟨gb508, 0, none⟩ (.int .i64 ((rd_T25 l0_1 x21_1).f0))).setCell ⟨gb508, 1, none⟩ (.slice A507_1 ((rd_T25 l0_1 x21_1).f1).length c507_1)) w.heap.size (fun k_ => ((P0_1_ k_ ∨ P2_1_ k_) ∨ w.heap.size ≤ k_) ∧ some k_ ≠ (v505 : Value).ownBlock ∧ k_ ≠ gb497 ∧ k_ ≠ gb498 ∧ k_ ≠ gb499 ∧ k_ ≠ gb508) u499001 x499001_1) := ⟨(by (with_reducible repeat (first | apply Kd.V_alloc | apply Kd.V_drewN | apply Kd.V_drew)); exact Kd.V_mono (Kd.V_far (p := ⟨gb508, 1, none⟩) (Kd.V_far (p := ⟨gb508, 0, none⟩) (Kd.V_mono HO_499001.out (fun k_ hk => (⟨hk, hk.2⟩ : _ ∧ k_ ≠ gb508))) (fun _ hk => hk.2) (.int .i64 ((rd_T25 l0_1 x21_1).f0))) (fun _ hk => hk.2) (.slice A507_1 ((rd_T25 l0_1 x21_1).f1).length c507_1)) (fun _ hk => ⟨hk.1.1.1, ⟨hk.1.1.2.1, ⟨hk.1.1.2.2.1, ⟨hk.1.1.2.2.2.1, ⟨hk.1.1.2.2.2.2, hk.1.2⟩⟩⟩⟩⟩))⟩
           have n4_ : Aside0 (Kd.V k25 25 ((w33.setCell ⟨gb508, 0, none⟩ (.int .i64 ((rd_T25 l0_1 x21_1).f0))).setCell ⟨gb508, 1, none⟩ (.slice A507_1 ((rd_T25 l0_1 x21_1).f1).length c507_1)) w.heap.size (fun k_ => ((P0_1_ k_ ∨ P2_1_ k_) ∨ w.heap.size ≤ k_) ∧ some k_ ≠ (v505 : Value).ownBlock ∧ k_ ≠ gb497 ∧ k_ ≠ gb498 ∧ k_ ≠ gb499 ∧ k_ ≠ gb508) (.slice A507_1 ((rd_T25 l0_1 x21_1).f1).length c507_1) ((rd_T25 l0_1 x21_1).f1)) := ⟨(by (with_reducible repeat (first | apply Kd.V_alloc | apply Kd.V_drewN | apply Kd.V_drew)); exact Kd.V_mono (Kd.V_far (p := ⟨gb508, 1, none⟩) (Kd.V_far (p := ⟨gb508, 0, none⟩) (Kd.V_mono HL507_1.out (fun k_ hk => (⟨hk, hk.2⟩ : _ ∧ k_ ≠ gb508))) (fun _ hk => hk.2) (.int .i64 ((rd_T25 l0_1 x21_1).f0))) (fun _ hk => hk.2) (.slice A507_1 ((rd_T25 l0_1 x21_1).f1).length c507_1)) (fun _ hk => ⟨hk.1.1.1, ⟨hk.1.1.2.1, ⟨hk.1.1.2.2.1, ⟨hk.1.1.2.2.2.1, ⟨hk.1.1.2.2.2.2, hk.1.2⟩⟩⟩⟩⟩))⟩
           have n5_ : Aside0 (((w33.setCell ⟨gb508, 0, none⟩ (.int .i64 ((rd_T25 l0_1 x21_1).f0))).setCell ⟨gb508, 1, none⟩ (.slice A507_1 ((rd_T25 l0_1 x21_1).f1).length c507_1)).heap[gb497]? = some (.cells #[.int .i64 x498000_1, u498001] 25 (0, 0))) := ⟨(y1 NB497_508.out BK497.out)⟩
           have n6_ : Aside0 (((w33.setCell ⟨gb508, 0, none⟩ (.int .i64 ((rd_T25 l0_1 x21_1).f0))).setCell ⟨gb508, 1, none⟩ (.slice A507_1 ((rd_T25 l0_1 x21_1).f1).length c507_1)).heap[gb498]? = some (.cells #[.int .i64 x499000_1, u499001] 25 (0, 0))) := ⟨(y1 NB498_508.out BK498.out)⟩
           have n7_ : Aside0 (((w33.setCell ⟨gb508, 0, none⟩ (.int .i64 ((rd_T25 l0_1 x21_1).f0))).setCell ⟨gb508, 1, none⟩ (.slice A507_1 ((rd_T25 l0_1 x21_1).f1).length c507_1)).heap[gb499]? = some (.cells #[.int .i64 x500000_1, .slice none 0 0] 25 (0, 0))) := ⟨(y1 NB499_508.out BK499.out)⟩
           have n8_ : Aside0 (((w33.setCell ⟨gb508, 0, none⟩ (.int .i64 ((rd_T25 l0_1 x21_1).f0))).setCell ⟨gb508, 1, none⟩ (.slice A507_1 ((rd_T25 l0_1 x21_1).f1).length c507_1)).heap[gb508]? = some (.cells #[.int .i64 ((rd_T25 l0_1 x21_1).f0), .slice A507_1 ((rd_T25 l0_1 x21_1).f1).length c507_1] 25 (0, 0))) := ⟨(by (with_reducible repeat (first | refine blk_drewN ?_ _ | refine blk_drew ?_ | refine blk_alloc ?_ _)); refine blk_put (cs := #[.int .i64 ((rd_T25 l0_1 x21_1).f0), .slice none 0 0]) ?_ 1 _ rfl; (with_reducible repeat (first | refine blk_drewN ?_ _ | refine blk_drew ?_ | refine blk_alloc ?_ _)); refine blk_put (cs := #[.int .i64 0, .slice none 0 0]) ?_ 0 _ rfl; (with_reducible repeat (first | refine blk_drewN ?_ _ | refine blk_drew ?_ | refine blk_alloc ?_ _)); exact BK508.out)⟩
           have n9_ : Aside0 (Below w.heap.size w ((w33.setCell ⟨gb508, 0, none⟩ (.int .i64 ((rd_T25 l0_1 x21_1).f0))).setCell ⟨gb508, 1, none⟩ (.slice A507_1 ((rd_T25 l0_1 x21_1).f1).length c507_1))) := ⟨(y7 HB.out GE497.out GE498.out GE499.out GE508.out)⟩
           (try clear HO_7)
           (try clear HO_19)
           (try clear HO_498001)
           (try clear HO_499001)
           (try clear HL507_1)
           (try clear BK497)
           (try clear BK498)
           (try clear BK499)
           (try clear BK508)
           (try clear HB)
           generalize ((w33.setCell ⟨gb508, 0, none⟩ (.int .i64 ((rd_T25 l0_1 x21_1).f0))).setCell ⟨gb508, 1, none⟩ (.slice A507_1 ((rd_T25 l0_1 x21_1).f1).length c507_1)) = w38 at n0_ n1_ n2_ n3_ n4_ n5_ n6_ n7_ n8_ n9_ ⊢
           have HO_7 := n0_
           have HO_19 := n1_
           have HO_498001 := n2_
           have HO_499001 := n3_
           have HL507_1 := n4_
           have BK497 := n5_
           have BK498 := n6_
           have BK499 := n7_
           have BK508 := n8_
           have HB := n9_
           clear n0_ n1_ n2_ n3_ n4_ n5_ n6_ n7_ n8_ n9_
           replace HO_7 := Aside0.mk (Kd.N_drew HO_7.out)
           replace HO_19 := Aside0.mk (Kd.V_drew HO_19.out)
           replace HO_498001 := Aside0.mk (Kd.V_drew HO_498001.out)
           replace HO_499001 := Aside0.mk (Kd.V_drew HO_499001.out)
           replace HL507_1 := Aside0.mk (Kd.V_drew HL507_1.out)
           replace BK497 := Aside0.mk (blk_drew BK497.out)
           replace BK498 := Aside0.mk (blk_drew BK498.out)
           replace BK499 := Aside0.mk (blk_drew BK499.out)
           replace BK508 := Aside0.mk (blk_drew BK508.out)
           replace HB := Aside0.mk (below_drew1 HB.out)
           obtain ⟨i040, hi040, _, hsz40, _⟩ := info_parts info3
           obtain ⟨A40, hcut40, hA40, hC40⟩ := print_drop_of (P := Try.prog) (Value.int .i64) 0 26 3 .i64 Try.underlying26 hi040 hsz40 (some ad509) c1 l1 1 (by omega) (of_decide_eq_true y23) HC1.out
           have HR510 := Aside0.mk (Kd.C_of_reads (h1 := fun _ => rfl) (hA40 _ (Kd.reads_of_C HR1.out)))
           have HC510 := Aside0.mk hC40
           clear hA40 hC40 hi040 hsz40
           obtain ⟨Ao41, co41, eo41⟩ := Kd.V_slice HO_499001.out
           (first | subst eo41 | (injection eo41 with f1_ f2_ f3_; have f4_ := f1_.symm; have f5_ := f3_.symm; clear f1_ f2_ f3_; subst f4_; subst f5_))
           refine start_ (n := 9) (S := fun w' => w'.cell? ⟨gb508, 0, none⟩ = some (.int .i64 ((rd_T25 l0_1 x21_1).f0)) ∧ w'.cell? ⟨gb508, 1, none⟩ = some (.slice A507_1 ((rd_T25 l0_1 x21_1).f1).length c507_1) ∧ w'.cell? ⟨gb498, 0, none⟩ = some (.int .i64 x499000_1) ∧ w'.cell? ⟨gb498, 1, none⟩ = some (.slice Ao41 x499001_1.length co41)) (ds := [8]) #[false, false, false, false, false, false, false, false, false] (by kernel_rfl) rfl rfl ⟨(blk_cell BK508.out 0).trans rfl, (blk_cell BK508.out 1).trans rfl, (blk_cell BK498.out 0).trans rfl, (blk_cell BK498.out 1).trans rfl⟩ (fun hHeld => ?_); refine with_tabW impl_valWith.tab8 impl_valWith.bits8 (fun HT_ HW_ => ?_)
           generalize w38.drew = w39 at HO_7 HO_19 HO_498001 HO_499001 HL507_1 BK497 BK498 BK499 BK508 HB HR510 hHeld ⊢
           refine zp 0 (some 31) HT_ ?_
           refine zp 1 (some 32) HT_ ?_
           refine zp 3 (some 34) HT_ ?_
           refine zp 4 (some 35) HT_ ?_
           refine zt4 2 (some 33) HT_ HW_ hHeld ?_
           refine zt4 5 (some 36) HT_ HW_ hHeld ?_
           refine one_ (i := 6) (N := some 37) #[true, true, true, true, true, true, true, false, false] rfl rfl (one_of HT_.out (by kernel_rfl)) (by decide) (fun K hK => ?_)
           refine goes_ Try.func47 (by kernel_rfl) rfl #[.agg #[.int .i64 ((rd_T25 l0_1 x21_1).f0), .slice A507_1 ((rd_T25 l0_1 x21_1).f1).length c507_1], .slice A40 (l1.drop 1).length (c1 - 1), .agg #[.int .i64 x499000_1, .slice Ao41 x499001_1.length co41]] (by rfl) rfl rfl (by (try simp only [List.map_toArray, List.map_cons, List.map_nil]); first | done | (rw [show (l1.drop 1).length = (l1.length - 1) from List.length_drop] <;> rfl) | rfl | (simp only [List.length_drop, List.length_take]; rfl)) ?_
           with_reducible refine (ih k1 (y57 HK1.out) ((rd_T25 l0_1 x21_1).f0) (fun k_ => (((P0_1_ k_ ∨ P2_1_ k_) ∨ w.heap.size ≤ k_) ∧ (some k_ ≠ (v505 : Value).ownBlock ∧ (k_ ≠ gb497 ∧ (k_ ≠ gb498 ∧ (k_ ≠ gb499 ∧ k_ ≠ gb508)))))) _ _ ((rd_T25 l0_1 x21_1).f1) _ _ (l1.drop 1) x499000_1 (fun k_ => (((P0_1_ k_ ∨ P2_1_ k_) ∨ w.heap.size ≤ k_) ∧ (some k_ ≠ (v505 : Value).ownBlock ∧ (k_ ≠ gb497 ∧ (k_ ≠ gb498 ∧ (k_ ≠ gb499 ∧ k_ ≠ gb508)))))) _ _ x499001_1 t511 t512 _ ?side1 ?side2 ?side3 ?side4 A30.out).mono ?_
           (case side1 => exact HL507_1.out)
           (case side2 => exact y15 HR510.out HB.out)
           (case side3 => exact HC510.out)
           (case side4 => exact HO_499001.out)
           rintro e w42 ⟨v513, rfl, ho0, hb⟩
           refine ⟨_, rfl, ?_⟩
           replace HO_19 := Aside0.mk (Kd.V_elder' (y10 HO_19.out) (Kd.N_base ho0) hb)
           replace HO_498001 := Aside0.mk (Kd.V_elder' (y10 HO_498001.out) (Kd.N_base ho0) hb)
           replace HO_499001 := Aside0.mk (Kd.V_elder' (y10 HO_499001.out) (Kd.N_base ho0) hb)
           replace HL507_1 := Aside0.mk (Kd.V_elder' (y10 HL507_1.out) (Kd.N_base ho0) hb)
           have HO514 := Aside0.mk (Kd.N_lower (Kd.N_mono (ok' := fun k_ => ((P0_1_ k_ ∨ P2_1_ k_) ∨ w.heap.size ≤ k_) ∧ some k_ ≠ (v505 : Value).ownBlock ∧ k_ ≠ gb497 ∧ k_ ≠ gb498 ∧ k_ ≠ gb499 ∧ k_ ≠ gb508) ho0 (fun k_ hk_ => ⟨Or.elim hk_ (fun hs_ => Or.elim hs_ (fun hs_ => hs_.1) (fun hs_ => hs_.1)) (fun hn_ => (.inr (Nat.le_trans (below_size (y7 HB.out GE497.out GE498.out GE499.out GE508.out)) hn_))), Or.elim hk_ (fun hs_ => Or.elim hs_ (fun hs_ => hs_.2.1) (fun hs_ => hs_.2.1)) (fun hn_ => (Kd.fresh' (Kd.N_lt (y3 HO_7.out)) k_ hn_)), Or.elim hk_ (fun hs_ => Or.elim hs_ (fun hs_ => hs_.2.2.1) (fun hs_ => hs_.2.2.1)) (fun hn_ => (Kd.freshB (g := gb497) (o := .cells #[.int .i64 x498000_1, u498001] 25 (0, 0)) (y0 BK497.out) k_ hn_)), Or.elim hk_ (fun hs_ => Or.elim hs_ (fun hs_ => hs_.2.2.2.1) (fun hs_ => hs_.2.2.2.1)) (fun hn_ => (Kd.freshB (g := gb498) (o := .cells #[.int .i64 x499000_1, .slice Ao41 x499001_1.length co41] 25 (0, 0)) (y0 BK498.out) k_ hn_)), Or.elim hk_ (fun hs_ => Or.elim hs_ (fun hs_ => hs_.2.2.2.2.1) (fun hs_ => hs_.2.2.2.2.1)) (fun hn_ => (Kd.freshB (g := gb499) (o := .cells #[.int .i64 x500000_1, .slice none 0 0] 25 (0, 0)) (y0 BK499.out) k_ hn_)), Or.elim hk_ (fun hs_ => Or.elim hs_ (fun hs_ => hs_.2.2.2.2.2) (fun hs_ => hs_.2.2.2.2.2)) (fun hn_ => (Kd.freshB (g := gb508) (o := .cells #[.int .i64 ((rd_T25 l0_1 x21_1).f0), .slice A507_1 ((rd_T25 l0_1 x21_1).f1).length c507_1] 25 (0, 0)) (y0 BK508.out) k_ hn_))⟩)) (below_size (y7 HB.out GE497.out GE498.out GE499.out GE508.out)))
           replace HO_7 := Aside0.mk (Kd.N_elder' (y3 HO_7.out) (Kd.N_base ho0) hb)
           replace BK497 := zbb BK497 hb
           replace BK498 := zbb BK498 hb
           replace BK499 := zbb BK499 hb
           replace BK508 := zbb BK508 hb
           replace HB := Aside0.mk (below_step (y7 HB.out GE497.out GE498.out GE499.out GE508.out) hb)
           (try clear hb)
           (try clear hb2)
           (try clear hk)
           (try clear hi)
           (try clear ho0)
           have p32 : 0 ≤ (x21_1 : Int) := of_decide_eq_true y23
           have q32 : (x21_1 : Int) < ((x7_1.length : Int) : Int) := of_decide_eq_true y23
           obtain ⟨go32, co32, eo32, gb32, gl32, cl32, HG32⟩ := Kd.N_form HO_7.out (by omega)
           (first | cases eo32 | (injection eo32 with ea_ en_ ec_; (first | subst ea_ | (injection ea_ with ea_; subst ea_)); subst ec_; clear en_))
           have GB32 := Aside0.mk gb32
           have GG32 := Aside0.mk HG32
           clear gb32 gl32 HG32
           obtain ⟨ce32, hcl32, hM32, hcc32, hfr32⟩ := Kd.N_elem HO_7.out z25 (x21_1 : Int) p32 q32
           obtain ⟨ua32_1, uc32_1, rfl, ul32_1, ge32_1⟩ := k25_openF hM32
           have hx32_0 : World.cell? _ ⟨go32, (x21_1 : Int).toNat * 2, none⟩ = some (.int .i64 ((rd_T25 x7_1 x21_1).f0)) := hcc32 0 _ rfl
           have hx32_1 : World.cell? _ ⟨go32, (x21_1 : Int).toNat * 2 + 1, none⟩ = some (.slice ua32_1 ((rd_T25 x7_1 x21_1).f1).length uc32_1) := hcc32 1 _ rfl
           have hf32_0 : World.frozen? _ ⟨go32, (x21_1 : Int).toNat * 2, none⟩ = false := hfr32 0
           have hf32_1 : World.frozen? _ ⟨go32, (x21_1 : Int).toNat * 2 + 1, none⟩ = false := hfr32 1
           clear hcl32 hcc32 hfr32 hM32
           replace p32 := eq_true p32
           replace q32 := eq_true q32
           obtain ⟨Ao43, co43, eo43⟩ := Kd.N_slice HO514.out
           (first | subst eo43 | (injection eo43 with f1_ f2_ f3_; have f4_ := f1_.symm; have f5_ := f3_.symm; clear f1_ f2_ f3_; subst f4_; subst f5_))
           have HX44 := Aside0.mk (show Kd.N k25 25 _ w.heap.size (fun k_ => ((P0_1_ k_ ∨ P2_1_ k_) ∨ w.heap.size ≤ k_) ∧ some k_ ≠ (.slice Ao43 t512.length co43 : Value).ownBlock ∧ k_ ≠ gb497 ∧ k_ ≠ gb498 ∧ k_ ≠ gb499 ∧ k_ ≠ gb508) (.slice (some ⟨go32, 0, none⟩) x7_1.length co32) x7_1 from (Kd.N_mono (HO_7.out) (fun k_ hk => ⟨hk.1.1, ⟨hk.2, ⟨hk.1.2.1, ⟨hk.1.2.2.1, ⟨hk.1.2.2.2.1, hk.1.2.2.2.2⟩⟩⟩⟩⟩)))
           replace HX44 := Aside0.mk (show Kd.N k25 25 _ w.heap.size (fun k_ => ((P0_1_ k_ ∨ P2_1_ k_) ∨ w.heap.size ≤ k_) ∧ k_ ≠ gb497 ∧ k_ ≠ gb498 ∧ k_ ≠ gb499 ∧ k_ ≠ gb508) (.slice (some ⟨go32, 0, none⟩) x7_1.length co32) x7_1 from Kd.N_mono HX44.out (fun k_ hk => ⟨hk.1, ⟨hk.2.2.1, ⟨hk.2.2.2.1, ⟨hk.2.2.2.2.1, hk.2.2.2.2.2⟩⟩⟩⟩))
           obtain ⟨ce44, hcl44, hM44, hcc44, hfr44⟩ := Kd.N_elem HX44.out z25 (x21_1 : Int) (of_decide_eq_true y23) (by have h_ : (x21_1 : Int) < ((x7_1.length : Int) : Int) := of_decide_eq_true y23; first | exact h_ | (have e_ := (Kd.N_reads' HO_7.out).1; omega) | simpa using h_)
           obtain ⟨ua44_1, uc44_1, rfl, ul44_1, ge44_1⟩ := k25_openF hM44
           have HP44 := (Kd.N_seg HX44.out (x21_1 : Int) (of_decide_eq_true y23) (by have h_ : (x21_1 : Int) < ((x7_1.length : Int) : Int) := of_decide_eq_true y23; first | exact h_ | (have e_ := (Kd.N_reads' HO_7.out).1; omega) | simpa using h_) (seg := [.int .i64 t511, .slice Ao43 t512.length co43]) (j := 0) hcl44 hcc44 (show 2 ≤ 2 from by decide) (x' := (⟨t511, t512⟩ : S25)) (k25_mkF _ _ (⟨t511, t512⟩ : S25) (Kd.N_reads' (Kd.N_mono (ok' := (fun k_ => ((fun k_ => ((P0_1_ k_ ∨ P2_1_ k_) ∨ w.heap.size ≤ k_) ∧ k_ ≠ gb497 ∧ k_ ≠ gb498 ∧ k_ ≠ gb499 ∧ k_ ≠ gb508)) k_ ∧ k_ ≠ go32)) (HO514.out) (fun k_ hk => ⟨⟨hk.1, ⟨hk.2.2.1, ⟨hk.2.2.2.1, ⟨hk.2.2.2.2.1, hk.2.2.2.2.2⟩⟩⟩⟩, fun e_ => (hk.2.1) (by rw [e_]; rfl)⟩))).2.1 (Kd.N_F (Kd.N_mono (ok' := (fun k_ => ((fun k_ => ((P0_1_ k_ ∨ P2_1_ k_) ∨ w.heap.size ≤ k_) ∧ k_ ≠ gb497 ∧ k_ ≠ gb498 ∧ k_ ≠ gb499 ∧ k_ ≠ gb508)) k_ ∧ k_ ≠ go32)) (HO514.out) (fun k_ hk => ⟨⟨hk.1, ⟨hk.2.2.1, ⟨hk.2.2.2.1, ⟨hk.2.2.2.2.1, hk.2.2.2.2.2⟩⟩⟩⟩, fun e_ => (hk.2.1) (by rw [e_]; rfl)⟩)))) (fun _ hk => hk)).1
           rw [← Ny515.out] at HP44
           have HQ44 := Aside0.mk HP44
           clear hcl44 hcc44 hfr44 hM44 HP44
           refine hK.out _ _ ⟨(blk_cell BK508.out 0).trans rfl, (blk_cell BK508.out 1).trans rfl, (blk_cell BK498.out 0).trans rfl, (blk_cell BK498.out 1).trans rfl⟩ (fun hHeld => ?_)
           clear hK K
           refine norm_ (a' := ?_) ?_ ?_
           rotate_left
           ·show Act.put _ (some 37) _ = _
            simp only [Act.put, List.setIfInBounds_toArray, List.set_cons_zero, List.set_cons_succ, i64_w, i32_w]
            rfl
           refine zp 7 (some 38) HT_ ?_
           refine last_ (i := 8) (N := none) #[true, true, true, true, true, true, true, true, true] rfl rfl (one_of HT_.out (by kernel_rfl)) (by decide) (fun K hK => ?_)
           refine skip_ (w1 := ?_) (by rfl) rfl ?_ ?_
           rotate_left
           ·go_simp
            rfl
           refine hK.out _ _ ?_
           clear hK K
           refine done_ (done_of HT_.out (by kernel_rfl)) ?_
           try go_wp2
           go_roundg k1
           case measure => have := HK1.out; omega
           case rel => exact ⟨(y515), (wrap64 (x21_1 + 1)), (x498000_1), (x498001_1), (x499000_1), (x499001_1), (x500000_1), (u498001), (.slice Ao41 x499001_1.length co41), y34, H', ⟨(y57 HK1.out)⟩, ⟨(y92 HQ44.out)⟩, ⟨(by (with_reducible repeat (first | apply Kd.V_alloc | apply Kd.V_drewN | apply Kd.V_drew)); exact Kd.V_mono (Kd.V_far (p := ⟨go32, (x21_1 : Int).toNat * 2 + 1, none⟩) (Kd.V_far (p := ⟨go32, (x21_1 : Int).toNat * 2, none⟩) (Kd.V_mono HO_19.out (fun k_ hk => (⟨hk, fun e_ => hk.1.2.1 (by rw [e_]; rfl)⟩ : _ ∧ k_ ≠ go32))) (fun _ hk => hk.2) (.int .i64 t511)) (fun _ hk => hk.2) (.slice Ao43 t512.length co43)) (fun _ hk => ⟨hk.1.1.1, ⟨hk.1.1.2.1, ⟨hk.1.1.2.2.1, ⟨hk.1.1.2.2.2.1, hk.1.1.2.2.2.2.1⟩⟩⟩⟩))⟩, ⟨(by (with_reducible repeat (first | apply Kd.V_alloc | apply Kd.V_drewN | apply Kd.V_drew)); exact Kd.V_mono (Kd.V_far (p := ⟨go32, (x21_1 : Int).toNat * 2 + 1, none⟩) (Kd.V_far (p := ⟨go32, (x21_1 : Int).toNat * 2, none⟩) (Kd.V_mono HO_498001.out (fun k_ hk => (⟨hk, fun e_ => hk.1.2.1 (by rw [e_]; rfl)⟩ : _ ∧ k_ ≠ go32))) (fun _ hk => hk.2) (.int .i64 t511)) (fun _ hk => hk.2) (.slice Ao43 t512.length co43)) (fun _ hk => ⟨hk.1.1.1, ⟨hk.1.1.2.1, ⟨hk.1.1.2.2.1, ⟨hk.1.1.2.2.2.1, hk.1.1.2.2.2.2.1⟩⟩⟩⟩))⟩, ⟨(by (with_reducible repeat (first | apply Kd.V_alloc | apply Kd.V_drewN | apply Kd.V_drew)); exact Kd.V_mono (Kd.V_far (p := ⟨go32, (x21_1 : Int).toNat * 2 + 1, none⟩) (Kd.V_far (p := ⟨go32, (x21_1 : Int).toNat * 2, none⟩) (Kd.V_mono HO_499001.out (fun k_ hk => (⟨hk, fun e_ => hk.1.2.1 (by rw [e_]; rfl)⟩ : _ ∧ k_ ≠ go32))) (fun _ hk => hk.2) (.int .i64 t511)) (fun _ hk => hk.2) (.slice Ao43 t512.length co43)) (fun _ hk => ⟨hk.1.1.1, ⟨hk.1.1.2.1, ⟨hk.1.1.2.2.1, ⟨hk.1.1.2.2.2.1, hk.1.1.2.2.2.2.1⟩⟩⟩⟩))⟩, ⟨(y50 HQ44.out BK497.out)⟩, ⟨(y49 HQ44.out BK498.out)⟩, ⟨(y48 HQ44.out BK499.out)⟩, ⟨(y65 HB.out GB32.out GE497.out GE498.out GE499.out GE508.out)⟩⟩
          ·rw [if_neg c31] at H
           exact absurd H (by simp)
         ·rw [if_neg c29] at H
          exact absurd H (by simp)
        ·rw [if_neg c28] at H
         have c28b0 : (x21_1 == (rd l1 0)) = false := beq_eq_false_iff_ne.mpr c28
         have c28b1 : (x21_1 != (rd l1 0)) = true := bne_iff_ne.mpr c28
         obtain ⟨⟨t516, t517⟩, A450, H⟩ := ob H
         have A45 := Aside0.mk A450
         clear A450
         by_cases c46 : x21_1 < (x7_1.length : Int)
         ·rw [if_pos c46] at H
          have c46b0 : decide (x21_1 < (x7_1.length : Int)) = true := decide_eq_true c46
          clear c46
          obtain ⟨y520, hy520⟩ : ∃ y_ : List (S25), y_ = (x7_1.set (x21_1 : Int).toNat (⟨t516, t517⟩ : S25)) := ⟨_, rfl⟩
          replace H : (impl_valWith.l0 k1 l1 y520 l0_1 (l0_1.length : Int) (wrap64 (x21_1 + 1)) x499000_1 x499001_1) = some (r1, r2) := by first | (rw [hy520]; with_reducible exact H) | (have H2_ := (Option.bind_some _ _).symm.trans H; rw [hy520]; with_reducible exact H2_) | (have H2_ := (Option.bind_some _ _).symm.trans H; with_reducible exact H2_) | with_reducible exact H | (rw [hy520]; exact H) | exact H
          have Ny520 := Aside0.mk hy520
          clear hy520
          have H' := Aside0.mk H
          clear H
          have p507 : 0 ≤ (x21_1 : Int) := of_decide_eq_true y23
          have q507 : x21_1 < (l0_1.length : Int) := of_decide_eq_true y23
          obtain ⟨ad507, A507_1, c507_1, e507, hx507_0, hx507_1, hl507_1, hi507_1⟩ := at_T25 (Kd.V_reads' HO_19.out).2.2 x21_1 p507 q507
          cases e507
          obtain ⟨ce507, hce507, hMe507, hcc507⟩ := Kd.V_get HO_19.out z25 x21_1 p507 (by first | exact q507 | exact of_decide_eq_true y23 | (have e_ := (Kd.V_reads' HO_19.out).1; omega))
          obtain ⟨ua507_1, uc507_1, rfl, ul507_1, ge507_1⟩ := k25_openF hMe507
          have hv507_1 := hcc507 1 _ rfl
          rw [add_field _ _ 1 (by omega)] at hv507_1
          replace hv507_1 := Option.some.inj (hv507_1.symm.trans hx507_1)
          injection hv507_1 with hva_ hvn_ hvc_
          rw [hva_] at ge507_1
          rw [hvc_] at ul507_1
          have HL507_1 := Aside0.mk (show Kd.V k25 25 _ w.heap.size _ _ ((rd_T25 l0_1 x21_1).f1) from Kd.V_mk ul507_1 ge507_1)
          clear hva_ hvn_ hvc_ ge507_1 ul507_1
          clear hcc507 hce507
          have HR507_1 := Aside0.mk hi507_1
          have HC507_1 := Aside0.mk hl507_1
          clear hi507_1 hl507_1
          replace p507 := eq_true p507
          replace q507 := eq_true q507
          go_wp2_with (first | ((with_reducible refine gate_dst (N := 9) rfl ?_); refine zbx 9 #[.int .i64 0, .slice none 0 0] 25 ?_; intro gb508 hg w48 hbox hb; replace HO_7 := Aside0.mk (Kd.N_below (Kd.N_elderB (y3 HO_7.out) gb508 (Nat.le_of_eq hg.symm)) hb); replace HO_19 := Aside0.mk (Kd.V_below (Kd.V_elderB (y10 HO_19.out) gb508 (Nat.le_of_eq hg.symm)) hb); replace HO_498001 := Aside0.mk (Kd.V_below (Kd.V_elderB (y10 HO_498001.out) gb508 (Nat.le_of_eq hg.symm)) hb); replace HO_499001 := Aside0.mk (Kd.V_below (Kd.V_elderB (y10 HO_499001.out) gb508 (Nat.le_of_eq hg.symm)) hb); replace HL507_1 := Aside0.mk (Kd.V_below (Kd.V_elderB (y10 HL507_1.out) gb508 (Nat.le_of_eq hg.symm)) hb); replace HR507_1 := Aside0.mk (Kd.C_below (y85 HR507_1.out) hb); have BK508 := Aside0.mk hbox; have GW508 := Aside0.mk ((y22 hg HB.out GE497.out GE498.out GE499.out : w.heap.size ≤ gb508)); have GE508 := Aside0.mk ((y22 hg HB.out GE497.out GE498.out GE499.out : w.heap.size ≤ gb508)); replace HB := Aside0.mk (below_step (y4 HB.out GE497.out GE498.out GE499.out) hb); have NB497_508 := zltn hg BK497; have NB508_497 := zgtn hg BK497; replace BK497 := zbb BK497 hb; have NB498_508 := zltn hg BK498; have NB508_498 := zgtn hg BK498; replace BK498 := zbb BK498 hb; have NB499_508 := zltn hg BK499; have NB508_499 := zgtn hg BK499; replace BK499 := zbb BK499 hb; clear hb hbox hg; have hnb49 := NB508_497.out; have hnc49 := NB497_508.out; have hnb50 := NB508_498.out; have hnc50 := NB498_508.out; have hnb51 := NB508_499.out; have hnc51 := NB499_508.out; have hcz52_0 := zh BK508; have hcz52_1 := zh1 BK508; have hfz52_0 := zfr BK508 0; have hfz52_1 := zfr BK508 1; have p509 : 0 ≤ (0 : Int) := (by omega); have q509 : 0 < (l1.length : Int) := of_decide_eq_true y23; obtain ⟨ad509, e509, hx509_0⟩ := Kd.at_int HR1.out 0 p509 q509; cases e509; have qi509 : (0 < l1.length) = True := eq_true (by omega); (try rw [show ((0 : Int)).toNat = 0 from rfl] at hx509_0); (try rw [Addr.add_zero'] at hx509_0); have hn509_0 : ad509.block ≠ gb508 := Nat.ne_of_lt (Nat.lt_of_lt_of_le (by have := World.block_lt_of_cell? _ _ hx509_0; first | rwa [add_block] at this | exact this) GW508.out); have hn509_1 : ad509.block ≠ gb508 := Nat.ne_of_lt (Nat.lt_of_lt_of_le (by have := World.block_lt_of_cell? _ _ hx509_0; first | rwa [add_block] at this | exact this) GW508.out); replace hx509_0 := (HB.out.cell (World.block_lt_of_cell? w _ hx509_0)).trans hx509_0; replace hx509_0 := (cell_far (p := ⟨gb508, 0, none⟩) (by first | (rw [add_block]; exact hn509_0) | (show (Addr.add _ _).block ≠ _; rw [add_block]; exact hn509_0) | exact hn509_0) (.int .i64 ((rd_T25 l0_1 x21_1).f0))).trans hx509_0; replace hx509_0 := (cell_far (p := ⟨gb508, 1, none⟩) (by first | (rw [add_block]; exact hn509_1) | (show (Addr.add _ _).block ≠ _; rw [add_block]; exact hn509_1) | exact hn509_1) (.slice A507_1 ((rd_T25 l0_1 x21_1).f1).length c507_1)).trans hx509_0; clear hn509_0; clear hn509_1; replace p509 := eq_true p509; replace q509 := eq_true q509) | ((with_reducible refine gate_callee (f := 40) rfl ?_); refine goesL_ (some 42) rfl rfl Try.func40 (by kernel_rfl) rfl #[.agg #[.int .i64 ((rd_T25 l0_1 x21_1).f0), .slice A507_1 ((rd_T25 l0_1 x21_1).f1).length c507_1]] rfl y8 ?_; (with_reducible refine (impl_valCopy.calls k1 ((rd_T25 l0_1 x21_1).f0) _ _ ((rd_T25 l0_1 x21_1).f1) t516 t517 _ ?side1 ?side2 A45.out).mono ?_); (case side1 => repeat (first | exact ((Kd.V_reads' (by (with_reducible repeat (first | apply Kd.V_alloc | apply Kd.V_drewN | apply Kd.V_drew)); exact (Kd.V_mono (Kd.V_far (p := ⟨gb508, 1, none⟩) (Kd.V_far (p := ⟨gb508, 0, none⟩) (Kd.V_mono HL507_1.out (fun k_ hk => (⟨hk, hk.2⟩ : _ ∧ k_ ≠ gb508))) (fun _ hk => hk.2) (.int .i64 ((rd_T25 l0_1 x21_1).f0))) (fun _ hk => hk.2) (.slice A507_1 ((rd_T25 l0_1 x21_1).f1).length c507_1)) (fun _ h_ => h_.1)))).2.2) | (with_reducible refine Kd.C_alloc ?_ _) | (with_reducible refine Kd.C_drewN ?_ _) | (with_reducible refine Kd.C_drew ?_))); (case side2 => exact HC507_1.out); rintro e w53 ⟨v518, rfl, ho0, hb⟩; refine ⟨_, rfl, ?_⟩; replace HO_19 := Aside0.mk (Kd.V_elder' (by (with_reducible repeat (first | apply Kd.V_alloc | apply Kd.V_drewN | apply Kd.V_drew)); exact (Kd.V_mono (Kd.V_far (p := ⟨gb508, 1, none⟩) (Kd.V_far (p := ⟨gb508, 0, none⟩) (Kd.V_mono HO_19.out (fun k_ hk => (⟨hk, hk.2⟩ : _ ∧ k_ ≠ gb508))) (fun _ hk => hk.2) (.int .i64 ((rd_T25 l0_1 x21_1).f0))) (fun _ hk => hk.2) (.slice A507_1 ((rd_T25 l0_1 x21_1).f1).length c507_1)) (fun _ h_ => h_.1))) (Kd.N_base ho0) hb); replace HO_498001 := Aside0.mk (Kd.V_elder' (by (with_reducible repeat (first | apply Kd.V_alloc | apply Kd.V_drewN | apply Kd.V_drew)); exact (Kd.V_mono (Kd.V_far (p := ⟨gb508, 1, none⟩) (Kd.V_far (p := ⟨gb508, 0, none⟩) (Kd.V_mono HO_498001.out (fun k_ hk => (⟨hk, hk.2⟩ : _ ∧ k_ ≠ gb508))) (fun _ hk => hk.2) (.int .i64 ((rd_T25 l0_1 x21_1).f0))) (fun _ hk => hk.2) (.slice A507_1 ((rd_T25 l0_1 x21_1).f1).length c507_1)) (fun _ h_ => h_.1))) (Kd.N_base ho0) hb); replace HO_499001 := Aside0.mk (Kd.V_elder' (by (with_reducible repeat (first | apply Kd.V_alloc | apply Kd.V_drewN | apply Kd.V_drew)); exact (Kd.V_mono (Kd.V_far (p := ⟨gb508, 1, none⟩) (Kd.V_far (p := ⟨gb508, 0, none⟩) (Kd.V_mono HO_499001.out (fun k_ hk => (⟨hk, hk.2⟩ : _ ∧ k_ ≠ gb508))) (fun _ hk => hk.2) (.int .i64 ((rd_T25 l0_1 x21_1).f0))) (fun _ hk => hk.2) (.slice A507_1 ((rd_T25 l0_1 x21_1).f1).length c507_1)) (fun _ h_ => h_.1))) (Kd.N_base ho0) hb); have HO519 := Aside0.mk (Kd.N_lower (Kd.N_mono (ok' := fun k_ => ((P0_1_ k_ ∨ P2_1_ k_) ∨ w.heap.size ≤ k_) ∧ some k_ ≠ (v505 : Value).ownBlock ∧ k_ ≠ gb497 ∧ k_ ≠ gb498 ∧ k_ ≠ gb499 ∧ k_ ≠ gb508) ho0 (fun k_ hk_ => ⟨(.inr (Nat.le_trans (below_size (y7 HB.out GE497.out GE498.out GE499.out GE508.out)) hk_)), (Kd.fresh' (Kd.N_lt (by (with_reducible repeat (first | apply Kd.N_alloc | apply Kd.N_drewN | apply Kd.N_drew)); exact (Kd.N_mono (Kd.N_far (p := ⟨gb508, 1, none⟩) (Kd.N_far (p := ⟨gb508, 0, none⟩) (Kd.N_mono HO_7.out (fun k_ hk => (⟨hk, hk.2⟩ : _ ∧ k_ ≠ gb508))) (fun _ hk => hk.2) (.int .i64 ((rd_T25 l0_1 x21_1).f0))) (fun _ hk => hk.2) (.slice A507_1 ((rd_T25 l0_1 x21_1).f1).length c507_1)) (fun _ h_ => h_.1)))) k_ hk_), (Kd.freshB (g := gb497) (o := .cells #[.int .i64 x498000_1, u498001] 25 (0, 0)) (y1 NB497_508.out BK497.out) k_ hk_), (Kd.freshB (g := gb498) (o := .cells #[.int .i64 x499000_1, u499001] 25 (0, 0)) (y1 NB498_508.out BK498.out) k_ hk_), (Kd.freshB (g := gb499) (o := .cells #[.int .i64 x500000_1, .slice none 0 0] 25 (0, 0)) (y1 NB499_508.out BK499.out) k_ hk_), (Kd.freshB (g := gb508) (o := .cells #[.int .i64 ((rd_T25 l0_1 x21_1).f0), .slice A507_1 ((rd_T25 l0_1 x21_1).f1).length c507_1] 25 (0, 0)) (by (with_reducible repeat (first | refine blk_drewN ?_ _ | refine blk_drew ?_ | refine blk_alloc ?_ _)); refine blk_put (cs := #[.int .i64 ((rd_T25 l0_1 x21_1).f0), .slice none 0 0]) ?_ 1 _ rfl; (with_reducible repeat (first | refine blk_drewN ?_ _ | refine blk_drew ?_ | refine blk_alloc ?_ _)); apply blk_put (i := 0); (case h => exact y0 BK508.out); (case e => rfl)) k_ hk_)⟩)) (below_size (y7 HB.out GE497.out GE498.out GE499.out GE508.out))); replace HO_7 := Aside0.mk (Kd.N_elder' (by (with_reducible repeat (first | apply Kd.N_alloc | apply Kd.N_drewN | apply Kd.N_drew)); exact (Kd.N_mono (Kd.N_far (p := ⟨gb508, 1, none⟩) (Kd.N_far (p := ⟨gb508, 0, none⟩) (Kd.N_mono HO_7.out (fun k_ hk => (⟨hk, hk.2⟩ : _ ∧ k_ ≠ gb508))) (fun _ hk => hk.2) (.int .i64 ((rd_T25 l0_1 x21_1).f0))) (fun _ hk => hk.2) (.slice A507_1 ((rd_T25 l0_1 x21_1).f1).length c507_1)) (fun _ h_ => h_.1))) (Kd.N_base ho0) hb); replace BK497 := Aside0.mk (blk_below (g := gb497) (o := .cells #[.int .i64 x498000_1, u498001] 25 (0, 0)) (y1 NB497_508.out BK497.out) hb); replace BK498 := Aside0.mk (blk_below (g := gb498) (o := .cells #[.int .i64 x499000_1, u499001] 25 (0, 0)) (y1 NB498_508.out BK498.out) hb); replace BK499 := Aside0.mk (blk_below (g := gb499) (o := .cells #[.int .i64 x500000_1, .slice none 0 0] 25 (0, 0)) (y1 NB499_508.out BK499.out) hb); replace HR507_1 := Aside0.mk (Kd.C_below ((Kd.V_reads' (by (with_reducible repeat (first | apply Kd.V_alloc | apply Kd.V_drewN | apply Kd.V_drew)); exact (Kd.V_mono (Kd.V_far (p := ⟨gb508, 1, none⟩) (Kd.V_far (p := ⟨gb508, 0, none⟩) (Kd.V_mono HL507_1.out (fun k_ hk => (⟨hk, hk.2⟩ : _ ∧ k_ ≠ gb508))) (fun _ hk => hk.2) (.int .i64 ((rd_T25 l0_1 x21_1).f0))) (fun _ hk => hk.2) (.slice A507_1 ((rd_T25 l0_1 x21_1).f1).length c507_1)) (fun _ h_ => h_.1)))).2.2) hb); replace HL507_1 := Aside0.mk (Kd.V_elder' (by (with_reducible repeat (first | apply Kd.V_alloc | apply Kd.V_drewN | apply Kd.V_drew)); exact (Kd.V_mono (Kd.V_far (p := ⟨gb508, 1, none⟩) (Kd.V_far (p := ⟨gb508, 0, none⟩) (Kd.V_mono HL507_1.out (fun k_ hk => (⟨hk, hk.2⟩ : _ ∧ k_ ≠ gb508))) (fun _ hk => hk.2) (.int .i64 ((rd_T25 l0_1 x21_1).f0))) (fun _ hk => hk.2) (.slice A507_1 ((rd_T25 l0_1 x21_1).f1).length c507_1)) (fun _ h_ => h_.1))) (Kd.N_base ho0) hb); replace BK508 := Aside0.mk (blk_below (g := gb508) (o := .cells #[.int .i64 ((rd_T25 l0_1 x21_1).f0), .slice A507_1 ((rd_T25 l0_1 x21_1).f1).length c507_1] 25 (0, 0)) (by (with_reducible repeat (first | refine blk_drewN ?_ _ | refine blk_drew ?_ | refine blk_alloc ?_ _)); refine blk_put (cs := #[.int .i64 ((rd_T25 l0_1 x21_1).f0), .slice none 0 0]) ?_ 1 _ rfl; (with_reducible repeat (first | refine blk_drewN ?_ _ | refine blk_drew ?_ | refine blk_alloc ?_ _)); apply blk_put (i := 0); (case h => exact y0 BK508.out); (case e => rfl)) hb); replace HB := Aside0.mk (below_step (y7 HB.out GE497.out GE498.out GE499.out GE508.out) hb); (try clear hb); (try clear hb2); (try clear hk); (try clear hi); (try clear ho0); have p47 : 0 ≤ (x21_1 : Int) := of_decide_eq_true y23; have q47 : (x21_1 : Int) < ((x7_1.length : Int) : Int) := of_decide_eq_true y23; obtain ⟨go47, co47, eo47, gb47, gl47, cl47, HG47⟩ := Kd.N_form HO_7.out (by omega); (first | cases eo47 | (injection eo47 with ea_ en_ ec_; (first | subst ea_ | (injection ea_ with ea_; subst ea_)); subst ec_; clear en_)); have GB47 := Aside0.mk gb47; have GG47 := Aside0.mk HG47; clear gb47 gl47 HG47; obtain ⟨ce47, hcl47, hM47, hcc47, hfr47⟩ := Kd.N_elem HO_7.out z25 (x21_1 : Int) p47 q47; obtain ⟨ua47_1, uc47_1, rfl, ul47_1, ge47_1⟩ := k25_openF hM47; have hx47_0 : w53.cell? ⟨go47, (x21_1 : Int).toNat * 2, none⟩ = some (.int .i64 ((rd_T25 x7_1 x21_1).f0)) := hcc47 0 _ rfl; have hx47_1 : w53.cell? ⟨go47, (x21_1 : Int).toNat * 2 + 1, none⟩ = some (.slice ua47_1 ((rd_T25 x7_1 x21_1).f1).length uc47_1) := hcc47 1 _ rfl; have hf47_0 : w53.frozen? ⟨go47, (x21_1 : Int).toNat * 2, none⟩ = false := hfr47 0; have hf47_1 : w53.frozen? ⟨go47, (x21_1 : Int).toNat * 2 + 1, none⟩ = false := hfr47 1; clear hcl47 hcc47 hfr47 hM47; replace p47 := eq_true p47; replace q47 := eq_true q47; obtain ⟨Ao54, co54, eo54⟩ := Kd.N_slice HO519.out; subst eo54; have n_ := Aside0.mk (Kd.N_mono (ok' := (fun k_ => ((P0_1_ k_ ∨ P2_1_ k_) ∨ w.heap.size ≤ k_) ∧ some k_ ≠ (.slice Ao54 t517.length co54 : Value).ownBlock ∧ k_ ≠ gb497 ∧ k_ ≠ gb498 ∧ k_ ≠ gb499 ∧ k_ ≠ gb508)) HO_7.out (fun k_ hk => ⟨hk.1.1.1, ⟨hk.2, ⟨hk.1.1.2.1, ⟨hk.1.1.2.2.1, ⟨hk.1.1.2.2.2, hk.1.2⟩⟩⟩⟩⟩)); clear HO_7; have HO_7 := n_; clear n_; have HX55 := Aside0.mk (show Kd.N k25 25 w53 w.heap.size (fun k_ => ((P0_1_ k_ ∨ P2_1_ k_) ∨ w.heap.size ≤ k_) ∧ k_ ≠ gb497 ∧ k_ ≠ gb498 ∧ k_ ≠ gb499 ∧ k_ ≠ gb508) (.slice (some ⟨go47, 0, none⟩) x7_1.length co47) x7_1 from (by (with_reducible repeat (first | apply Kd.N_alloc | apply Kd.N_drewN | apply Kd.N_drew)); exact Kd.N_mono HO_7.out (fun _ hk => ⟨hk.1, ⟨hk.2.2.1, ⟨hk.2.2.2.1, ⟨hk.2.2.2.2.1, hk.2.2.2.2.2⟩⟩⟩⟩))); obtain ⟨ce55, hcl55, hM55, hcc55, hfr55⟩ := Kd.N_elem HX55.out z25 (x21_1 : Int) (of_decide_eq_true y23) (by have h_ : (x21_1 : Int) < ((x7_1.length : Int) : Int) := of_decide_eq_true y23; first | exact h_ | (have e_ := (Kd.N_reads' HO_7.out).1; omega) | simpa using h_); obtain ⟨ua55_1, uc55_1, rfl, ul55_1, ge55_1⟩ := k25_openF hM55; have HP55 := Kd.N_seg HX55.out (x21_1 : Int) (of_decide_eq_true y23) (by have h_ : (x21_1 : Int) < ((x7_1.length : Int) : Int) := of_decide_eq_true y23; first | exact h_ | (have e_ := (Kd.N_reads' HO_7.out).1; omega) | simpa using h_) (seg := [.int .i64 t516, .slice Ao54 t517.length co54]) (j := 0) hcl55 hcc55 (show 2 ≤ 2 from by decide) (x' := (⟨t516, t517⟩ : S25)) (k25_mkF _ _ (⟨t516, t517⟩ : S25) (Kd.N_reads' (Kd.N_mono (ok' := (fun k_ => ((fun k_ => ((P0_1_ k_ ∨ P2_1_ k_) ∨ w.heap.size ≤ k_) ∧ k_ ≠ gb497 ∧ k_ ≠ gb498 ∧ k_ ≠ gb499 ∧ k_ ≠ gb508)) k_ ∧ k_ ≠ go47)) (HO519.out) (fun k_ hk => ⟨⟨hk.1, ⟨hk.2.2.1, ⟨hk.2.2.2.1, ⟨hk.2.2.2.2.1, hk.2.2.2.2.2⟩⟩⟩⟩, fun e_ => (hk.2.1) (by rw [e_]; rfl)⟩))).2.1 (Kd.N_F (Kd.N_mono (ok' := (fun k_ => ((fun k_ => ((P0_1_ k_ ∨ P2_1_ k_) ∨ w.heap.size ≤ k_) ∧ k_ ≠ gb497 ∧ k_ ≠ gb498 ∧ k_ ≠ gb499 ∧ k_ ≠ gb508)) k_ ∧ k_ ≠ go47)) (HO519.out) (fun k_ hk => ⟨⟨hk.1, ⟨hk.2.2.1, ⟨hk.2.2.2.1, ⟨hk.2.2.2.2.1, hk.2.2.2.2.2⟩⟩⟩⟩, fun e_ => (hk.2.1) (by rw [e_]; rfl)⟩)))) (fun _ hk => hk); have hx55_0 := hcc55 0 _ rfl; (try simp only [show (k25).sz = 2 from rfl, Nat.mul_one, Nat.add_zero] at hx55_0); have hf55_0 := hfr55 0; (try simp only [show (k25).sz = 2 from rfl, Nat.mul_one, Nat.add_zero] at hf55_0); have hx55_1 := hcc55 1 _ rfl; (try simp only [show (k25).sz = 2 from rfl, Nat.mul_one, Nat.add_zero] at hx55_1); have hf55_1 := hfr55 1; (try simp only [show (k25).sz = 2 from rfl, Nat.mul_one, Nat.add_zero] at hf55_1); clear hcl55 hcc55 hfr55 hM55) | ((with_reducible refine gate_store (t := 25) (p := 43) rfl ?_); refine store_event (t := 25) (p := 43) (v := ?vo_w56) (w1 := ((w53.setCell ⟨go47, (x21_1 : Int).toNat * 2, none⟩ (.int .i64 t516)).setCell ⟨go47, (x21_1 : Int).toNat * 2 + 1, none⟩ (.slice Ao54 t517.length co54))) ?hg ?ho ?hn ?hr ?_; (case ho => rfl); (case hg => rfl); (case hn => rfl); (case hr => first | (go_simp; done) | (go_simp; rfl)); intro w56 hw; have hg : w53.grownBy w56 (some go47) := (by rw [hw]; exact HP55.2); have hp_ : Kd.N k25 25 w56 w.heap.size (fun k_ => ((P0_1_ k_ ∨ P2_1_ k_) ∨ w.heap.size ≤ k_) ∧ k_ ≠ gb497 ∧ k_ ≠ gb498 ∧ k_ ≠ gb499 ∧ k_ ≠ gb508) (.slice (some ⟨go47, 0, none⟩) x7_1.length co47) y520 := (by rw [hw, Ny520.out]; exact HP55.1); clear HP55; replace HO_19 := Aside0.mk (Kd.V_afterv (v := (.slice (some ⟨go47, 0, none⟩) x7_1.length co47)) (v1 := (.slice (some ⟨go47, 0, none⟩) x7_1.length co47)) (ok := (fun k_ => ((P0_1_ k_ ∨ P2_1_ k_) ∨ w.heap.size ≤ k_) ∧ some k_ ≠ (.slice Ao54 t517.length co54 : Value).ownBlock ∧ k_ ≠ gb497 ∧ k_ ≠ gb498 ∧ k_ ≠ gb499 ∧ k_ ≠ gb508)) (y55 HO_19.out) hg (.inl rfl)); replace HO_498001 := Aside0.mk (Kd.V_afterv (v := (.slice (some ⟨go47, 0, none⟩) x7_1.length co47)) (v1 := (.slice (some ⟨go47, 0, none⟩) x7_1.length co47)) (ok := (fun k_ => ((P0_1_ k_ ∨ P2_1_ k_) ∨ w.heap.size ≤ k_) ∧ some k_ ≠ (.slice Ao54 t517.length co54 : Value).ownBlock ∧ k_ ≠ gb497 ∧ k_ ≠ gb498 ∧ k_ ≠ gb499 ∧ k_ ≠ gb508)) (y55 HO_498001.out) hg (.inl rfl)); replace HO_499001 := Aside0.mk (Kd.V_afterv (v := (.slice (some ⟨go47, 0, none⟩) x7_1.length co47)) (v1 := (.slice (some ⟨go47, 0, none⟩) x7_1.length co47)) (ok := (fun k_ => ((P0_1_ k_ ∨ P2_1_ k_) ∨ w.heap.size ≤ k_) ∧ some k_ ≠ (.slice Ao54 t517.length co54 : Value).ownBlock ∧ k_ ≠ gb497 ∧ k_ ≠ gb498 ∧ k_ ≠ gb499 ∧ k_ ≠ gb508)) (y55 HO_499001.out) hg (.inl rfl)); replace BK497 := Aside0.mk (blk_grown (g := gb497) (o := .cells #[.int .i64 x498000_1, u498001] 25 (0, 0)) (y0 BK497.out) hg (Kd.N_away HO_7.out (fun _ hk => hk.2.2.1))); replace BK498 := Aside0.mk (blk_grown (g := gb498) (o := .cells #[.int .i64 x499000_1, u499001] 25 (0, 0)) (y0 BK498.out) hg (Kd.N_away HO_7.out (fun _ hk => hk.2.2.2.1))); replace BK499 := Aside0.mk (blk_grown (g := gb499) (o := .cells #[.int .i64 x500000_1, .slice none 0 0] 25 (0, 0)) (y0 BK499.out) hg (Kd.N_away HO_7.out (fun _ hk => hk.2.2.2.2.1))); replace HL507_1 := Aside0.mk (Kd.V_afterv (v := (.slice (some ⟨go47, 0, none⟩) x7_1.length co47)) (v1 := (.slice (some ⟨go47, 0, none⟩) x7_1.length co47)) (ok := (fun k_ => ((P0_1_ k_ ∨ P2_1_ k_) ∨ w.heap.size ≤ k_) ∧ some k_ ≠ (.slice Ao54 t517.length co54 : Value).ownBlock ∧ k_ ≠ gb497 ∧ k_ ≠ gb498 ∧ k_ ≠ gb499 ∧ k_ ≠ gb508)) (y55 HL507_1.out) hg (.inl rfl)); replace BK508 := Aside0.mk (blk_grown (g := gb508) (o := .cells #[.int .i64 ((rd_T25 l0_1 x21_1).f0), .slice A507_1 ((rd_T25 l0_1 x21_1).f1).length c507_1] 25 (0, 0)) (y0 BK508.out) hg (Kd.N_away HO_7.out (fun _ hk => hk.2.2.2.2.2))); replace HO_7 := Aside0.mk (hp_); replace HB := Aside0.mk ((by rw [hw]; exact below_set (below_set (HB.out) GB47.out) GB47.out : Below w.heap.size w w56)); clear HO519; clear hg hw hp_))
          go_roundg k1
          case measure => have := HK1.out; omega
          case rel => exact ⟨(y520), (wrap64 (x21_1 + 1)), (x498000_1), (x498001_1), (x499000_1), (x499001_1), (x500000_1), (u498001), (u499001), y34, H', ⟨(y57 HK1.out)⟩, ⟨(y92 HO_7.out)⟩, ⟨(y64 HO_19.out)⟩, ⟨(y64 HO_498001.out)⟩, ⟨(y64 HO_499001.out)⟩, ⟨(y0 BK497.out)⟩, ⟨(y0 BK498.out)⟩, ⟨(y0 BK499.out)⟩, ⟨(y7 HB.out GE497.out GE498.out GE499.out GE508.out)⟩⟩
         ·rw [if_neg c46] at H
          exact absurd H (by simp)
       ·rw [if_neg c27] at H
        exact absurd H (by simp)
      ·rw [if_neg c26] at H
       exact absurd H (by simp)
     ·rw [if_neg c25] at H
      exact absurd H (by simp)
    ·rw [if_neg c24] at H
     have c24b0 : decide (x21_1 < (l0_1.length : Int)) = false := decide_eq_false c24
     clear c24
     simp only [Option.some.injEq, Prod.mk.injEq] at H
     obtain ⟨rfl, rfl⟩ := H
     obtain ⟨Ao57, co57, eo57⟩ := Kd.N_slice HO_7.out
     subst eo57
     have hnb58 := NB499_497.out
     have hnc58 := NB497_499.out
     have hnb59 := NB499_498.out
     have hnc59 := NB498_499.out
     have hcz60_0 := zh BK499
     have hcz60_1 := zh1 BK499
     have hfz60_0 := zfr BK499 0
     have hfz60_1 := zfr BK499 1
     go_wp2
     refine bodyPost_ret (results_cell_row rfl _ _ gb499 25 #[.int .i64 0, .slice Ao57 x7_1.length co57] (0, 0) _ rfl (by (with_reducible repeat (first | refine blk_drewN ?_ _ | refine blk_drew ?_ | refine blk_alloc ?_ _)); refine blk_put (cs := #[.int .i64 0, .slice none 0 0]) ?_ 1 _ rfl; (with_reducible repeat (first | refine blk_drewN ?_ _ | refine blk_drew ?_ | refine blk_alloc ?_ _)); apply blk_put (i := 0); (case h => exact y0 BK499.out); (case e => rfl)) Try.underlying25 rfl (by kernel_rfl)) rfl ?_
     exact ⟨_, y19, (by (with_reducible repeat (first | apply Kd.N_alloc | apply Kd.N_drewN | apply Kd.N_drew)); exact Kd.N_mono (Kd.N_far (p := ⟨gb499, 1, none⟩) (Kd.N_far (p := ⟨gb499, 0, none⟩) (Kd.N_mono HO_7.out (fun k_ hk => (⟨hk, hk.2.2.2⟩ : _ ∧ k_ ≠ gb499))) (fun _ hk => hk.2) (.int .i64 0)) (fun _ hk => hk.2) (.slice Ao57 x7_1.length co57)) (fun _ hk => hk.1.1)), (y4 HB.out GE497.out GE498.out GE499.out)⟩
end Go.Proofs.Ythfflieeifakdaa.PA
end
section
namespace Go.Proofs.Ythfflieeifakdaa.PA
open Go.RowKit Go.Proofs.YthfflieeifakdaaW.PrintWords Go.Proofs.YthfflieeifakdaaW.PrintLast Go.Proofs.YthfflieeifakdaaW.PrintMore
attribute [local go_sem] max2_int min2_int max_two min_two max_three min_three max_four min_four
set_option linter.unusedVariables false
set_option linter.unusedSimpArgs false
def impl_ValPut.f (k : Nat) (a0_0 : Int) (l0_1 : List (S25)) (l1 : List Int) (a2_0 : Int) (l2_1 : List (S25)) : Option (Int × (List (S25)) × Bool) := (impl_ValAt.f k a0_0 l0_1 l1).bind fun bt524 => (if bt524.2.2 = true then ((impl_valTyped.f k bt524.1 bt524.2.1).bind fun bt530 => ((impl_valTyped.f k a2_0 l2_1).bind fun bt535 => (if bt535.2 = true then ((impl_typeSame.f k bt530.1 bt535.1).bind fun t540 => (if t540 = true then ((impl_valWith.f k a0_0 l0_1 l1 a2_0 l2_1).bind fun bt541 => (some (bt541.1, bt541.2, true))) else (some (0, ([] : List (S25)), false)))) else (some (0, ([] : List (S25)), false))))) else (some (0, ([] : List (S25)), false)))
theorem impl_ValPut.mono : ∀ a0 a1 a2 a3 a4 k, LeO (impl_ValPut.f k a0 a1 a2 a3 a4) (impl_ValPut.f (k + 1) a0 a1 a2 a3 a4) := by
 intro a0 a1 a2 a3 a4 k
 unfold impl_ValPut.f
 repeat' first
   | (with_reducible exact impl_ValAt.mono _ _ _ _)
   | (with_reducible exact impl_typeSame.mono _ _ _)
   | (with_reducible exact impl_valTyped.mono _ _ _)
   | (with_reducible exact impl_valWith.mono _ _ _ _ _ _)
   | (with_reducible exact LeO.refl _)
   | (with_reducible exact LeO.none _)
   | (with_reducible refine LeO.ite ?_ ?_)
   | (with_reducible refine LeO.bind ?_ (fun _ => ?_))
   | exact impl_ValAt.mono _ _ _ _
   | exact impl_typeSame.mono _ _ _
   | exact impl_valTyped.mono _ _ _
   | exact impl_valWith.mono _ _ _ _ _ _
   | exact LeO.none _
   | refine LeO.ite ?_ ?_
   | refine LeO.bind ?_ (fun _ => ?_)
set_option maxHeartbeats 8000000 in
set_option maxRecDepth 100000 in
theorem impl_ValPut.calls (k : Nat) (a0_0 : Int) (P0_1_ : Nat → Prop) (A0_1 : Option Addr) (c0_1 : Nat) (l0_1 : List (S25)) (A1 : Option Addr) (c1 : Nat) (l1 : List Int) (a2_0 : Int) (P2_1_ : Nat → Prop) (A2_1 : Option Addr) (c2_1 : Nat) (l2_1 : List (S25)) (r1 : Int) (r2 : List (S25)) (r3 : Bool) (w : World) (hs0_1 : Kd.V k25 25 w w.heap.size (fun k_ => P0_1_ k_) (.slice A0_1 l0_1.length c0_1) l0_1) (hr1 : Kd.C (Kd.int .i64) w A1 l1.length l1) (hc1 : l1.length ≤ c1) (hs2_1 : Kd.V k25 25 w w.heap.size (fun k_ => P2_1_ k_) (.slice A2_1 l2_1.length c2_1) l2_1) (h : impl_ValPut.f k a0_0 l0_1 l1 a2_0 l2_1 = some (r1, r2, r3)) :
  Calls Try.prog 24 #[.agg #[.int .i64 a0_0, .slice A0_1 l0_1.length c0_1], .slice A1 l1.length c1, .agg #[.int .i64 a2_0, .slice A2_1 l2_1.length c2_1]] w fun e w' => ∃ v1_ : Value, e = .returned (.tuple #[.agg #[.int .i64 r1, v1_], .bool r3]) ∧ Kd.N k25 25 w' w.heap.size (fun k_ => ((P0_1_ k_ ∨ P2_1_ k_) ∨ w.heap.size ≤ k_)) v1_ r2 ∧ Below w.heap.size w w' := by
 have hu25 := Try.underlying25
 have hu50 := Try.underlying50
 have HO0_1 := Aside0.mk (show Kd.V k25 25 w w.heap.size (fun k_ => ((P0_1_ k_ ∨ P2_1_ k_) ∨ w.heap.size ≤ k_)) (.slice A0_1 l0_1.length c0_1) l0_1 from Kd.V_mono hs0_1 (fun k_ hk => .inl (.inl hk)))
 have HR1 := Aside0.mk hr1
 have HC1 := Aside0.mk hc1
 clear hr1 hc1
 have HO2_1 := Aside0.mk (show Kd.V k25 25 w w.heap.size (fun k_ => ((P0_1_ k_ ∨ P2_1_ k_) ∨ w.heap.size ≤ k_)) (.slice A2_1 l2_1.length c2_1) l2_1 from Kd.V_mono hs2_1 (fun k_ hk => .inl (.inr hk)))
 have HB := Aside0.mk (Below.refl w.heap.size w)
 have H : ((impl_ValAt.f k a0_0 l0_1 l1).bind fun bt524 => (if bt524.2.2 = true then ((impl_valTyped.f k bt524.1 bt524.2.1).bind fun bt530 => ((impl_valTyped.f k a2_0 l2_1).bind fun bt535 => (if bt535.2 = true then ((impl_typeSame.f k bt530.1 bt535.1).bind fun t540 => (if t540 = true then ((impl_valWith.f k a0_0 l0_1 l1 a2_0 l2_1).bind fun bt541 => (some (bt541.1, bt541.2, true))) else (some (0, ([] : List (S25)), false)))) else (some (0, ([] : List (S25)), false))))) else (some (0, ([] : List (S25)), false)))) = some (r1, r2, r3) := h
 clear h
 obtain ⟨⟨t524, t525, t528⟩, A40, H⟩ := ob H
 have A4 := Aside0.mk A40
 clear A40
 by_cases c5 : t528 = true
 ·subst c5
  rw [if_pos rfl] at H
  obtain ⟨⟨t530, t533⟩, A60, H⟩ := ob H
  have A6 := Aside0.mk A60
  clear A60
  obtain ⟨⟨t535, t538⟩, A70, H⟩ := ob H
  have A7 := Aside0.mk A70
  clear A70
  by_cases c8 : t538 = true
  ·subst c8
   rw [if_pos rfl] at H
   obtain ⟨t540, A90, H⟩ := ob H
   have A9 := Aside0.mk A90
   clear A90
   by_cases c10 : t540 = true
   ·subst c10
    rw [if_pos rfl] at H
    obtain ⟨⟨t541, t542⟩, A110, H⟩ := ob H
    have A11 := Aside0.mk A110
    clear A110
    simp only [Option.some.injEq, Prod.mk.injEq] at H
    obtain ⟨rfl, rfl, rfl⟩ := H
    go_enter Try.func24, Try.ntmps24
    go_wp2_with (first | ((with_reducible refine gate_dst (N := 3) rfl ?_); refine zbx 3 #[.int .i64 a0_0, .slice A0_1 l0_1.length c0_1] 25 ?_; intro gb521 hg w12 hbox hb; replace HO0_1 := Aside0.mk (Kd.V_below (Kd.V_elderB (y10 HO0_1.out) gb521 (Nat.le_of_eq hg.symm)) hb); replace HO2_1 := Aside0.mk (Kd.V_below (Kd.V_elderB (y10 HO2_1.out) gb521 (Nat.le_of_eq hg.symm)) hb); have BK521 := Aside0.mk hbox; have GW521 := Aside0.mk ((y9 hg HB.out : w.heap.size ≤ gb521)); have GE521 := Aside0.mk ((y9 hg HB.out : w.heap.size ≤ gb521)); replace HB := Aside0.mk (below_step (y5 HB.out) hb); clear hb hbox hg) | ((with_reducible refine gate_dst (N := 5) rfl ?_); refine zbx 5 #[.int .i64 a2_0, .slice A2_1 l2_1.length c2_1] 25 ?_; intro gb522 hg w13 hbox hb; replace HO0_1 := Aside0.mk (Kd.V_below (Kd.V_elderB (y10 HO0_1.out) gb522 (Nat.le_of_eq hg.symm)) hb); replace HO2_1 := Aside0.mk (Kd.V_below (Kd.V_elderB (y10 HO2_1.out) gb522 (Nat.le_of_eq hg.symm)) hb); have BK522 := Aside0.mk hbox; have GW522 := Aside0.mk ((y11 hg HB.out GE521.out : w.heap.size ≤ gb522)); have GE522 := Aside0.mk ((y11 hg HB.out GE521.out : w.heap.size ≤ gb522)); replace HB := Aside0.mk (below_step (y6 HB.out GE521.out) hb); have NB521_522 := zltn hg BK521; have NB522_521 := zgtn hg BK521; replace BK521 := zbb BK521 hb; clear hb hbox hg) | ((with_reducible refine gate_dst (N := 6) rfl ?_); refine zbx 6 #[.int .i64 0, .slice none 0 0] 25 ?_; intro gb523 hg w14 hbox hb; replace HO0_1 := Aside0.mk (Kd.V_below (Kd.V_elderB (y10 HO0_1.out) gb523 (Nat.le_of_eq hg.symm)) hb); replace HO2_1 := Aside0.mk (Kd.V_below (Kd.V_elderB (y10 HO2_1.out) gb523 (Nat.le_of_eq hg.symm)) hb); have BK523 := Aside0.mk hbox; have GW523 := Aside0.mk ((y16 hg HB.out GE521.out GE522.out : w.heap.size ≤ gb523)); have GE523 := Aside0.mk ((y16 hg HB.out GE521.out GE522.out : w.heap.size ≤ gb523)); replace HB := Aside0.mk (below_step (y2 HB.out GE521.out GE522.out) hb); have NB521_523 := zltn hg BK521; have NB523_521 := zgtn hg BK521; replace BK521 := zbb BK521 hb; have NB522_523 := zltn hg BK522; have NB523_522 := zgtn hg BK522; replace BK522 := zbb BK522 hb; clear hb hbox hg; have hnb15 := NB521_522.out; have hnc15 := NB522_521.out; have hnb16 := NB521_523.out; have hnc16 := NB523_521.out; have hcz17_0 := zh BK521; have hcz17_1 := zh1 BK521; have hfz17_0 := zfr BK521 0; have hfz17_1 := zfr BK521 1) | ((with_reducible refine gate_callee (f := 14) rfl ?_); refine goesL_ (some 16) rfl rfl Try.func14 (by kernel_rfl) rfl #[.agg #[.int .i64 a0_0, .slice A0_1 l0_1.length c0_1], .slice A1 l1.length c1] rfl y8 ?_; (with_reducible refine (impl_ValAt.calls k a0_0 (fun k_ => (((((P0_1_ k_ ∨ P2_1_ k_) ∨ w.heap.size ≤ k_) ∧ k_ ≠ gb521) ∧ k_ ≠ gb522) ∧ k_ ≠ gb523)) _ _ l0_1 _ _ l1 t524 t525 true _ ?side1 ?side2 ?side3 A4.out).mono ?_); (case side1 => exact HO0_1.out); (case side2 => exact y15 HR1.out HB.out); (case side3 => exact HC1.out); rintro e w18 ⟨v526, rfl, ho0, hb⟩; refine ⟨_, rfl, ?_⟩; replace HO0_1 := Aside0.mk (Kd.V_elder' (y10 HO0_1.out) (Kd.N_base ho0) hb); replace HO2_1 := Aside0.mk (Kd.V_elder' (y10 HO2_1.out) (Kd.N_base ho0) hb); have HO527 := Aside0.mk (Kd.N_lower (Kd.N_mono (ok' := fun k_ => ((P0_1_ k_ ∨ P2_1_ k_) ∨ w.heap.size ≤ k_) ∧ k_ ≠ gb521 ∧ k_ ≠ gb522 ∧ k_ ≠ gb523) ho0 (fun k_ hk_ => ⟨Or.elim hk_ (fun hs_ => hs_.1.1.1) (fun hn_ => (.inr (Nat.le_trans (below_size (y4 HB.out GE521.out GE522.out GE523.out)) hn_))), Or.elim hk_ (fun hs_ => hs_.1.1.2) (fun hn_ => (Kd.freshB (g := gb521) (o := .cells #[.int .i64 a0_0, .slice A0_1 l0_1.length c0_1] 25 (0, 0)) (y0 BK521.out) k_ hn_)), Or.elim hk_ (fun hs_ => hs_.1.2) (fun hn_ => (Kd.freshB (g := gb522) (o := .cells #[.int .i64 a2_0, .slice A2_1 l2_1.length c2_1] 25 (0, 0)) (y0 BK522.out) k_ hn_)), Or.elim hk_ (fun hs_ => hs_.2) (fun hn_ => (Kd.freshB (g := gb523) (o := .cells #[.int .i64 0, .slice none 0 0] 25 (0, 0)) (y0 BK523.out) k_ hn_))⟩)) (below_size (y4 HB.out GE521.out GE522.out GE523.out))); replace BK521 := zbb BK521 hb; replace BK522 := zbb BK522 hb; replace BK523 := zbb BK523 hb; replace HB := Aside0.mk (below_step (y4 HB.out GE521.out GE522.out GE523.out) hb); (try clear hb); (try clear hb2); (try clear hk); (try clear hi); (try clear ho0)) | ((with_reducible refine gate_dst (N := 8) rfl ?_); refine zbx 8 #[.int .i64 0, .slice none 0 0] 25 ?_; intro gb529 hg w19 hbox hb; replace HO0_1 := Aside0.mk (Kd.V_below (Kd.V_elderB (y10 HO0_1.out) gb529 (Nat.le_of_eq hg.symm)) hb); replace HO2_1 := Aside0.mk (Kd.V_below (Kd.V_elderB (y10 HO2_1.out) gb529 (Nat.le_of_eq hg.symm)) hb); replace HO527 := Aside0.mk (Kd.N_below (Kd.N_elderB (y3 HO527.out) gb529 (Nat.le_of_eq hg.symm)) hb); have BK529 := Aside0.mk hbox; have GW529 := Aside0.mk ((y22 hg HB.out GE521.out GE522.out GE523.out : w.heap.size ≤ gb529)); have GE529 := Aside0.mk ((y22 hg HB.out GE521.out GE522.out GE523.out : w.heap.size ≤ gb529)); replace HB := Aside0.mk (below_step (y4 HB.out GE521.out GE522.out GE523.out) hb); have NB521_529 := zltn hg BK521; have NB529_521 := zgtn hg BK521; replace BK521 := zbb BK521 hb; have NB522_529 := zltn hg BK522; have NB529_522 := zgtn hg BK522; replace BK522 := zbb BK522 hb; have NB523_529 := zltn hg BK523; have NB529_523 := zgtn hg BK523; replace BK523 := zbb BK523 hb; clear hb hbox hg; have hnb20 := NB529_521.out; have hnc20 := NB521_529.out; have hnb21 := NB529_522.out; have hnc21 := NB522_529.out; have hnb22 := NB529_523.out; have hnc22 := NB523_529.out; have hcz23_0 := zh BK529; have hcz23_1 := zh1 BK529; have hfz23_0 := zfr BK529 0; have hfz23_1 := zfr BK529 1; obtain ⟨Ao24, co24, eo24⟩ := Kd.N_slice HO527.out; subst eo24) | ((with_reducible refine gate_callee (f := 38) rfl ?_); refine goesL_ (some 24) rfl rfl Try.func38 (by kernel_rfl) rfl #[.agg #[.int .i64 t524, .slice Ao24 t525.length co24]] rfl y8 ?_; (with_reducible refine (impl_valTyped.calls k t524 _ _ t525 t530 t533 _ ?side1 ?side2 A6.out).mono ?_); (case side1 => refine (Kd.N_reads' (e := 25) (base := w.heap.size) (ok := fun k_ => ((((P0_1_ k_ ∨ P2_1_ k_) ∨ w.heap.size ≤ k_) ∧ (k_ ≠ gb521 ∧ (k_ ≠ gb522 ∧ k_ ≠ gb523))) ∧ k_ ≠ gb529)) (n := t525.length) (c := co24) ?_).2.2; exact (by (with_reducible repeat (first | apply Kd.N_alloc | apply Kd.N_drewN | apply Kd.N_drew)); exact (Kd.N_mono (Kd.N_far (p := ⟨gb529, 1, none⟩) (Kd.N_far (p := ⟨gb529, 0, none⟩) (Kd.N_mono HO527.out (fun k_ hk => (⟨hk, hk.2⟩ : _ ∧ k_ ≠ gb529))) (fun _ hk => hk.2) (.int .i64 t524)) (fun _ hk => hk.2) (.slice Ao24 t525.length co24)) (fun _ h_ => h_.1)))); (case side2 => exact (Kd.N_reads' HO527.out).2.1); rintro e w25 ⟨v531, rfl, ho0, hb⟩; refine ⟨_, rfl, ?_⟩; replace HO0_1 := Aside0.mk (Kd.V_elder' (by (with_reducible repeat (first | apply Kd.V_alloc | apply Kd.V_drewN | apply Kd.V_drew)); exact (Kd.V_mono (Kd.V_far (p := ⟨gb529, 1, none⟩) (Kd.V_far (p := ⟨gb529, 0, none⟩) (Kd.V_mono HO0_1.out (fun k_ hk => (⟨hk, hk.2⟩ : _ ∧ k_ ≠ gb529))) (fun _ hk => hk.2) (.int .i64 t524)) (fun _ hk => hk.2) (.slice Ao24 t525.length co24)) (fun _ h_ => h_.1))) (Kd.N_base ho0) hb); replace HO2_1 := Aside0.mk (Kd.V_elder' (by (with_reducible repeat (first | apply Kd.V_alloc | apply Kd.V_drewN | apply Kd.V_drew)); exact (Kd.V_mono (Kd.V_far (p := ⟨gb529, 1, none⟩) (Kd.V_far (p := ⟨gb529, 0, none⟩) (Kd.V_mono HO2_1.out (fun k_ hk => (⟨hk, hk.2⟩ : _ ∧ k_ ≠ gb529))) (fun _ hk => hk.2) (.int .i64 t524)) (fun _ hk => hk.2) (.slice Ao24 t525.length co24)) (fun _ h_ => h_.1))) (Kd.N_base ho0) hb); have HO532 := Aside0.mk (Kd.N_lower (Kd.N_mono (ok' := fun k_ => ((P0_1_ k_ ∨ P2_1_ k_) ∨ w.heap.size ≤ k_) ∧ some k_ ≠ (.slice Ao24 t525.length co24 : Value).ownBlock ∧ k_ ≠ gb521 ∧ k_ ≠ gb522 ∧ k_ ≠ gb523 ∧ k_ ≠ gb529) ho0 (fun k_ hk_ => ⟨(.inr (Nat.le_trans (below_size (y7 HB.out GE521.out GE522.out GE523.out GE529.out)) hk_)), (Kd.fresh' (Kd.N_lt (by (with_reducible repeat (first | apply Kd.N_alloc | apply Kd.N_drewN | apply Kd.N_drew)); exact (Kd.N_mono (Kd.N_far (p := ⟨gb529, 1, none⟩) (Kd.N_far (p := ⟨gb529, 0, none⟩) (Kd.N_mono HO527.out (fun k_ hk => (⟨hk, hk.2⟩ : _ ∧ k_ ≠ gb529))) (fun _ hk => hk.2) (.int .i64 t524)) (fun _ hk => hk.2) (.slice Ao24 t525.length co24)) (fun _ h_ => h_.1)))) k_ hk_), (Kd.freshB (g := gb521) (o := .cells #[.int .i64 a0_0, .slice A0_1 l0_1.length c0_1] 25 (0, 0)) (y1 NB521_529.out BK521.out) k_ hk_), (Kd.freshB (g := gb522) (o := .cells #[.int .i64 a2_0, .slice A2_1 l2_1.length c2_1] 25 (0, 0)) (y1 NB522_529.out BK522.out) k_ hk_), (Kd.freshB (g := gb523) (o := .cells #[.int .i64 0, .slice none 0 0] 25 (0, 0)) (y1 NB523_529.out BK523.out) k_ hk_), (Kd.freshB (g := gb529) (o := .cells #[.int .i64 t524, .slice Ao24 t525.length co24] 25 (0, 0)) (by (with_reducible repeat (first | refine blk_drewN ?_ _ | refine blk_drew ?_ | refine blk_alloc ?_ _)); refine blk_put (cs := #[.int .i64 t524, .slice none 0 0]) ?_ 1 _ rfl; (with_reducible repeat (first | refine blk_drewN ?_ _ | refine blk_drew ?_ | refine blk_alloc ?_ _)); apply blk_put (i := 0); (case h => exact y0 BK529.out); (case e => rfl)) k_ hk_)⟩)) (below_size (y7 HB.out GE521.out GE522.out GE523.out GE529.out))); replace HO527 := Aside0.mk (Kd.N_elder' (by (with_reducible repeat (first | apply Kd.N_alloc | apply Kd.N_drewN | apply Kd.N_drew)); exact (Kd.N_mono (Kd.N_far (p := ⟨gb529, 1, none⟩) (Kd.N_far (p := ⟨gb529, 0, none⟩) (Kd.N_mono HO527.out (fun k_ hk => (⟨hk, hk.2⟩ : _ ∧ k_ ≠ gb529))) (fun _ hk => hk.2) (.int .i64 t524)) (fun _ hk => hk.2) (.slice Ao24 t525.length co24)) (fun _ h_ => h_.1))) (Kd.N_base ho0) hb); replace BK521 := Aside0.mk (blk_below (g := gb521) (o := .cells #[.int .i64 a0_0, .slice A0_1 l0_1.length c0_1] 25 (0, 0)) (y1 NB521_529.out BK521.out) hb); replace BK522 := Aside0.mk (blk_below (g := gb522) (o := .cells #[.int .i64 a2_0, .slice A2_1 l2_1.length c2_1] 25 (0, 0)) (y1 NB522_529.out BK522.out) hb); replace BK523 := Aside0.mk (blk_below (g := gb523) (o := .cells #[.int .i64 0, .slice none 0 0] 25 (0, 0)) (y1 NB523_529.out BK523.out) hb); replace BK529 := Aside0.mk (blk_below (g := gb529) (o := .cells #[.int .i64 t524, .slice Ao24 t525.length co24] 25 (0, 0)) (by (with_reducible repeat (first | refine blk_drewN ?_ _ | refine blk_drew ?_ | refine blk_alloc ?_ _)); refine blk_put (cs := #[.int .i64 t524, .slice none 0 0]) ?_ 1 _ rfl; (with_reducible repeat (first | refine blk_drewN ?_ _ | refine blk_drew ?_ | refine blk_alloc ?_ _)); apply blk_put (i := 0); (case h => exact y0 BK529.out); (case e => rfl)) hb); replace HB := Aside0.mk (below_step (y7 HB.out GE521.out GE522.out GE523.out GE529.out) hb); (try clear hb); (try clear hb2); (try clear hk); (try clear hi); (try clear ho0)) | ((with_reducible refine gate_dst (N := 10) rfl ?_); refine zbx 10 #[.slice none 0 0] 50 ?_; intro gb534 hg w26 hbox hb; replace HO0_1 := Aside0.mk (Kd.V_below (Kd.V_elderB (y10 HO0_1.out) gb534 (Nat.le_of_eq hg.symm)) hb); replace HO2_1 := Aside0.mk (Kd.V_below (Kd.V_elderB (y10 HO2_1.out) gb534 (Nat.le_of_eq hg.symm)) hb); replace HO527 := Aside0.mk (Kd.N_below (Kd.N_elderB (y3 HO527.out) gb534 (Nat.le_of_eq hg.symm)) hb); replace HO532 := Aside0.mk (Kd.N_below (Kd.N_elderB (y3 HO532.out) gb534 (Nat.le_of_eq hg.symm)) hb); have BK534 := Aside0.mk hbox; have GW534 := Aside0.mk ((y27 hg HB.out GE521.out GE522.out GE523.out GE529.out : w.heap.size ≤ gb534)); have GE534 := Aside0.mk ((y27 hg HB.out GE521.out GE522.out GE523.out GE529.out : w.heap.size ≤ gb534)); replace HB := Aside0.mk (below_step (y7 HB.out GE521.out GE522.out GE523.out GE529.out) hb); have NB521_534 := zltn hg BK521; have NB534_521 := zgtn hg BK521; replace BK521 := zbb BK521 hb; have NB522_534 := zltn hg BK522; have NB534_522 := zgtn hg BK522; replace BK522 := zbb BK522 hb; have NB523_534 := zltn hg BK523; have NB534_523 := zgtn hg BK523; replace BK523 := zbb BK523 hb; have NB529_534 := zltn hg BK529; have NB534_529 := zgtn hg BK529; replace BK529 := zbb BK529 hb; clear hb hbox hg; obtain ⟨Ao27, co27, eo27⟩ := Kd.N_slice HO532.out; subst eo27; have hnb28 := NB534_521.out; have hnc28 := NB521_534.out; have hnb29 := NB534_522.out; have hnc29 := NB522_534.out; have hnb30 := NB534_523.out; have hnc30 := NB523_534.out; have hnb31 := NB534_529.out; have hnc31 := NB529_534.out; have hcz32_0 := zh BK534; have hfz32_0 := zfr BK534 0; have hnb33 := NB522_523.out; have hnc33 := NB523_522.out; have hcz34_0 := zh BK522; have hcz34_1 := zh1 BK522; have hfz34_0 := zfr BK522 0; have hfz34_1 := zfr BK522 1) | ((with_reducible refine gate_callee (f := 38) rfl ?_); refine goesL_ (some 29) rfl rfl Try.func38 (by kernel_rfl) rfl #[.agg #[.int .i64 a2_0, .slice A2_1 l2_1.length c2_1]] rfl y8 ?_; (with_reducible refine (impl_valTyped.calls k a2_0 _ _ l2_1 t535 true _ ?side1 ?side2 A7.out).mono ?_); (case side1 => refine (Kd.V_reads' (e := 25) (base := w.heap.size) (ok := fun k_ => (((((((((P0_1_ k_ ∨ P2_1_ k_) ∨ w.heap.size ≤ k_) ∧ k_ ≠ gb521) ∧ k_ ≠ gb522) ∧ k_ ≠ gb523) ∧ some k_ ≠ (.slice Ao24 t525.length co24 : Value).ownBlock) ∧ k_ ≠ gb529) ∧ some k_ ≠ (.slice Ao27 t530.length co27 : Value).ownBlock) ∧ k_ ≠ gb534)) (n := l2_1.length) (c := c2_1) ?_).2.2; exact (by (with_reducible repeat (first | apply Kd.V_alloc | apply Kd.V_drewN | apply Kd.V_drew)); exact (Kd.V_mono (Kd.V_far (p := ⟨gb534, 0, none⟩) (Kd.V_mono HO2_1.out (fun k_ hk => (⟨hk, hk.2⟩ : _ ∧ k_ ≠ gb534))) (fun _ hk => hk.2) (.slice Ao27 t530.length co27)) (fun _ h_ => h_.1)))); (case side2 => exact (Kd.V_reads' HO2_1.out).2.1); rintro e w35 ⟨v536, rfl, ho0, hb⟩; refine ⟨_, rfl, ?_⟩; replace HO0_1 := Aside0.mk (Kd.V_elder' (by (with_reducible repeat (first | apply Kd.V_alloc | apply Kd.V_drewN | apply Kd.V_drew)); exact (Kd.V_mono (Kd.V_far (p := ⟨gb534, 0, none⟩) (Kd.V_mono HO0_1.out (fun k_ hk => (⟨hk, hk.2⟩ : _ ∧ k_ ≠ gb534))) (fun _ hk => hk.2) (.slice Ao27 t530.length co27)) (fun _ h_ => h_.1))) (Kd.N_base ho0) hb); replace HO2_1 := Aside0.mk (Kd.V_elder' (by (with_reducible repeat (first | apply Kd.V_alloc | apply Kd.V_drewN | apply Kd.V_drew)); exact (Kd.V_mono (Kd.V_far (p := ⟨gb534, 0, none⟩) (Kd.V_mono HO2_1.out (fun k_ hk => (⟨hk, hk.2⟩ : _ ∧ k_ ≠ gb534))) (fun _ hk => hk.2) (.slice Ao27 t530.length co27)) (fun _ h_ => h_.1))) (Kd.N_base ho0) hb); have HO537 := Aside0.mk (Kd.N_lower (Kd.N_mono (ok' := fun k_ => ((P0_1_ k_ ∨ P2_1_ k_) ∨ w.heap.size ≤ k_) ∧ some k_ ≠ (.slice Ao24 t525.length co24 : Value).ownBlock ∧ some k_ ≠ (.slice Ao27 t530.length co27 : Value).ownBlock ∧ k_ ≠ gb521 ∧ k_ ≠ gb522 ∧ k_ ≠ gb523 ∧ k_ ≠ gb529 ∧ k_ ≠ gb534) ho0 (fun k_ hk_ => ⟨(.inr (Nat.le_trans (below_size (y14 HB.out GE521.out GE522.out GE523.out GE529.out GE534.out)) hk_)), (Kd.fresh' (Kd.N_lt (by (with_reducible repeat (first | apply Kd.N_alloc | apply Kd.N_drewN | apply Kd.N_drew)); exact (Kd.N_mono (Kd.N_far (p := ⟨gb534, 0, none⟩) (Kd.N_mono HO527.out (fun k_ hk => (⟨hk, hk.2⟩ : _ ∧ k_ ≠ gb534))) (fun _ hk => hk.2) (.slice Ao27 t530.length co27)) (fun _ h_ => h_.1)))) k_ hk_), (Kd.fresh' (Kd.N_lt (by (with_reducible repeat (first | apply Kd.N_alloc | apply Kd.N_drewN | apply Kd.N_drew)); exact (Kd.N_mono (Kd.N_far (p := ⟨gb534, 0, none⟩) (Kd.N_mono HO532.out (fun k_ hk => (⟨hk, hk.2⟩ : _ ∧ k_ ≠ gb534))) (fun _ hk => hk.2) (.slice Ao27 t530.length co27)) (fun _ h_ => h_.1)))) k_ hk_), (Kd.freshB (g := gb521) (o := .cells #[.int .i64 a0_0, .slice A0_1 l0_1.length c0_1] 25 (0, 0)) (y13 NB521_534.out BK521.out) k_ hk_), (Kd.freshB (g := gb522) (o := .cells #[.int .i64 a2_0, .slice A2_1 l2_1.length c2_1] 25 (0, 0)) (y13 NB522_534.out BK522.out) k_ hk_), (Kd.freshB (g := gb523) (o := .cells #[.int .i64 0, .slice none 0 0] 25 (0, 0)) (y13 NB523_534.out BK523.out) k_ hk_), (Kd.freshB (g := gb529) (o := .cells #[.int .i64 t524, .slice Ao24 t525.length co24] 25 (0, 0)) (y13 NB529_534.out BK529.out) k_ hk_), (Kd.freshB (g := gb534) (o := .cells #[.slice Ao27 t530.length co27] 50 (0, 0)) (by (with_reducible repeat (first | refine blk_drewN ?_ _ | refine blk_drew ?_ | refine blk_alloc ?_ _)); apply blk_put (i := 0); (case h => exact y0 BK534.out); (case e => rfl)) k_ hk_)⟩)) (below_size (y14 HB.out GE521.out GE522.out GE523.out GE529.out GE534.out))); replace HO527 := Aside0.mk (Kd.N_elder' (by (with_reducible repeat (first | apply Kd.N_alloc | apply Kd.N_drewN | apply Kd.N_drew)); exact (Kd.N_mono (Kd.N_far (p := ⟨gb534, 0, none⟩) (Kd.N_mono HO527.out (fun k_ hk => (⟨hk, hk.2⟩ : _ ∧ k_ ≠ gb534))) (fun _ hk => hk.2) (.slice Ao27 t530.length co27)) (fun _ h_ => h_.1))) (Kd.N_base ho0) hb); replace HO532 := Aside0.mk (Kd.N_elder' (by (with_reducible repeat (first | apply Kd.N_alloc | apply Kd.N_drewN | apply Kd.N_drew)); exact (Kd.N_mono (Kd.N_far (p := ⟨gb534, 0, none⟩) (Kd.N_mono HO532.out (fun k_ hk => (⟨hk, hk.2⟩ : _ ∧ k_ ≠ gb534))) (fun _ hk => hk.2) (.slice Ao27 t530.length co27)) (fun _ h_ => h_.1))) (Kd.N_base ho0) hb); replace BK521 := zbf BK521 NB521_534 hb; replace BK522 := zbf BK522 NB522_534 hb; replace BK523 := zbf BK523 NB523_534 hb; replace BK529 := zbf BK529 NB529_534 hb; replace BK534 := Aside0.mk (blk_below (g := gb534) (o := .cells #[.slice Ao27 t530.length co27] 50 (0, 0)) (by (with_reducible repeat (first | refine blk_drewN ?_ _ | refine blk_drew ?_ | refine blk_alloc ?_ _)); apply blk_put (i := 0); (case h => exact y0 BK534.out); (case e => rfl)) hb); replace HB := Aside0.mk (below_step (y14 HB.out GE521.out GE522.out GE523.out GE529.out GE534.out) hb); (try clear hb); (try clear hb2); (try clear hk); (try clear hi); (try clear ho0)) | ((with_reducible refine gate_dst (N := 12) rfl ?_); refine zbx 12 #[.slice none 0 0] 50 ?_; intro gb539 hg w36 hbox hb; replace HO0_1 := Aside0.mk (Kd.V_below (Kd.V_elderB (y10 HO0_1.out) gb539 (Nat.le_of_eq hg.symm)) hb); replace HO2_1 := Aside0.mk (Kd.V_below (Kd.V_elderB (y10 HO2_1.out) gb539 (Nat.le_of_eq hg.symm)) hb); replace HO527 := Aside0.mk (Kd.N_below (Kd.N_elderB (y3 HO527.out) gb539 (Nat.le_of_eq hg.symm)) hb); replace HO532 := Aside0.mk (Kd.N_below (Kd.N_elderB (y3 HO532.out) gb539 (Nat.le_of_eq hg.symm)) hb); replace HO537 := Aside0.mk (Kd.N_below (Kd.N_elderB (y3 HO537.out) gb539 (Nat.le_of_eq hg.symm)) hb); have BK539 := Aside0.mk hbox; have GW539 := Aside0.mk ((y32 hg HB.out GE521.out GE522.out GE523.out GE529.out GE534.out : w.heap.size ≤ gb539)); have GE539 := Aside0.mk ((y32 hg HB.out GE521.out GE522.out GE523.out GE529.out GE534.out : w.heap.size ≤ gb539)); replace HB := Aside0.mk (below_step (y14 HB.out GE521.out GE522.out GE523.out GE529.out GE534.out) hb); have NB521_539 := zltn hg BK521; have NB539_521 := zgtn hg BK521; replace BK521 := zbb BK521 hb; have NB522_539 := zltn hg BK522; have NB539_522 := zgtn hg BK522; replace BK522 := zbb BK522 hb; have NB523_539 := zltn hg BK523; have NB539_523 := zgtn hg BK523; replace BK523 := zbb BK523 hb; have NB529_539 := zltn hg BK529; have NB539_529 := zgtn hg BK529; replace BK529 := zbb BK529 hb; have NB534_539 := zltn hg BK534; have NB539_534 := zgtn hg BK534; replace BK534 := zbb BK534 hb; clear hb hbox hg; obtain ⟨Ao37, co37, eo37⟩ := Kd.N_slice HO537.out; subst eo37; have hnb38 := NB539_521.out; have hnc38 := NB521_539.out; have hnb39 := NB539_522.out; have hnc39 := NB522_539.out; have hnb40 := NB539_523.out; have hnc40 := NB523_539.out; have hnb41 := NB539_529.out; have hnc41 := NB529_539.out; have hnb42 := NB539_534.out; have hnc42 := NB534_539.out; have hcz43_0 := zh BK539; have hfz43_0 := zfr BK539 0; have hcz44_0 := zh BK534; have hfz44_0 := zfr BK534 0) | (go_at_call 46; (with_reducible refine (impl_typeSame.calls k _ _ t530 _ _ t535 true _ ?side1 ?side2 ?side3 ?side4 A9.out).mono ?_); (case side1 => refine (Kd.N_reads' (e := 50) (base := w.heap.size) (ok := fun k_ => ((((((P0_1_ k_ ∨ P2_1_ k_) ∨ w.heap.size ≤ k_) ∧ (some k_ ≠ (.slice Ao24 t525.length co24 : Value).ownBlock ∧ (k_ ≠ gb521 ∧ (k_ ≠ gb522 ∧ (k_ ≠ gb523 ∧ k_ ≠ gb529))))) ∧ k_ ≠ gb534) ∧ some k_ ≠ (.slice Ao37 t535.length co37 : Value).ownBlock) ∧ k_ ≠ gb539)) (n := t530.length) (c := co27) ?_).2.2; exact (by (with_reducible repeat (first | apply Kd.N_alloc | apply Kd.N_drewN | apply Kd.N_drew)); exact (Kd.N_mono (Kd.N_far (p := ⟨gb539, 0, none⟩) (Kd.N_mono HO532.out (fun k_ hk => (⟨hk, hk.2⟩ : _ ∧ k_ ≠ gb539))) (fun _ hk => hk.2) (.slice Ao37 t535.length co37)) (fun _ h_ => h_.1)))); (case side2 => exact (Kd.N_reads' HO532.out).2.1); (case side3 => refine (Kd.N_reads' (e := 50) (base := w.heap.size) (ok := fun k_ => ((((P0_1_ k_ ∨ P2_1_ k_) ∨ w.heap.size ≤ k_) ∧ (some k_ ≠ (.slice Ao24 t525.length co24 : Value).ownBlock ∧ (some k_ ≠ (.slice Ao27 t530.length co27 : Value).ownBlock ∧ (k_ ≠ gb521 ∧ (k_ ≠ gb522 ∧ (k_ ≠ gb523 ∧ (k_ ≠ gb529 ∧ k_ ≠ gb534))))))) ∧ k_ ≠ gb539)) (n := t535.length) (c := co37) ?_).2.2; exact (by (with_reducible repeat (first | apply Kd.N_alloc | apply Kd.N_drewN | apply Kd.N_drew)); exact (Kd.N_mono (Kd.N_far (p := ⟨gb539, 0, none⟩) (Kd.N_mono HO537.out (fun k_ hk => (⟨hk, hk.2⟩ : _ ∧ k_ ≠ gb539))) (fun _ hk => hk.2) (.slice Ao37 t535.length co37)) (fun _ h_ => h_.1)))); (case side4 => exact (Kd.N_reads' HO537.out).2.1); rintro e w45 ⟨rfl, hb⟩; replace HO0_1 := Aside0.mk (Kd.V_below (by (with_reducible repeat (first | apply Kd.V_alloc | apply Kd.V_drewN | apply Kd.V_drew)); exact (Kd.V_mono (Kd.V_far (p := ⟨gb539, 0, none⟩) (Kd.V_mono HO0_1.out (fun k_ hk => (⟨hk, hk.2⟩ : _ ∧ k_ ≠ gb539))) (fun _ hk => hk.2) (.slice Ao37 t535.length co37)) (fun _ h_ => h_.1))) hb); replace HO2_1 := Aside0.mk (Kd.V_below (by (with_reducible repeat (first | apply Kd.V_alloc | apply Kd.V_drewN | apply Kd.V_drew)); exact (Kd.V_mono (Kd.V_far (p := ⟨gb539, 0, none⟩) (Kd.V_mono HO2_1.out (fun k_ hk => (⟨hk, hk.2⟩ : _ ∧ k_ ≠ gb539))) (fun _ hk => hk.2) (.slice Ao37 t535.length co37)) (fun _ h_ => h_.1))) hb); replace HO527 := Aside0.mk (Kd.N_below (by (with_reducible repeat (first | apply Kd.N_alloc | apply Kd.N_drewN | apply Kd.N_drew)); exact (Kd.N_mono (Kd.N_far (p := ⟨gb539, 0, none⟩) (Kd.N_mono HO527.out (fun k_ hk => (⟨hk, hk.2⟩ : _ ∧ k_ ≠ gb539))) (fun _ hk => hk.2) (.slice Ao37 t535.length co37)) (fun _ h_ => h_.1))) hb); replace HO532 := Aside0.mk (Kd.N_below (by (with_reducible repeat (first | apply Kd.N_alloc | apply Kd.N_drewN | apply Kd.N_drew)); exact (Kd.N_mono (Kd.N_far (p := ⟨gb539, 0, none⟩) (Kd.N_mono HO532.out (fun k_ hk => (⟨hk, hk.2⟩ : _ ∧ k_ ≠ gb539))) (fun _ hk => hk.2) (.slice Ao37 t535.length co37)) (fun _ h_ => h_.1))) hb); replace HO537 := Aside0.mk (Kd.N_below (by (with_reducible repeat (first | apply Kd.N_alloc | apply Kd.N_drewN | apply Kd.N_drew)); exact (Kd.N_mono (Kd.N_far (p := ⟨gb539, 0, none⟩) (Kd.N_mono HO537.out (fun k_ hk => (⟨hk, hk.2⟩ : _ ∧ k_ ≠ gb539))) (fun _ hk => hk.2) (.slice Ao37 t535.length co37)) (fun _ h_ => h_.1))) hb); replace BK521 := zbf BK521 NB521_539 hb; replace BK522 := zbf BK522 NB522_539 hb; replace BK523 := zbf BK523 NB523_539 hb; replace BK529 := zbf BK529 NB529_539 hb; replace BK534 := zbf BK534 NB534_539 hb; replace BK539 := Aside0.mk (blk_below (g := gb539) (o := .cells #[.slice Ao37 t535.length co37] 50 (0, 0)) (by (with_reducible repeat (first | refine blk_drewN ?_ _ | refine blk_drew ?_ | refine blk_alloc ?_ _)); apply blk_put (i := 0); (case h => exact y0 BK539.out); (case e => rfl)) hb); replace HB := Aside0.mk (below_step (y20 HB.out GE521.out GE522.out GE523.out GE529.out GE534.out GE539.out) hb); (try clear hb); (try clear hb2); (try clear hk); (try clear hi); have hcz46_0 := zh BK521; have hcz46_1 := zh1 BK521; have hfz46_0 := zfr BK521 0; have hfz46_1 := zfr BK521 1; have hcz47_0 := zh BK522; have hcz47_1 := zh1 BK522; have hfz47_0 := zfr BK522 0; have hfz47_1 := zfr BK522 1) | ((with_reducible refine gate_callee (f := 47) rfl ?_); refine goesL_ (some 44) rfl rfl Try.func47 (by kernel_rfl) rfl #[.agg #[.int .i64 a0_0, .slice A0_1 l0_1.length c0_1], .slice A1 l1.length c1, .agg #[.int .i64 a2_0, .slice A2_1 l2_1.length c2_1]] rfl y8 ?_; (with_reducible refine (impl_valWith.calls k a0_0 (fun k_ => (((((((((((P0_1_ k_ ∨ P2_1_ k_) ∨ w.heap.size ≤ k_) ∧ k_ ≠ gb521) ∧ k_ ≠ gb522) ∧ k_ ≠ gb523) ∧ some k_ ≠ (.slice Ao24 t525.length co24 : Value).ownBlock) ∧ k_ ≠ gb529) ∧ some k_ ≠ (.slice Ao27 t530.length co27 : Value).ownBlock) ∧ k_ ≠ gb534) ∧ some k_ ≠ (.slice Ao37 t535.length co37 : Value).ownBlock) ∧ k_ ≠ gb539)) _ _ l0_1 _ _ l1 a2_0 (fun k_ => (((((((((((P0_1_ k_ ∨ P2_1_ k_) ∨ w.heap.size ≤ k_) ∧ k_ ≠ gb521) ∧ k_ ≠ gb522) ∧ k_ ≠ gb523) ∧ some k_ ≠ (.slice Ao24 t525.length co24 : Value).ownBlock) ∧ k_ ≠ gb529) ∧ some k_ ≠ (.slice Ao27 t530.length co27 : Value).ownBlock) ∧ k_ ≠ gb534) ∧ some k_ ≠ (.slice Ao37 t535.length co37 : Value).ownBlock) ∧ k_ ≠ gb539)) _ _ l2_1 t541 t542 _ ?side1 ?side2 ?side3 ?side4 A11.out).mono ?_); (case side1 => exact HO0_1.out); (case side2 => exact y15 HR1.out HB.out); (case side3 => exact HC1.out); (case side4 => exact HO2_1.out); rintro e w48 ⟨v543, rfl, ho0, hb⟩; refine ⟨_, rfl, ?_⟩; replace HO0_1 := Aside0.mk (Kd.V_elder' (y10 HO0_1.out) (Kd.N_base ho0) hb); replace HO2_1 := Aside0.mk (Kd.V_elder' (y10 HO2_1.out) (Kd.N_base ho0) hb); have HO544 := Aside0.mk (Kd.N_lower (Kd.N_mono (ok' := fun k_ => ((P0_1_ k_ ∨ P2_1_ k_) ∨ w.heap.size ≤ k_) ∧ some k_ ≠ (.slice Ao24 t525.length co24 : Value).ownBlock ∧ some k_ ≠ (.slice Ao27 t530.length co27 : Value).ownBlock ∧ some k_ ≠ (.slice Ao37 t535.length co37 : Value).ownBlock ∧ k_ ≠ gb521 ∧ k_ ≠ gb522 ∧ k_ ≠ gb523 ∧ k_ ≠ gb529 ∧ k_ ≠ gb534 ∧ k_ ≠ gb539) ho0 (fun k_ hk_ => ⟨Or.elim hk_ (fun hs_ => Or.elim hs_ (fun hs_ => hs_.1.1.1.1.1.1.1.1.1) (fun hs_ => hs_.1.1.1.1.1.1.1.1.1)) (fun hn_ => (.inr (Nat.le_trans (below_size (y20 HB.out GE521.out GE522.out GE523.out GE529.out GE534.out GE539.out)) hn_))), Or.elim hk_ (fun hs_ => Or.elim hs_ (fun hs_ => hs_.1.1.1.1.1.2) (fun hs_ => hs_.1.1.1.1.1.2)) (fun hn_ => (Kd.fresh' (Kd.N_lt (y3 HO527.out)) k_ hn_)), Or.elim hk_ (fun hs_ => Or.elim hs_ (fun hs_ => hs_.1.1.1.2) (fun hs_ => hs_.1.1.1.2)) (fun hn_ => (Kd.fresh' (Kd.N_lt (y3 HO532.out)) k_ hn_)), Or.elim hk_ (fun hs_ => Or.elim hs_ (fun hs_ => hs_.1.2) (fun hs_ => hs_.1.2)) (fun hn_ => (Kd.fresh' (Kd.N_lt (y3 HO537.out)) k_ hn_)), Or.elim hk_ (fun hs_ => Or.elim hs_ (fun hs_ => hs_.1.1.1.1.1.1.1.1.2) (fun hs_ => hs_.1.1.1.1.1.1.1.1.2)) (fun hn_ => (Kd.freshB (g := gb521) (o := .cells #[.int .i64 a0_0, .slice A0_1 l0_1.length c0_1] 25 (0, 0)) (y0 BK521.out) k_ hn_)), Or.elim hk_ (fun hs_ => Or.elim hs_ (fun hs_ => hs_.1.1.1.1.1.1.1.2) (fun hs_ => hs_.1.1.1.1.1.1.1.2)) (fun hn_ => (Kd.freshB (g := gb522) (o := .cells #[.int .i64 a2_0, .slice A2_1 l2_1.length c2_1] 25 (0, 0)) (y0 BK522.out) k_ hn_)), Or.elim hk_ (fun hs_ => Or.elim hs_ (fun hs_ => hs_.1.1.1.1.1.1.2) (fun hs_ => hs_.1.1.1.1.1.1.2)) (fun hn_ => (Kd.freshB (g := gb523) (o := .cells #[.int .i64 0, .slice none 0 0] 25 (0, 0)) (y0 BK523.out) k_ hn_)), Or.elim hk_ (fun hs_ => Or.elim hs_ (fun hs_ => hs_.1.1.1.1.2) (fun hs_ => hs_.1.1.1.1.2)) (fun hn_ => (Kd.freshB (g := gb529) (o := .cells #[.int .i64 t524, .slice Ao24 t525.length co24] 25 (0, 0)) (y0 BK529.out) k_ hn_)), Or.elim hk_ (fun hs_ => Or.elim hs_ (fun hs_ => hs_.1.1.2) (fun hs_ => hs_.1.1.2)) (fun hn_ => (Kd.freshB (g := gb534) (o := .cells #[.slice Ao27 t530.length co27] 50 (0, 0)) (y0 BK534.out) k_ hn_)), Or.elim hk_ (fun hs_ => Or.elim hs_ (fun hs_ => hs_.2) (fun hs_ => hs_.2)) (fun hn_ => (Kd.freshB (g := gb539) (o := .cells #[.slice Ao37 t535.length co37] 50 (0, 0)) (y0 BK539.out) k_ hn_))⟩)) (below_size (y20 HB.out GE521.out GE522.out GE523.out GE529.out GE534.out GE539.out))); replace HO527 := Aside0.mk (Kd.N_elder' (y3 HO527.out) (Kd.N_base ho0) hb); replace HO532 := Aside0.mk (Kd.N_elder' (y3 HO532.out) (Kd.N_base ho0) hb); replace HO537 := Aside0.mk (Kd.N_elder' (y3 HO537.out) (Kd.N_base ho0) hb); replace BK521 := zbb BK521 hb; replace BK522 := zbb BK522 hb; replace BK523 := zbb BK523 hb; replace BK529 := zbb BK529 hb; replace BK534 := zbb BK534 hb; replace BK539 := zbb BK539 hb; replace HB := Aside0.mk (below_step (y20 HB.out GE521.out GE522.out GE523.out GE529.out GE534.out GE539.out) hb); (try clear hb); (try clear hb2); (try clear hk); (try clear hi); (try clear ho0); have hcz49_0 := zh BK523; have hcz49_1 := zh1 BK523; have hfz49_0 := zfr BK523 0; have hfz49_1 := zfr BK523 1; obtain ⟨Ao50, co50, eo50⟩ := Kd.N_slice HO544.out; subst eo50))
    refine bodyPost_ret (results_ct rfl _ _ gb523 25 #[.int .i64 t541, .slice Ao50 t542.length co50] (0, 0) _ rfl (by (with_reducible repeat (first | refine blk_drewN ?_ _ | refine blk_drew ?_ | refine blk_alloc ?_ _)); refine blk_put (cs := #[.int .i64 t541, .slice none 0 0]) ?_ 1 _ rfl; (with_reducible repeat (first | refine blk_drewN ?_ _ | refine blk_drew ?_ | refine blk_alloc ?_ _)); apply blk_put (i := 0); (case h => exact y0 BK523.out); (case e => rfl)) Try.underlying25 rfl (by kernel_rfl)) rfl ?_
    exact ⟨_, y19, (by (with_reducible repeat (first | apply Kd.N_alloc | apply Kd.N_drewN | apply Kd.N_drew)); exact Kd.N_mono (Kd.N_far (p := ⟨gb523, 1, none⟩) (Kd.N_far (p := ⟨gb523, 0, none⟩) (Kd.N_mono HO544.out (fun k_ hk => (⟨hk, hk.2.2.2.2.2.2.1⟩ : _ ∧ k_ ≠ gb523))) (fun _ hk => hk.2) (.int .i64 t541)) (fun _ hk => hk.2) (.slice Ao50 t542.length co50)) (fun _ hk => hk.1.1)), (y20 HB.out GE521.out GE522.out GE523.out GE529.out GE534.out GE539.out)⟩
   ·replace c10 := Bool.eq_false_iff.mpr c10
    subst c10
    rw [if_neg (show ¬ (false = true) by decide)] at H
    simp only [Option.some.injEq, Prod.mk.injEq] at H
    obtain ⟨rfl, rfl, rfl⟩ := H
    go_enter Try.func24, Try.ntmps24
    go_wp2_with (first | ((with_reducible refine gate_dst (N := 3) rfl ?_); refine zbx 3 #[.int .i64 a0_0, .slice A0_1 l0_1.length c0_1] 25 ?_; intro gb521 hg w51 hbox hb; replace HO0_1 := Aside0.mk (Kd.V_below (Kd.V_elderB (y10 HO0_1.out) gb521 (Nat.le_of_eq hg.symm)) hb); replace HO2_1 := Aside0.mk (Kd.V_below (Kd.V_elderB (y10 HO2_1.out) gb521 (Nat.le_of_eq hg.symm)) hb); have BK521 := Aside0.mk hbox; have GW521 := Aside0.mk ((y9 hg HB.out : w.heap.size ≤ gb521)); have GE521 := Aside0.mk ((y9 hg HB.out : w.heap.size ≤ gb521)); replace HB := Aside0.mk (below_step (y5 HB.out) hb); clear hb hbox hg) | ((with_reducible refine gate_dst (N := 5) rfl ?_); refine zbx 5 #[.int .i64 a2_0, .slice A2_1 l2_1.length c2_1] 25 ?_; intro gb522 hg w52 hbox hb; replace HO0_1 := Aside0.mk (Kd.V_below (Kd.V_elderB (y10 HO0_1.out) gb522 (Nat.le_of_eq hg.symm)) hb); replace HO2_1 := Aside0.mk (Kd.V_below (Kd.V_elderB (y10 HO2_1.out) gb522 (Nat.le_of_eq hg.symm)) hb); have BK522 := Aside0.mk hbox; have GW522 := Aside0.mk ((y11 hg HB.out GE521.out : w.heap.size ≤ gb522)); have GE522 := Aside0.mk ((y11 hg HB.out GE521.out : w.heap.size ≤ gb522)); replace HB := Aside0.mk (below_step (y6 HB.out GE521.out) hb); have NB521_522 := zltn hg BK521; have NB522_521 := zgtn hg BK521; replace BK521 := zbb BK521 hb; clear hb hbox hg) | ((with_reducible refine gate_dst (N := 6) rfl ?_); refine zbx 6 #[.int .i64 0, .slice none 0 0] 25 ?_; intro gb523 hg w53 hbox hb; replace HO0_1 := Aside0.mk (Kd.V_below (Kd.V_elderB (y10 HO0_1.out) gb523 (Nat.le_of_eq hg.symm)) hb); replace HO2_1 := Aside0.mk (Kd.V_below (Kd.V_elderB (y10 HO2_1.out) gb523 (Nat.le_of_eq hg.symm)) hb); have BK523 := Aside0.mk hbox; have GW523 := Aside0.mk ((y16 hg HB.out GE521.out GE522.out : w.heap.size ≤ gb523)); have GE523 := Aside0.mk ((y16 hg HB.out GE521.out GE522.out : w.heap.size ≤ gb523)); replace HB := Aside0.mk (below_step (y2 HB.out GE521.out GE522.out) hb); have NB521_523 := zltn hg BK521; have NB523_521 := zgtn hg BK521; replace BK521 := zbb BK521 hb; have NB522_523 := zltn hg BK522; have NB523_522 := zgtn hg BK522; replace BK522 := zbb BK522 hb; clear hb hbox hg; have hnb54 := NB521_522.out; have hnc54 := NB522_521.out; have hnb55 := NB521_523.out; have hnc55 := NB523_521.out; have hcz56_0 := zh BK521; have hcz56_1 := zh1 BK521; have hfz56_0 := zfr BK521 0; have hfz56_1 := zfr BK521 1) | ((with_reducible refine gate_callee (f := 14) rfl ?_); refine goesL_ (some 16) rfl rfl Try.func14 (by kernel_rfl) rfl #[.agg #[.int .i64 a0_0, .slice A0_1 l0_1.length c0_1], .slice A1 l1.length c1] rfl y8 ?_; (with_reducible refine (impl_ValAt.calls k a0_0 (fun k_ => (((((P0_1_ k_ ∨ P2_1_ k_) ∨ w.heap.size ≤ k_) ∧ k_ ≠ gb521) ∧ k_ ≠ gb522) ∧ k_ ≠ gb523)) _ _ l0_1 _ _ l1 t524 t525 true _ ?side1 ?side2 ?side3 A4.out).mono ?_); (case side1 => exact HO0_1.out); (case side2 => exact y15 HR1.out HB.out); (case side3 => exact HC1.out); rintro e w57 ⟨v526, rfl, ho0, hb⟩; refine ⟨_, rfl, ?_⟩; replace HO0_1 := Aside0.mk (Kd.V_elder' (y10 HO0_1.out) (Kd.N_base ho0) hb); replace HO2_1 := Aside0.mk (Kd.V_elder' (y10 HO2_1.out) (Kd.N_base ho0) hb); have HO527 := Aside0.mk (Kd.N_lower (Kd.N_mono (ok' := fun k_ => ((P0_1_ k_ ∨ P2_1_ k_) ∨ w.heap.size ≤ k_) ∧ k_ ≠ gb521 ∧ k_ ≠ gb522 ∧ k_ ≠ gb523) ho0 (fun k_ hk_ => ⟨Or.elim hk_ (fun hs_ => hs_.1.1.1) (fun hn_ => (.inr (Nat.le_trans (below_size (y4 HB.out GE521.out GE522.out GE523.out)) hn_))), Or.elim hk_ (fun hs_ => hs_.1.1.2) (fun hn_ => (Kd.freshB (g := gb521) (o := .cells #[.int .i64 a0_0, .slice A0_1 l0_1.length c0_1] 25 (0, 0)) (y0 BK521.out) k_ hn_)), Or.elim hk_ (fun hs_ => hs_.1.2) (fun hn_ => (Kd.freshB (g := gb522) (o := .cells #[.int .i64 a2_0, .slice A2_1 l2_1.length c2_1] 25 (0, 0)) (y0 BK522.out) k_ hn_)), Or.elim hk_ (fun hs_ => hs_.2) (fun hn_ => (Kd.freshB (g := gb523) (o := .cells #[.int .i64 0, .slice none 0 0] 25 (0, 0)) (y0 BK523.out) k_ hn_))⟩)) (below_size (y4 HB.out GE521.out GE522.out GE523.out))); replace BK521 := zbb BK521 hb; replace BK522 := zbb BK522 hb; replace BK523 := zbb BK523 hb; replace HB := Aside0.mk (below_step (y4 HB.out GE521.out GE522.out GE523.out) hb); (try clear hb); (try clear hb2); (try clear hk); (try clear hi); (try clear ho0)) | ((with_reducible refine gate_dst (N := 8) rfl ?_); refine zbx 8 #[.int .i64 0, .slice none 0 0] 25 ?_; intro gb529 hg w58 hbox hb; replace HO0_1 := Aside0.mk (Kd.V_below (Kd.V_elderB (y10 HO0_1.out) gb529 (Nat.le_of_eq hg.symm)) hb); replace HO2_1 := Aside0.mk (Kd.V_below (Kd.V_elderB (y10 HO2_1.out) gb529 (Nat.le_of_eq hg.symm)) hb); replace HO527 := Aside0.mk (Kd.N_below (Kd.N_elderB (y3 HO527.out) gb529 (Nat.le_of_eq hg.symm)) hb); have BK529 := Aside0.mk hbox; have GW529 := Aside0.mk ((y22 hg HB.out GE521.out GE522.out GE523.out : w.heap.size ≤ gb529)); have GE529 := Aside0.mk ((y22 hg HB.out GE521.out GE522.out GE523.out : w.heap.size ≤ gb529)); replace HB := Aside0.mk (below_step (y4 HB.out GE521.out GE522.out GE523.out) hb); have NB521_529 := zltn hg BK521; have NB529_521 := zgtn hg BK521; replace BK521 := zbb BK521 hb; have NB522_529 := zltn hg BK522; have NB529_522 := zgtn hg BK522; replace BK522 := zbb BK522 hb; have NB523_529 := zltn hg BK523; have NB529_523 := zgtn hg BK523; replace BK523 := zbb BK523 hb; clear hb hbox hg; have hnb59 := NB529_521.out; have hnc59 := NB521_529.out; have hnb60 := NB529_522.out; have hnc60 := NB522_529.out; have hnb61 := NB529_523.out; have hnc61 := NB523_529.out; have hcz62_0 := zh BK529; have hcz62_1 := zh1 BK529; have hfz62_0 := zfr BK529 0; have hfz62_1 := zfr BK529 1; obtain ⟨Ao63, co63, eo63⟩ := Kd.N_slice HO527.out; subst eo63) | ((with_reducible refine gate_callee (f := 38) rfl ?_); refine goesL_ (some 24) rfl rfl Try.func38 (by kernel_rfl) rfl #[.agg #[.int .i64 t524, .slice Ao63 t525.length co63]] rfl y8 ?_; (with_reducible refine (impl_valTyped.calls k t524 _ _ t525 t530 t533 _ ?side1 ?side2 A6.out).mono ?_); (case side1 => refine (Kd.N_reads' (e := 25) (base := w.heap.size) (ok := fun k_ => ((((P0_1_ k_ ∨ P2_1_ k_) ∨ w.heap.size ≤ k_) ∧ (k_ ≠ gb521 ∧ (k_ ≠ gb522 ∧ k_ ≠ gb523))) ∧ k_ ≠ gb529)) (n := t525.length) (c := co63) ?_).2.2; exact (by (with_reducible repeat (first | apply Kd.N_alloc | apply Kd.N_drewN | apply Kd.N_drew)); exact (Kd.N_mono (Kd.N_far (p := ⟨gb529, 1, none⟩) (Kd.N_far (p := ⟨gb529, 0, none⟩) (Kd.N_mono HO527.out (fun k_ hk => (⟨hk, hk.2⟩ : _ ∧ k_ ≠ gb529))) (fun _ hk => hk.2) (.int .i64 t524)) (fun _ hk => hk.2) (.slice Ao63 t525.length co63)) (fun _ h_ => h_.1)))); (case side2 => exact (Kd.N_reads' HO527.out).2.1); rintro e w64 ⟨v531, rfl, ho0, hb⟩; refine ⟨_, rfl, ?_⟩; replace HO0_1 := Aside0.mk (Kd.V_elder' (by (with_reducible repeat (first | apply Kd.V_alloc | apply Kd.V_drewN | apply Kd.V_drew)); exact (Kd.V_mono (Kd.V_far (p := ⟨gb529, 1, none⟩) (Kd.V_far (p := ⟨gb529, 0, none⟩) (Kd.V_mono HO0_1.out (fun k_ hk => (⟨hk, hk.2⟩ : _ ∧ k_ ≠ gb529))) (fun _ hk => hk.2) (.int .i64 t524)) (fun _ hk => hk.2) (.slice Ao63 t525.length co63)) (fun _ h_ => h_.1))) (Kd.N_base ho0) hb); replace HO2_1 := Aside0.mk (Kd.V_elder' (by (with_reducible repeat (first | apply Kd.V_alloc | apply Kd.V_drewN | apply Kd.V_drew)); exact (Kd.V_mono (Kd.V_far (p := ⟨gb529, 1, none⟩) (Kd.V_far (p := ⟨gb529, 0, none⟩) (Kd.V_mono HO2_1.out (fun k_ hk => (⟨hk, hk.2⟩ : _ ∧ k_ ≠ gb529))) (fun _ hk => hk.2) (.int .i64 t524)) (fun _ hk => hk.2) (.slice Ao63 t525.length co63)) (fun _ h_ => h_.1))) (Kd.N_base ho0) hb); have HO532 := Aside0.mk (Kd.N_lower (Kd.N_mono (ok' := fun k_ => ((P0_1_ k_ ∨ P2_1_ k_) ∨ w.heap.size ≤ k_) ∧ some k_ ≠ (.slice Ao63 t525.length co63 : Value).ownBlock ∧ k_ ≠ gb521 ∧ k_ ≠ gb522 ∧ k_ ≠ gb523 ∧ k_ ≠ gb529) ho0 (fun k_ hk_ => ⟨(.inr (Nat.le_trans (below_size (y7 HB.out GE521.out GE522.out GE523.out GE529.out)) hk_)), (Kd.fresh' (Kd.N_lt (by (with_reducible repeat (first | apply Kd.N_alloc | apply Kd.N_drewN | apply Kd.N_drew)); exact (Kd.N_mono (Kd.N_far (p := ⟨gb529, 1, none⟩) (Kd.N_far (p := ⟨gb529, 0, none⟩) (Kd.N_mono HO527.out (fun k_ hk => (⟨hk, hk.2⟩ : _ ∧ k_ ≠ gb529))) (fun _ hk => hk.2) (.int .i64 t524)) (fun _ hk => hk.2) (.slice Ao63 t525.length co63)) (fun _ h_ => h_.1)))) k_ hk_), (Kd.freshB (g := gb521) (o := .cells #[.int .i64 a0_0, .slice A0_1 l0_1.length c0_1] 25 (0, 0)) (y1 NB521_529.out BK521.out) k_ hk_), (Kd.freshB (g := gb522) (o := .cells #[.int .i64 a2_0, .slice A2_1 l2_1.length c2_1] 25 (0, 0)) (y1 NB522_529.out BK522.out) k_ hk_), (Kd.freshB (g := gb523) (o := .cells #[.int .i64 0, .slice none 0 0] 25 (0, 0)) (y1 NB523_529.out BK523.out) k_ hk_), (Kd.freshB (g := gb529) (o := .cells #[.int .i64 t524, .slice Ao63 t525.length co63] 25 (0, 0)) (by (with_reducible repeat (first | refine blk_drewN ?_ _ | refine blk_drew ?_ | refine blk_alloc ?_ _)); refine blk_put (cs := #[.int .i64 t524, .slice none 0 0]) ?_ 1 _ rfl; (with_reducible repeat (first | refine blk_drewN ?_ _ | refine blk_drew ?_ | refine blk_alloc ?_ _)); apply blk_put (i := 0); (case h => exact y0 BK529.out); (case e => rfl)) k_ hk_)⟩)) (below_size (y7 HB.out GE521.out GE522.out GE523.out GE529.out))); replace HO527 := Aside0.mk (Kd.N_elder' (by (with_reducible repeat (first | apply Kd.N_alloc | apply Kd.N_drewN | apply Kd.N_drew)); exact (Kd.N_mono (Kd.N_far (p := ⟨gb529, 1, none⟩) (Kd.N_far (p := ⟨gb529, 0, none⟩) (Kd.N_mono HO527.out (fun k_ hk => (⟨hk, hk.2⟩ : _ ∧ k_ ≠ gb529))) (fun _ hk => hk.2) (.int .i64 t524)) (fun _ hk => hk.2) (.slice Ao63 t525.length co63)) (fun _ h_ => h_.1))) (Kd.N_base ho0) hb); replace BK521 := Aside0.mk (blk_below (g := gb521) (o := .cells #[.int .i64 a0_0, .slice A0_1 l0_1.length c0_1] 25 (0, 0)) (y1 NB521_529.out BK521.out) hb); replace BK522 := Aside0.mk (blk_below (g := gb522) (o := .cells #[.int .i64 a2_0, .slice A2_1 l2_1.length c2_1] 25 (0, 0)) (y1 NB522_529.out BK522.out) hb); replace BK523 := Aside0.mk (blk_below (g := gb523) (o := .cells #[.int .i64 0, .slice none 0 0] 25 (0, 0)) (y1 NB523_529.out BK523.out) hb); replace BK529 := Aside0.mk (blk_below (g := gb529) (o := .cells #[.int .i64 t524, .slice Ao63 t525.length co63] 25 (0, 0)) (by (with_reducible repeat (first | refine blk_drewN ?_ _ | refine blk_drew ?_ | refine blk_alloc ?_ _)); refine blk_put (cs := #[.int .i64 t524, .slice none 0 0]) ?_ 1 _ rfl; (with_reducible repeat (first | refine blk_drewN ?_ _ | refine blk_drew ?_ | refine blk_alloc ?_ _)); apply blk_put (i := 0); (case h => exact y0 BK529.out); (case e => rfl)) hb); replace HB := Aside0.mk (below_step (y7 HB.out GE521.out GE522.out GE523.out GE529.out) hb); (try clear hb); (try clear hb2); (try clear hk); (try clear hi); (try clear ho0)) | ((with_reducible refine gate_dst (N := 10) rfl ?_); refine zbx 10 #[.slice none 0 0] 50 ?_; intro gb534 hg w65 hbox hb; replace HO0_1 := Aside0.mk (Kd.V_below (Kd.V_elderB (y10 HO0_1.out) gb534 (Nat.le_of_eq hg.symm)) hb); replace HO2_1 := Aside0.mk (Kd.V_below (Kd.V_elderB (y10 HO2_1.out) gb534 (Nat.le_of_eq hg.symm)) hb); replace HO527 := Aside0.mk (Kd.N_below (Kd.N_elderB (y3 HO527.out) gb534 (Nat.le_of_eq hg.symm)) hb); replace HO532 := Aside0.mk (Kd.N_below (Kd.N_elderB (y3 HO532.out) gb534 (Nat.le_of_eq hg.symm)) hb); have BK534 := Aside0.mk hbox; have GW534 := Aside0.mk ((y27 hg HB.out GE521.out GE522.out GE523.out GE529.out : w.heap.size ≤ gb534)); have GE534 := Aside0.mk ((y27 hg HB.out GE521.out GE522.out GE523.out GE529.out : w.heap.size ≤ gb534)); replace HB := Aside0.mk (below_step (y7 HB.out GE521.out GE522.out GE523.out GE529.out) hb); have NB521_534 := zltn hg BK521; have NB534_521 := zgtn hg BK521; replace BK521 := zbb BK521 hb; have NB522_534 := zltn hg BK522; have NB534_522 := zgtn hg BK522; replace BK522 := zbb BK522 hb; have NB523_534 := zltn hg BK523; have NB534_523 := zgtn hg BK523; replace BK523 := zbb BK523 hb; have NB529_534 := zltn hg BK529; have NB534_529 := zgtn hg BK529; replace BK529 := zbb BK529 hb; clear hb hbox hg; obtain ⟨Ao66, co66, eo66⟩ := Kd.N_slice HO532.out; subst eo66; have hnb67 := NB534_521.out; have hnc67 := NB521_534.out; have hnb68 := NB534_522.out; have hnc68 := NB522_534.out; have hnb69 := NB534_523.out; have hnc69 := NB523_534.out; have hnb70 := NB534_529.out; have hnc70 := NB529_534.out; have hcz71_0 := zh BK534; have hfz71_0 := zfr BK534 0; have hnb72 := NB522_523.out; have hnc72 := NB523_522.out; have hcz73_0 := zh BK522; have hcz73_1 := zh1 BK522; have hfz73_0 := zfr BK522 0; have hfz73_1 := zfr BK522 1) | ((with_reducible refine gate_callee (f := 38) rfl ?_); refine goesL_ (some 29) rfl rfl Try.func38 (by kernel_rfl) rfl #[.agg #[.int .i64 a2_0, .slice A2_1 l2_1.length c2_1]] rfl y8 ?_; (with_reducible refine (impl_valTyped.calls k a2_0 _ _ l2_1 t535 true _ ?side1 ?side2 A7.out).mono ?_); (case side1 => refine (Kd.V_reads' (e := 25) (base := w.heap.size) (ok := fun k_ => (((((((((P0_1_ k_ ∨ P2_1_ k_) ∨ w.heap.size ≤ k_) ∧ k_ ≠ gb521) ∧ k_ ≠ gb522) ∧ k_ ≠ gb523) ∧ some k_ ≠ (.slice Ao63 t525.length co63 : Value).ownBlock) ∧ k_ ≠ gb529) ∧ some k_ ≠ (.slice Ao66 t530.length co66 : Value).ownBlock) ∧ k_ ≠ gb534)) (n := l2_1.length) (c := c2_1) ?_).2.2; exact (by (with_reducible repeat (first | apply Kd.V_alloc | apply Kd.V_drewN | apply Kd.V_drew)); exact (Kd.V_mono (Kd.V_far (p := ⟨gb534, 0, none⟩) (Kd.V_mono HO2_1.out (fun k_ hk => (⟨hk, hk.2⟩ : _ ∧ k_ ≠ gb534))) (fun _ hk => hk.2) (.slice Ao66 t530.length co66)) (fun _ h_ => h_.1)))); (case side2 => exact (Kd.V_reads' HO2_1.out).2.1); rintro e w74 ⟨v536, rfl, ho0, hb⟩; refine ⟨_, rfl, ?_⟩; replace HO0_1 := Aside0.mk (Kd.V_elder' (by (with_reducible repeat (first | apply Kd.V_alloc | apply Kd.V_drewN | apply Kd.V_drew)); exact (Kd.V_mono (Kd.V_far (p := ⟨gb534, 0, none⟩) (Kd.V_mono HO0_1.out (fun k_ hk => (⟨hk, hk.2⟩ : _ ∧ k_ ≠ gb534))) (fun _ hk => hk.2) (.slice Ao66 t530.length co66)) (fun _ h_ => h_.1))) (Kd.N_base ho0) hb); replace HO2_1 := Aside0.mk (Kd.V_elder' (by (with_reducible repeat (first | apply Kd.V_alloc | apply Kd.V_drewN | apply Kd.V_drew)); exact (Kd.V_mono (Kd.V_far (p := ⟨gb534, 0, none⟩) (Kd.V_mono HO2_1.out (fun k_ hk => (⟨hk, hk.2⟩ : _ ∧ k_ ≠ gb534))) (fun _ hk => hk.2) (.slice Ao66 t530.length co66)) (fun _ h_ => h_.1))) (Kd.N_base ho0) hb); have HO537 := Aside0.mk (Kd.N_lower (Kd.N_mono (ok' := fun k_ => ((P0_1_ k_ ∨ P2_1_ k_) ∨ w.heap.size ≤ k_) ∧ some k_ ≠ (.slice Ao63 t525.length co63 : Value).ownBlock ∧ some k_ ≠ (.slice Ao66 t530.length co66 : Value).ownBlock ∧ k_ ≠ gb521 ∧ k_ ≠ gb522 ∧ k_ ≠ gb523 ∧ k_ ≠ gb529 ∧ k_ ≠ gb534) ho0 (fun k_ hk_ => ⟨(.inr (Nat.le_trans (below_size (y14 HB.out GE521.out GE522.out GE523.out GE529.out GE534.out)) hk_)), (Kd.fresh' (Kd.N_lt (by (with_reducible repeat (first | apply Kd.N_alloc | apply Kd.N_drewN | apply Kd.N_drew)); exact (Kd.N_mono (Kd.N_far (p := ⟨gb534, 0, none⟩) (Kd.N_mono HO527.out (fun k_ hk => (⟨hk, hk.2⟩ : _ ∧ k_ ≠ gb534))) (fun _ hk => hk.2) (.slice Ao66 t530.length co66)) (fun _ h_ => h_.1)))) k_ hk_), (Kd.fresh' (Kd.N_lt (by (with_reducible repeat (first | apply Kd.N_alloc | apply Kd.N_drewN | apply Kd.N_drew)); exact (Kd.N_mono (Kd.N_far (p := ⟨gb534, 0, none⟩) (Kd.N_mono HO532.out (fun k_ hk => (⟨hk, hk.2⟩ : _ ∧ k_ ≠ gb534))) (fun _ hk => hk.2) (.slice Ao66 t530.length co66)) (fun _ h_ => h_.1)))) k_ hk_), (Kd.freshB (g := gb521) (o := .cells #[.int .i64 a0_0, .slice A0_1 l0_1.length c0_1] 25 (0, 0)) (y13 NB521_534.out BK521.out) k_ hk_), (Kd.freshB (g := gb522) (o := .cells #[.int .i64 a2_0, .slice A2_1 l2_1.length c2_1] 25 (0, 0)) (y13 NB522_534.out BK522.out) k_ hk_), (Kd.freshB (g := gb523) (o := .cells #[.int .i64 0, .slice none 0 0] 25 (0, 0)) (y13 NB523_534.out BK523.out) k_ hk_), (Kd.freshB (g := gb529) (o := .cells #[.int .i64 t524, .slice Ao63 t525.length co63] 25 (0, 0)) (y13 NB529_534.out BK529.out) k_ hk_), (Kd.freshB (g := gb534) (o := .cells #[.slice Ao66 t530.length co66] 50 (0, 0)) (by (with_reducible repeat (first | refine blk_drewN ?_ _ | refine blk_drew ?_ | refine blk_alloc ?_ _)); apply blk_put (i := 0); (case h => exact y0 BK534.out); (case e => rfl)) k_ hk_)⟩)) (below_size (y14 HB.out GE521.out GE522.out GE523.out GE529.out GE534.out))); replace HO527 := Aside0.mk (Kd.N_elder' (by (with_reducible repeat (first | apply Kd.N_alloc | apply Kd.N_drewN | apply Kd.N_drew)); exact (Kd.N_mono (Kd.N_far (p := ⟨gb534, 0, none⟩) (Kd.N_mono HO527.out (fun k_ hk => (⟨hk, hk.2⟩ : _ ∧ k_ ≠ gb534))) (fun _ hk => hk.2) (.slice Ao66 t530.length co66)) (fun _ h_ => h_.1))) (Kd.N_base ho0) hb); replace HO532 := Aside0.mk (Kd.N_elder' (by (with_reducible repeat (first | apply Kd.N_alloc | apply Kd.N_drewN | apply Kd.N_drew)); exact (Kd.N_mono (Kd.N_far (p := ⟨gb534, 0, none⟩) (Kd.N_mono HO532.out (fun k_ hk => (⟨hk, hk.2⟩ : _ ∧ k_ ≠ gb534))) (fun _ hk => hk.2) (.slice Ao66 t530.length co66)) (fun _ h_ => h_.1))) (Kd.N_base ho0) hb); replace BK521 := zbf BK521 NB521_534 hb; replace BK522 := zbf BK522 NB522_534 hb; replace BK523 := zbf BK523 NB523_534 hb; replace BK529 := zbf BK529 NB529_534 hb; replace BK534 := Aside0.mk (blk_below (g := gb534) (o := .cells #[.slice Ao66 t530.length co66] 50 (0, 0)) (by (with_reducible repeat (first | refine blk_drewN ?_ _ | refine blk_drew ?_ | refine blk_alloc ?_ _)); apply blk_put (i := 0); (case h => exact y0 BK534.out); (case e => rfl)) hb); replace HB := Aside0.mk (below_step (y14 HB.out GE521.out GE522.out GE523.out GE529.out GE534.out) hb); (try clear hb); (try clear hb2); (try clear hk); (try clear hi); (try clear ho0)) | ((with_reducible refine gate_dst (N := 12) rfl ?_); refine zbx 12 #[.slice none 0 0] 50 ?_; intro gb539 hg w75 hbox hb; replace HO0_1 := Aside0.mk (Kd.V_below (Kd.V_elderB (y10 HO0_1.out) gb539 (Nat.le_of_eq hg.symm)) hb); replace HO2_1 := Aside0.mk (Kd.V_below (Kd.V_elderB (y10 HO2_1.out) gb539 (Nat.le_of_eq hg.symm)) hb); replace HO527 := Aside0.mk (Kd.N_below (Kd.N_elderB (y3 HO527.out) gb539 (Nat.le_of_eq hg.symm)) hb); replace HO532 := Aside0.mk (Kd.N_below (Kd.N_elderB (y3 HO532.out) gb539 (Nat.le_of_eq hg.symm)) hb); replace HO537 := Aside0.mk (Kd.N_below (Kd.N_elderB (y3 HO537.out) gb539 (Nat.le_of_eq hg.symm)) hb); have BK539 := Aside0.mk hbox; have GW539 := Aside0.mk ((y32 hg HB.out GE521.out GE522.out GE523.out GE529.out GE534.out : w.heap.size ≤ gb539)); have GE539 := Aside0.mk ((y32 hg HB.out GE521.out GE522.out GE523.out GE529.out GE534.out : w.heap.size ≤ gb539)); replace HB := Aside0.mk (below_step (y14 HB.out GE521.out GE522.out GE523.out GE529.out GE534.out) hb); have NB521_539 := zltn hg BK521; have NB539_521 := zgtn hg BK521; replace BK521 := zbb BK521 hb; have NB522_539 := zltn hg BK522; have NB539_522 := zgtn hg BK522; replace BK522 := zbb BK522 hb; have NB523_539 := zltn hg BK523; have NB539_523 := zgtn hg BK523; replace BK523 := zbb BK523 hb; have NB529_539 := zltn hg BK529; have NB539_529 := zgtn hg BK529; replace BK529 := zbb BK529 hb; have NB534_539 := zltn hg BK534; have NB539_534 := zgtn hg BK534; replace BK534 := zbb BK534 hb; clear hb hbox hg; obtain ⟨Ao76, co76, eo76⟩ := Kd.N_slice HO537.out; subst eo76; have hnb77 := NB539_521.out; have hnc77 := NB521_539.out; have hnb78 := NB539_522.out; have hnc78 := NB522_539.out; have hnb79 := NB539_523.out; have hnc79 := NB523_539.out; have hnb80 := NB539_529.out; have hnc80 := NB529_539.out; have hnb81 := NB539_534.out; have hnc81 := NB534_539.out; have hcz82_0 := zh BK539; have hfz82_0 := zfr BK539 0; have hcz83_0 := zh BK534; have hfz83_0 := zfr BK534 0) | (go_at_call 46; (with_reducible refine (impl_typeSame.calls k _ _ t530 _ _ t535 false _ ?side1 ?side2 ?side3 ?side4 A9.out).mono ?_); (case side1 => refine (Kd.N_reads' (e := 50) (base := w.heap.size) (ok := fun k_ => ((((((P0_1_ k_ ∨ P2_1_ k_) ∨ w.heap.size ≤ k_) ∧ (some k_ ≠ (.slice Ao63 t525.length co63 : Value).ownBlock ∧ (k_ ≠ gb521 ∧ (k_ ≠ gb522 ∧ (k_ ≠ gb523 ∧ k_ ≠ gb529))))) ∧ k_ ≠ gb534) ∧ some k_ ≠ (.slice Ao76 t535.length co76 : Value).ownBlock) ∧ k_ ≠ gb539)) (n := t530.length) (c := co66) ?_).2.2; exact (by (with_reducible repeat (first | apply Kd.N_alloc | apply Kd.N_drewN | apply Kd.N_drew)); exact (Kd.N_mono (Kd.N_far (p := ⟨gb539, 0, none⟩) (Kd.N_mono HO532.out (fun k_ hk => (⟨hk, hk.2⟩ : _ ∧ k_ ≠ gb539))) (fun _ hk => hk.2) (.slice Ao76 t535.length co76)) (fun _ h_ => h_.1)))); (case side2 => exact (Kd.N_reads' HO532.out).2.1); (case side3 => refine (Kd.N_reads' (e := 50) (base := w.heap.size) (ok := fun k_ => ((((P0_1_ k_ ∨ P2_1_ k_) ∨ w.heap.size ≤ k_) ∧ (some k_ ≠ (.slice Ao63 t525.length co63 : Value).ownBlock ∧ (some k_ ≠ (.slice Ao66 t530.length co66 : Value).ownBlock ∧ (k_ ≠ gb521 ∧ (k_ ≠ gb522 ∧ (k_ ≠ gb523 ∧ (k_ ≠ gb529 ∧ k_ ≠ gb534))))))) ∧ k_ ≠ gb539)) (n := t535.length) (c := co76) ?_).2.2; exact (by (with_reducible repeat (first | apply Kd.N_alloc | apply Kd.N_drewN | apply Kd.N_drew)); exact (Kd.N_mono (Kd.N_far (p := ⟨gb539, 0, none⟩) (Kd.N_mono HO537.out (fun k_ hk => (⟨hk, hk.2⟩ : _ ∧ k_ ≠ gb539))) (fun _ hk => hk.2) (.slice Ao76 t535.length co76)) (fun _ h_ => h_.1)))); (case side4 => exact (Kd.N_reads' HO537.out).2.1); rintro e w84 ⟨rfl, hb⟩; replace HO0_1 := Aside0.mk (Kd.V_below (by (with_reducible repeat (first | apply Kd.V_alloc | apply Kd.V_drewN | apply Kd.V_drew)); exact (Kd.V_mono (Kd.V_far (p := ⟨gb539, 0, none⟩) (Kd.V_mono HO0_1.out (fun k_ hk => (⟨hk, hk.2⟩ : _ ∧ k_ ≠ gb539))) (fun _ hk => hk.2) (.slice Ao76 t535.length co76)) (fun _ h_ => h_.1))) hb); replace HO2_1 := Aside0.mk (Kd.V_below (by (with_reducible repeat (first | apply Kd.V_alloc | apply Kd.V_drewN | apply Kd.V_drew)); exact (Kd.V_mono (Kd.V_far (p := ⟨gb539, 0, none⟩) (Kd.V_mono HO2_1.out (fun k_ hk => (⟨hk, hk.2⟩ : _ ∧ k_ ≠ gb539))) (fun _ hk => hk.2) (.slice Ao76 t535.length co76)) (fun _ h_ => h_.1))) hb); replace HO527 := Aside0.mk (Kd.N_below (by (with_reducible repeat (first | apply Kd.N_alloc | apply Kd.N_drewN | apply Kd.N_drew)); exact (Kd.N_mono (Kd.N_far (p := ⟨gb539, 0, none⟩) (Kd.N_mono HO527.out (fun k_ hk => (⟨hk, hk.2⟩ : _ ∧ k_ ≠ gb539))) (fun _ hk => hk.2) (.slice Ao76 t535.length co76)) (fun _ h_ => h_.1))) hb); replace HO532 := Aside0.mk (Kd.N_below (by (with_reducible repeat (first | apply Kd.N_alloc | apply Kd.N_drewN | apply Kd.N_drew)); exact (Kd.N_mono (Kd.N_far (p := ⟨gb539, 0, none⟩) (Kd.N_mono HO532.out (fun k_ hk => (⟨hk, hk.2⟩ : _ ∧ k_ ≠ gb539))) (fun _ hk => hk.2) (.slice Ao76 t535.length co76)) (fun _ h_ => h_.1))) hb); replace HO537 := Aside0.mk (Kd.N_below (by (with_reducible repeat (first | apply Kd.N_alloc | apply Kd.N_drewN | apply Kd.N_drew)); exact (Kd.N_mono (Kd.N_far (p := ⟨gb539, 0, none⟩) (Kd.N_mono HO537.out (fun k_ hk => (⟨hk, hk.2⟩ : _ ∧ k_ ≠ gb539))) (fun _ hk => hk.2) (.slice Ao76 t535.length co76)) (fun _ h_ => h_.1))) hb); replace BK521 := zbf BK521 NB521_539 hb; replace BK522 := zbf BK522 NB522_539 hb; replace BK523 := zbf BK523 NB523_539 hb; replace BK529 := zbf BK529 NB529_539 hb; replace BK534 := zbf BK534 NB534_539 hb; replace BK539 := Aside0.mk (blk_below (g := gb539) (o := .cells #[.slice Ao76 t535.length co76] 50 (0, 0)) (by (with_reducible repeat (first | refine blk_drewN ?_ _ | refine blk_drew ?_ | refine blk_alloc ?_ _)); apply blk_put (i := 0); (case h => exact y0 BK539.out); (case e => rfl)) hb); replace HB := Aside0.mk (below_step (y20 HB.out GE521.out GE522.out GE523.out GE529.out GE534.out GE539.out) hb); (try clear hb); (try clear hb2); (try clear hk); (try clear hi); have hcz85_0 := zh BK523; have hcz85_1 := zh1 BK523; have hfz85_0 := zfr BK523 0; have hfz85_1 := zfr BK523 1))
    refine bodyPost_ret (results_ct rfl _ _ gb523 25 #[.int .i64 0, .slice none 0 0] (0, 0) _ rfl (by (with_reducible repeat (first | refine blk_drewN ?_ _ | refine blk_drew ?_ | refine blk_alloc ?_ _)); refine blk_put (cs := #[.int .i64 0, .slice none 0 0]) ?_ 1 _ rfl; (with_reducible repeat (first | refine blk_drewN ?_ _ | refine blk_drew ?_ | refine blk_alloc ?_ _)); apply blk_put (i := 0); (case h => exact y0 BK523.out); (case e => rfl)) Try.underlying25 rfl (by kernel_rfl)) rfl ?_
    exact ⟨_, y19, y37, (y20 HB.out GE521.out GE522.out GE523.out GE529.out GE534.out GE539.out)⟩
  ·replace c8 := Bool.eq_false_iff.mpr c8
   subst c8
   rw [if_neg (show ¬ (false = true) by decide)] at H
   simp only [Option.some.injEq, Prod.mk.injEq] at H
   obtain ⟨rfl, rfl, rfl⟩ := H
   go_enter Try.func24, Try.ntmps24
   go_wp2_with (first | ((with_reducible refine gate_dst (N := 3) rfl ?_); refine zbx 3 #[.int .i64 a0_0, .slice A0_1 l0_1.length c0_1] 25 ?_; intro gb521 hg w86 hbox hb; replace HO0_1 := Aside0.mk (Kd.V_below (Kd.V_elderB (y10 HO0_1.out) gb521 (Nat.le_of_eq hg.symm)) hb); replace HO2_1 := Aside0.mk (Kd.V_below (Kd.V_elderB (y10 HO2_1.out) gb521 (Nat.le_of_eq hg.symm)) hb); have BK521 := Aside0.mk hbox; have GW521 := Aside0.mk ((y9 hg HB.out : w.heap.size ≤ gb521)); have GE521 := Aside0.mk ((y9 hg HB.out : w.heap.size ≤ gb521)); replace HB := Aside0.mk (below_step (y5 HB.out) hb); clear hb hbox hg) | ((with_reducible refine gate_dst (N := 5) rfl ?_); refine zbx 5 #[.int .i64 a2_0, .slice A2_1 l2_1.length c2_1] 25 ?_; intro gb522 hg w87 hbox hb; replace HO0_1 := Aside0.mk (Kd.V_below (Kd.V_elderB (y10 HO0_1.out) gb522 (Nat.le_of_eq hg.symm)) hb); replace HO2_1 := Aside0.mk (Kd.V_below (Kd.V_elderB (y10 HO2_1.out) gb522 (Nat.le_of_eq hg.symm)) hb); have BK522 := Aside0.mk hbox; have GW522 := Aside0.mk ((y11 hg HB.out GE521.out : w.heap.size ≤ gb522)); have GE522 := Aside0.mk ((y11 hg HB.out GE521.out : w.heap.size ≤ gb522)); replace HB := Aside0.mk (below_step (y6 HB.out GE521.out) hb); have NB521_522 := zltn hg BK521; have NB522_521 := zgtn hg BK521; replace BK521 := zbb BK521 hb; clear hb hbox hg) | ((with_reducible refine gate_dst (N := 6) rfl ?_); refine zbx 6 #[.int .i64 0, .slice none 0 0] 25 ?_; intro gb523 hg w88 hbox hb; replace HO0_1 := Aside0.mk (Kd.V_below (Kd.V_elderB (y10 HO0_1.out) gb523 (Nat.le_of_eq hg.symm)) hb); replace HO2_1 := Aside0.mk (Kd.V_below (Kd.V_elderB (y10 HO2_1.out) gb523 (Nat.le_of_eq hg.symm)) hb); have BK523 := Aside0.mk hbox; have GW523 := Aside0.mk ((y16 hg HB.out GE521.out GE522.out : w.heap.size ≤ gb523)); have GE523 := Aside0.mk ((y16 hg HB.out GE521.out GE522.out : w.heap.size ≤ gb523)); replace HB := Aside0.mk (below_step (y2 HB.out GE521.out GE522.out) hb); have NB521_523 := zltn hg BK521; have NB523_521 := zgtn hg BK521; replace BK521 := zbb BK521 hb; have NB522_523 := zltn hg BK522; have NB523_522 := zgtn hg BK522; replace BK522 := zbb BK522 hb; clear hb hbox hg; have hnb89 := NB521_522.out; have hnc89 := NB522_521.out; have hnb90 := NB521_523.out; have hnc90 := NB523_521.out; have hcz91_0 := zh BK521; have hcz91_1 := zh1 BK521; have hfz91_0 := zfr BK521 0; have hfz91_1 := zfr BK521 1) | ((with_reducible refine gate_callee (f := 14) rfl ?_); refine goesL_ (some 16) rfl rfl Try.func14 (by kernel_rfl) rfl #[.agg #[.int .i64 a0_0, .slice A0_1 l0_1.length c0_1], .slice A1 l1.length c1] rfl y8 ?_; (with_reducible refine (impl_ValAt.calls k a0_0 (fun k_ => (((((P0_1_ k_ ∨ P2_1_ k_) ∨ w.heap.size ≤ k_) ∧ k_ ≠ gb521) ∧ k_ ≠ gb522) ∧ k_ ≠ gb523)) _ _ l0_1 _ _ l1 t524 t525 true _ ?side1 ?side2 ?side3 A4.out).mono ?_); (case side1 => exact HO0_1.out); (case side2 => exact y15 HR1.out HB.out); (case side3 => exact HC1.out); rintro e w92 ⟨v526, rfl, ho0, hb⟩; refine ⟨_, rfl, ?_⟩; replace HO0_1 := Aside0.mk (Kd.V_elder' (y10 HO0_1.out) (Kd.N_base ho0) hb); replace HO2_1 := Aside0.mk (Kd.V_elder' (y10 HO2_1.out) (Kd.N_base ho0) hb); have HO527 := Aside0.mk (Kd.N_lower (Kd.N_mono (ok' := fun k_ => ((P0_1_ k_ ∨ P2_1_ k_) ∨ w.heap.size ≤ k_) ∧ k_ ≠ gb521 ∧ k_ ≠ gb522 ∧ k_ ≠ gb523) ho0 (fun k_ hk_ => ⟨Or.elim hk_ (fun hs_ => hs_.1.1.1) (fun hn_ => (.inr (Nat.le_trans (below_size (y4 HB.out GE521.out GE522.out GE523.out)) hn_))), Or.elim hk_ (fun hs_ => hs_.1.1.2) (fun hn_ => (Kd.freshB (g := gb521) (o := .cells #[.int .i64 a0_0, .slice A0_1 l0_1.length c0_1] 25 (0, 0)) (y0 BK521.out) k_ hn_)), Or.elim hk_ (fun hs_ => hs_.1.2) (fun hn_ => (Kd.freshB (g := gb522) (o := .cells #[.int .i64 a2_0, .slice A2_1 l2_1.length c2_1] 25 (0, 0)) (y0 BK522.out) k_ hn_)), Or.elim hk_ (fun hs_ => hs_.2) (fun hn_ => (Kd.freshB (g := gb523) (o := .cells #[.int .i64 0, .slice none 0 0] 25 (0, 0)) (y0 BK523.out) k_ hn_))⟩)) (below_size (y4 HB.out GE521.out GE522.out GE523.out))); replace BK521 := zbb BK521 hb; replace BK522 := zbb BK522 hb; replace BK523 := zbb BK523 hb; replace HB := Aside0.mk (below_step (y4 HB.out GE521.out GE522.out GE523.out) hb); (try clear hb); (try clear hb2); (try clear hk); (try clear hi); (try clear ho0)) | ((with_reducible refine gate_dst (N := 8) rfl ?_); refine zbx 8 #[.int .i64 0, .slice none 0 0] 25 ?_; intro gb529 hg w93 hbox hb; replace HO0_1 := Aside0.mk (Kd.V_below (Kd.V_elderB (y10 HO0_1.out) gb529 (Nat.le_of_eq hg.symm)) hb); replace HO2_1 := Aside0.mk (Kd.V_below (Kd.V_elderB (y10 HO2_1.out) gb529 (Nat.le_of_eq hg.symm)) hb); replace HO527 := Aside0.mk (Kd.N_below (Kd.N_elderB (y3 HO527.out) gb529 (Nat.le_of_eq hg.symm)) hb); have BK529 := Aside0.mk hbox; have GW529 := Aside0.mk ((y22 hg HB.out GE521.out GE522.out GE523.out : w.heap.size ≤ gb529)); have GE529 := Aside0.mk ((y22 hg HB.out GE521.out GE522.out GE523.out : w.heap.size ≤ gb529)); replace HB := Aside0.mk (below_step (y4 HB.out GE521.out GE522.out GE523.out) hb); have NB521_529 := zltn hg BK521; have NB529_521 := zgtn hg BK521; replace BK521 := zbb BK521 hb; have NB522_529 := zltn hg BK522; have NB529_522 := zgtn hg BK522; replace BK522 := zbb BK522 hb; have NB523_529 := zltn hg BK523; have NB529_523 := zgtn hg BK523; replace BK523 := zbb BK523 hb; clear hb hbox hg; have hnb94 := NB529_521.out; have hnc94 := NB521_529.out; have hnb95 := NB529_522.out; have hnc95 := NB522_529.out; have hnb96 := NB529_523.out; have hnc96 := NB523_529.out; have hcz97_0 := zh BK529; have hcz97_1 := zh1 BK529; have hfz97_0 := zfr BK529 0; have hfz97_1 := zfr BK529 1; obtain ⟨Ao98, co98, eo98⟩ := Kd.N_slice HO527.out; subst eo98) | ((with_reducible refine gate_callee (f := 38) rfl ?_); refine goesL_ (some 24) rfl rfl Try.func38 (by kernel_rfl) rfl #[.agg #[.int .i64 t524, .slice Ao98 t525.length co98]] rfl y8 ?_; (with_reducible refine (impl_valTyped.calls k t524 _ _ t525 t530 t533 _ ?side1 ?side2 A6.out).mono ?_); (case side1 => refine (Kd.N_reads' (e := 25) (base := w.heap.size) (ok := fun k_ => ((((P0_1_ k_ ∨ P2_1_ k_) ∨ w.heap.size ≤ k_) ∧ (k_ ≠ gb521 ∧ (k_ ≠ gb522 ∧ k_ ≠ gb523))) ∧ k_ ≠ gb529)) (n := t525.length) (c := co98) ?_).2.2; exact (by (with_reducible repeat (first | apply Kd.N_alloc | apply Kd.N_drewN | apply Kd.N_drew)); exact (Kd.N_mono (Kd.N_far (p := ⟨gb529, 1, none⟩) (Kd.N_far (p := ⟨gb529, 0, none⟩) (Kd.N_mono HO527.out (fun k_ hk => (⟨hk, hk.2⟩ : _ ∧ k_ ≠ gb529))) (fun _ hk => hk.2) (.int .i64 t524)) (fun _ hk => hk.2) (.slice Ao98 t525.length co98)) (fun _ h_ => h_.1)))); (case side2 => exact (Kd.N_reads' HO527.out).2.1); rintro e w99 ⟨v531, rfl, ho0, hb⟩; refine ⟨_, rfl, ?_⟩; replace HO0_1 := Aside0.mk (Kd.V_elder' (by (with_reducible repeat (first | apply Kd.V_alloc | apply Kd.V_drewN | apply Kd.V_drew)); exact (Kd.V_mono (Kd.V_far (p := ⟨gb529, 1, none⟩) (Kd.V_far (p := ⟨gb529, 0, none⟩) (Kd.V_mono HO0_1.out (fun k_ hk => (⟨hk, hk.2⟩ : _ ∧ k_ ≠ gb529))) (fun _ hk => hk.2) (.int .i64 t524)) (fun _ hk => hk.2) (.slice Ao98 t525.length co98)) (fun _ h_ => h_.1))) (Kd.N_base ho0) hb); replace HO2_1 := Aside0.mk (Kd.V_elder' (by (with_reducible repeat (first | apply Kd.V_alloc | apply Kd.V_drewN | apply Kd.V_drew)); exact (Kd.V_mono (Kd.V_far (p := ⟨gb529, 1, none⟩) (Kd.V_far (p := ⟨gb529, 0, none⟩) (Kd.V_mono HO2_1.out (fun k_ hk => (⟨hk, hk.2⟩ : _ ∧ k_ ≠ gb529))) (fun _ hk => hk.2) (.int .i64 t524)) (fun _ hk => hk.2) (.slice Ao98 t525.length co98)) (fun _ h_ => h_.1))) (Kd.N_base ho0) hb); have HO532 := Aside0.mk (Kd.N_lower (Kd.N_mono (ok' := fun k_ => ((P0_1_ k_ ∨ P2_1_ k_) ∨ w.heap.size ≤ k_) ∧ some k_ ≠ (.slice Ao98 t525.length co98 : Value).ownBlock ∧ k_ ≠ gb521 ∧ k_ ≠ gb522 ∧ k_ ≠ gb523 ∧ k_ ≠ gb529) ho0 (fun k_ hk_ => ⟨(.inr (Nat.le_trans (below_size (y7 HB.out GE521.out GE522.out GE523.out GE529.out)) hk_)), (Kd.fresh' (Kd.N_lt (by (with_reducible repeat (first | apply Kd.N_alloc | apply Kd.N_drewN | apply Kd.N_drew)); exact (Kd.N_mono (Kd.N_far (p := ⟨gb529, 1, none⟩) (Kd.N_far (p := ⟨gb529, 0, none⟩) (Kd.N_mono HO527.out (fun k_ hk => (⟨hk, hk.2⟩ : _ ∧ k_ ≠ gb529))) (fun _ hk => hk.2) (.int .i64 t524)) (fun _ hk => hk.2) (.slice Ao98 t525.length co98)) (fun _ h_ => h_.1)))) k_ hk_), (Kd.freshB (g := gb521) (o := .cells #[.int .i64 a0_0, .slice A0_1 l0_1.length c0_1] 25 (0, 0)) (y1 NB521_529.out BK521.out) k_ hk_), (Kd.freshB (g := gb522) (o := .cells #[.int .i64 a2_0, .slice A2_1 l2_1.length c2_1] 25 (0, 0)) (y1 NB522_529.out BK522.out) k_ hk_), (Kd.freshB (g := gb523) (o := .cells #[.int .i64 0, .slice none 0 0] 25 (0, 0)) (y1 NB523_529.out BK523.out) k_ hk_), (Kd.freshB (g := gb529) (o := .cells #[.int .i64 t524, .slice Ao98 t525.length co98] 25 (0, 0)) (by (with_reducible repeat (first | refine blk_drewN ?_ _ | refine blk_drew ?_ | refine blk_alloc ?_ _)); refine blk_put (cs := #[.int .i64 t524, .slice none 0 0]) ?_ 1 _ rfl; (with_reducible repeat (first | refine blk_drewN ?_ _ | refine blk_drew ?_ | refine blk_alloc ?_ _)); apply blk_put (i := 0); (case h => exact y0 BK529.out); (case e => rfl)) k_ hk_)⟩)) (below_size (y7 HB.out GE521.out GE522.out GE523.out GE529.out))); replace HO527 := Aside0.mk (Kd.N_elder' (by (with_reducible repeat (first | apply Kd.N_alloc | apply Kd.N_drewN | apply Kd.N_drew)); exact (Kd.N_mono (Kd.N_far (p := ⟨gb529, 1, none⟩) (Kd.N_far (p := ⟨gb529, 0, none⟩) (Kd.N_mono HO527.out (fun k_ hk => (⟨hk, hk.2⟩ : _ ∧ k_ ≠ gb529))) (fun _ hk => hk.2) (.int .i64 t524)) (fun _ hk => hk.2) (.slice Ao98 t525.length co98)) (fun _ h_ => h_.1))) (Kd.N_base ho0) hb); replace BK521 := Aside0.mk (blk_below (g := gb521) (o := .cells #[.int .i64 a0_0, .slice A0_1 l0_1.length c0_1] 25 (0, 0)) (y1 NB521_529.out BK521.out) hb); replace BK522 := Aside0.mk (blk_below (g := gb522) (o := .cells #[.int .i64 a2_0, .slice A2_1 l2_1.length c2_1] 25 (0, 0)) (y1 NB522_529.out BK522.out) hb); replace BK523 := Aside0.mk (blk_below (g := gb523) (o := .cells #[.int .i64 0, .slice none 0 0] 25 (0, 0)) (y1 NB523_529.out BK523.out) hb); replace BK529 := Aside0.mk (blk_below (g := gb529) (o := .cells #[.int .i64 t524, .slice Ao98 t525.length co98] 25 (0, 0)) (by (with_reducible repeat (first | refine blk_drewN ?_ _ | refine blk_drew ?_ | refine blk_alloc ?_ _)); refine blk_put (cs := #[.int .i64 t524, .slice none 0 0]) ?_ 1 _ rfl; (with_reducible repeat (first | refine blk_drewN ?_ _ | refine blk_drew ?_ | refine blk_alloc ?_ _)); apply blk_put (i := 0); (case h => exact y0 BK529.out); (case e => rfl)) hb); replace HB := Aside0.mk (below_step (y7 HB.out GE521.out GE522.out GE523.out GE529.out) hb); (try clear hb); (try clear hb2); (try clear hk); (try clear hi); (try clear ho0)) | ((with_reducible refine gate_dst (N := 10) rfl ?_); refine zbx 10 #[.slice none 0 0] 50 ?_; intro gb534 hg w100 hbox hb; replace HO0_1 := Aside0.mk (Kd.V_below (Kd.V_elderB (y10 HO0_1.out) gb534 (Nat.le_of_eq hg.symm)) hb); replace HO2_1 := Aside0.mk (Kd.V_below (Kd.V_elderB (y10 HO2_1.out) gb534 (Nat.le_of_eq hg.symm)) hb); replace HO527 := Aside0.mk (Kd.N_below (Kd.N_elderB (y3 HO527.out) gb534 (Nat.le_of_eq hg.symm)) hb); replace HO532 := Aside0.mk (Kd.N_below (Kd.N_elderB (y3 HO532.out) gb534 (Nat.le_of_eq hg.symm)) hb); have BK534 := Aside0.mk hbox; have GW534 := Aside0.mk ((y27 hg HB.out GE521.out GE522.out GE523.out GE529.out : w.heap.size ≤ gb534)); have GE534 := Aside0.mk ((y27 hg HB.out GE521.out GE522.out GE523.out GE529.out : w.heap.size ≤ gb534)); replace HB := Aside0.mk (below_step (y7 HB.out GE521.out GE522.out GE523.out GE529.out) hb); have NB521_534 := zltn hg BK521; have NB534_521 := zgtn hg BK521; replace BK521 := zbb BK521 hb; have NB522_534 := zltn hg BK522; have NB534_522 := zgtn hg BK522; replace BK522 := zbb BK522 hb; have NB523_534 := zltn hg BK523; have NB534_523 := zgtn hg BK523; replace BK523 := zbb BK523 hb; have NB529_534 := zltn hg BK529; have NB534_529 := zgtn hg BK529; replace BK529 := zbb BK529 hb; clear hb hbox hg; obtain ⟨Ao101, co101, eo101⟩ := Kd.N_slice HO532.out; subst eo101; have hnb102 := NB534_521.out; have hnc102 := NB521_534.out; have hnb103 := NB534_522.out; have hnc103 := NB522_534.out; have hnb104 := NB534_523.out; have hnc104 := NB523_534.out; have hnb105 := NB534_529.out; have hnc105 := NB529_534.out; have hcz106_0 := zh BK534; have hfz106_0 := zfr BK534 0; have hnb107 := NB522_523.out; have hnc107 := NB523_522.out; have hcz108_0 := zh BK522; have hcz108_1 := zh1 BK522; have hfz108_0 := zfr BK522 0; have hfz108_1 := zfr BK522 1) | ((with_reducible refine gate_callee (f := 38) rfl ?_); refine goesL_ (some 29) rfl rfl Try.func38 (by kernel_rfl) rfl #[.agg #[.int .i64 a2_0, .slice A2_1 l2_1.length c2_1]] rfl y8 ?_; (with_reducible refine (impl_valTyped.calls k a2_0 _ _ l2_1 t535 false _ ?side1 ?side2 A7.out).mono ?_); (case side1 => refine (Kd.V_reads' (e := 25) (base := w.heap.size) (ok := fun k_ => (((((((((P0_1_ k_ ∨ P2_1_ k_) ∨ w.heap.size ≤ k_) ∧ k_ ≠ gb521) ∧ k_ ≠ gb522) ∧ k_ ≠ gb523) ∧ some k_ ≠ (.slice Ao98 t525.length co98 : Value).ownBlock) ∧ k_ ≠ gb529) ∧ some k_ ≠ (.slice Ao101 t530.length co101 : Value).ownBlock) ∧ k_ ≠ gb534)) (n := l2_1.length) (c := c2_1) ?_).2.2; exact (by (with_reducible repeat (first | apply Kd.V_alloc | apply Kd.V_drewN | apply Kd.V_drew)); exact (Kd.V_mono (Kd.V_far (p := ⟨gb534, 0, none⟩) (Kd.V_mono HO2_1.out (fun k_ hk => (⟨hk, hk.2⟩ : _ ∧ k_ ≠ gb534))) (fun _ hk => hk.2) (.slice Ao101 t530.length co101)) (fun _ h_ => h_.1)))); (case side2 => exact (Kd.V_reads' HO2_1.out).2.1); rintro e w109 ⟨v536, rfl, ho0, hb⟩; refine ⟨_, rfl, ?_⟩; replace HO0_1 := Aside0.mk (Kd.V_elder' (by (with_reducible repeat (first | apply Kd.V_alloc | apply Kd.V_drewN | apply Kd.V_drew)); exact (Kd.V_mono (Kd.V_far (p := ⟨gb534, 0, none⟩) (Kd.V_mono HO0_1.out (fun k_ hk => (⟨hk, hk.2⟩ : _ ∧ k_ ≠ gb534))) (fun _ hk => hk.2) (.slice Ao101 t530.length co101)) (fun _ h_ => h_.1))) (Kd.N_base ho0) hb); replace HO2_1 := Aside0.mk (Kd.V_elder' (by (with_reducible repeat (first | apply Kd.V_alloc | apply Kd.V_drewN | apply Kd.V_drew)); exact (Kd.V_mono (Kd.V_far (p := ⟨gb534, 0, none⟩) (Kd.V_mono HO2_1.out (fun k_ hk => (⟨hk, hk.2⟩ : _ ∧ k_ ≠ gb534))) (fun _ hk => hk.2) (.slice Ao101 t530.length co101)) (fun _ h_ => h_.1))) (Kd.N_base ho0) hb); have HO537 := Aside0.mk (Kd.N_lower (Kd.N_mono (ok' := fun k_ => ((P0_1_ k_ ∨ P2_1_ k_) ∨ w.heap.size ≤ k_) ∧ some k_ ≠ (.slice Ao98 t525.length co98 : Value).ownBlock ∧ some k_ ≠ (.slice Ao101 t530.length co101 : Value).ownBlock ∧ k_ ≠ gb521 ∧ k_ ≠ gb522 ∧ k_ ≠ gb523 ∧ k_ ≠ gb529 ∧ k_ ≠ gb534) ho0 (fun k_ hk_ => ⟨(.inr (Nat.le_trans (below_size (y14 HB.out GE521.out GE522.out GE523.out GE529.out GE534.out)) hk_)), (Kd.fresh' (Kd.N_lt (by (with_reducible repeat (first | apply Kd.N_alloc | apply Kd.N_drewN | apply Kd.N_drew)); exact (Kd.N_mono (Kd.N_far (p := ⟨gb534, 0, none⟩) (Kd.N_mono HO527.out (fun k_ hk => (⟨hk, hk.2⟩ : _ ∧ k_ ≠ gb534))) (fun _ hk => hk.2) (.slice Ao101 t530.length co101)) (fun _ h_ => h_.1)))) k_ hk_), (Kd.fresh' (Kd.N_lt (by (with_reducible repeat (first | apply Kd.N_alloc | apply Kd.N_drewN | apply Kd.N_drew)); exact (Kd.N_mono (Kd.N_far (p := ⟨gb534, 0, none⟩) (Kd.N_mono HO532.out (fun k_ hk => (⟨hk, hk.2⟩ : _ ∧ k_ ≠ gb534))) (fun _ hk => hk.2) (.slice Ao101 t530.length co101)) (fun _ h_ => h_.1)))) k_ hk_), (Kd.freshB (g := gb521) (o := .cells #[.int .i64 a0_0, .slice A0_1 l0_1.length c0_1] 25 (0, 0)) (y13 NB521_534.out BK521.out) k_ hk_), (Kd.freshB (g := gb522) (o := .cells #[.int .i64 a2_0, .slice A2_1 l2_1.length c2_1] 25 (0, 0)) (y13 NB522_534.out BK522.out) k_ hk_), (Kd.freshB (g := gb523) (o := .cells #[.int .i64 0, .slice none 0 0] 25 (0, 0)) (y13 NB523_534.out BK523.out) k_ hk_), (Kd.freshB (g := gb529) (o := .cells #[.int .i64 t524, .slice Ao98 t525.length co98] 25 (0, 0)) (y13 NB529_534.out BK529.out) k_ hk_), (Kd.freshB (g := gb534) (o := .cells #[.slice Ao101 t530.length co101] 50 (0, 0)) (by (with_reducible repeat (first | refine blk_drewN ?_ _ | refine blk_drew ?_ | refine blk_alloc ?_ _)); apply blk_put (i := 0); (case h => exact y0 BK534.out); (case e => rfl)) k_ hk_)⟩)) (below_size (y14 HB.out GE521.out GE522.out GE523.out GE529.out GE534.out))); replace HO527 := Aside0.mk (Kd.N_elder' (by (with_reducible repeat (first | apply Kd.N_alloc | apply Kd.N_drewN | apply Kd.N_drew)); exact (Kd.N_mono (Kd.N_far (p := ⟨gb534, 0, none⟩) (Kd.N_mono HO527.out (fun k_ hk => (⟨hk, hk.2⟩ : _ ∧ k_ ≠ gb534))) (fun _ hk => hk.2) (.slice Ao101 t530.length co101)) (fun _ h_ => h_.1))) (Kd.N_base ho0) hb); replace HO532 := Aside0.mk (Kd.N_elder' (by (with_reducible repeat (first | apply Kd.N_alloc | apply Kd.N_drewN | apply Kd.N_drew)); exact (Kd.N_mono (Kd.N_far (p := ⟨gb534, 0, none⟩) (Kd.N_mono HO532.out (fun k_ hk => (⟨hk, hk.2⟩ : _ ∧ k_ ≠ gb534))) (fun _ hk => hk.2) (.slice Ao101 t530.length co101)) (fun _ h_ => h_.1))) (Kd.N_base ho0) hb); replace BK521 := zbf BK521 NB521_534 hb; replace BK522 := zbf BK522 NB522_534 hb; replace BK523 := zbf BK523 NB523_534 hb; replace BK529 := zbf BK529 NB529_534 hb; replace BK534 := Aside0.mk (blk_below (g := gb534) (o := .cells #[.slice Ao101 t530.length co101] 50 (0, 0)) (by (with_reducible repeat (first | refine blk_drewN ?_ _ | refine blk_drew ?_ | refine blk_alloc ?_ _)); apply blk_put (i := 0); (case h => exact y0 BK534.out); (case e => rfl)) hb); replace HB := Aside0.mk (below_step (y14 HB.out GE521.out GE522.out GE523.out GE529.out GE534.out) hb); (try clear hb); (try clear hb2); (try clear hk); (try clear hi); (try clear ho0)) | ((with_reducible refine gate_dst (N := 12) rfl ?_); refine zbx 12 #[.slice none 0 0] 50 ?_; intro gb539 hg w110 hbox hb; replace HO0_1 := Aside0.mk (Kd.V_below (Kd.V_elderB (y10 HO0_1.out) gb539 (Nat.le_of_eq hg.symm)) hb); replace HO2_1 := Aside0.mk (Kd.V_below (Kd.V_elderB (y10 HO2_1.out) gb539 (Nat.le_of_eq hg.symm)) hb); replace HO527 := Aside0.mk (Kd.N_below (Kd.N_elderB (y3 HO527.out) gb539 (Nat.le_of_eq hg.symm)) hb); replace HO532 := Aside0.mk (Kd.N_below (Kd.N_elderB (y3 HO532.out) gb539 (Nat.le_of_eq hg.symm)) hb); replace HO537 := Aside0.mk (Kd.N_below (Kd.N_elderB (y3 HO537.out) gb539 (Nat.le_of_eq hg.symm)) hb); have BK539 := Aside0.mk hbox; have GW539 := Aside0.mk ((y32 hg HB.out GE521.out GE522.out GE523.out GE529.out GE534.out : w.heap.size ≤ gb539)); have GE539 := Aside0.mk ((y32 hg HB.out GE521.out GE522.out GE523.out GE529.out GE534.out : w.heap.size ≤ gb539)); replace HB := Aside0.mk (below_step (y14 HB.out GE521.out GE522.out GE523.out GE529.out GE534.out) hb); have NB521_539 := zltn hg BK521; have NB539_521 := zgtn hg BK521; replace BK521 := zbb BK521 hb; have NB522_539 := zltn hg BK522; have NB539_522 := zgtn hg BK522; replace BK522 := zbb BK522 hb; have NB523_539 := zltn hg BK523; have NB539_523 := zgtn hg BK523; replace BK523 := zbb BK523 hb; have NB529_539 := zltn hg BK529; have NB539_529 := zgtn hg BK529; replace BK529 := zbb BK529 hb; have NB534_539 := zltn hg BK534; have NB539_534 := zgtn hg BK534; replace BK534 := zbb BK534 hb; clear hb hbox hg; obtain ⟨Ao111, co111, eo111⟩ := Kd.N_slice HO537.out; subst eo111; have hnb112 := NB539_521.out; have hnc112 := NB521_539.out; have hnb113 := NB539_522.out; have hnc113 := NB522_539.out; have hnb114 := NB539_523.out; have hnc114 := NB523_539.out; have hnb115 := NB539_529.out; have hnc115 := NB529_539.out; have hnb116 := NB539_534.out; have hnc116 := NB534_539.out; have hcz117_0 := zh BK539; have hfz117_0 := zfr BK539 0; have hcz118_0 := zh BK523; have hcz118_1 := zh1 BK523; have hfz118_0 := zfr BK523 0; have hfz118_1 := zfr BK523 1))
   refine bodyPost_ret (results_ct rfl _ _ gb523 25 #[.int .i64 0, .slice none 0 0] (0, 0) _ rfl (by (with_reducible repeat (first | refine blk_drewN ?_ _ | refine blk_drew ?_ | refine blk_alloc ?_ _)); refine blk_put (cs := #[.int .i64 0, .slice none 0 0]) ?_ 1 _ rfl; (with_reducible repeat (first | refine blk_drewN ?_ _ | refine blk_drew ?_ | refine blk_alloc ?_ _)); refine blk_put (cs := #[.int .i64 0, .slice none 0 0]) ?_ 0 _ rfl; (with_reducible repeat (first | refine blk_drewN ?_ _ | refine blk_drew ?_ | refine blk_alloc ?_ _)); refine blk_far ?_ NB523_539.out _; (with_reducible repeat (first | refine blk_drewN ?_ _ | refine blk_drew ?_ | refine blk_alloc ?_ _)); exact BK523.out) Try.underlying25 rfl (by kernel_rfl)) rfl ?_
   exact ⟨_, y19, y37, (y20 HB.out GE521.out GE522.out GE523.out GE529.out GE534.out GE539.out)⟩
 ·replace c5 := Bool.eq_false_iff.mpr c5
  subst c5
  rw [if_neg (show ¬ (false = true) by decide)] at H
  simp only [Option.some.injEq, Prod.mk.injEq] at H
  obtain ⟨rfl, rfl, rfl⟩ := H
  go_enter Try.func24, Try.ntmps24
  go_wp2_with (first | ((with_reducible refine gate_dst (N := 3) rfl ?_); refine zbx 3 #[.int .i64 a0_0, .slice A0_1 l0_1.length c0_1] 25 ?_; intro gb521 hg w119 hbox hb; replace HO0_1 := Aside0.mk (Kd.V_below (Kd.V_elderB (y10 HO0_1.out) gb521 (Nat.le_of_eq hg.symm)) hb); replace HO2_1 := Aside0.mk (Kd.V_below (Kd.V_elderB (y10 HO2_1.out) gb521 (Nat.le_of_eq hg.symm)) hb); have BK521 := Aside0.mk hbox; have GW521 := Aside0.mk ((y9 hg HB.out : w.heap.size ≤ gb521)); have GE521 := Aside0.mk ((y9 hg HB.out : w.heap.size ≤ gb521)); replace HB := Aside0.mk (below_step (y5 HB.out) hb); clear hb hbox hg) | ((with_reducible refine gate_dst (N := 5) rfl ?_); refine zbx 5 #[.int .i64 a2_0, .slice A2_1 l2_1.length c2_1] 25 ?_; intro gb522 hg w120 hbox hb; replace HO0_1 := Aside0.mk (Kd.V_below (Kd.V_elderB (y10 HO0_1.out) gb522 (Nat.le_of_eq hg.symm)) hb); replace HO2_1 := Aside0.mk (Kd.V_below (Kd.V_elderB (y10 HO2_1.out) gb522 (Nat.le_of_eq hg.symm)) hb); have BK522 := Aside0.mk hbox; have GW522 := Aside0.mk ((y11 hg HB.out GE521.out : w.heap.size ≤ gb522)); have GE522 := Aside0.mk ((y11 hg HB.out GE521.out : w.heap.size ≤ gb522)); replace HB := Aside0.mk (below_step (y6 HB.out GE521.out) hb); have NB521_522 := zltn hg BK521; have NB522_521 := zgtn hg BK521; replace BK521 := zbb BK521 hb; clear hb hbox hg) | ((with_reducible refine gate_dst (N := 6) rfl ?_); refine zbx 6 #[.int .i64 0, .slice none 0 0] 25 ?_; intro gb523 hg w121 hbox hb; replace HO0_1 := Aside0.mk (Kd.V_below (Kd.V_elderB (y10 HO0_1.out) gb523 (Nat.le_of_eq hg.symm)) hb); replace HO2_1 := Aside0.mk (Kd.V_below (Kd.V_elderB (y10 HO2_1.out) gb523 (Nat.le_of_eq hg.symm)) hb); have BK523 := Aside0.mk hbox; have GW523 := Aside0.mk ((y16 hg HB.out GE521.out GE522.out : w.heap.size ≤ gb523)); have GE523 := Aside0.mk ((y16 hg HB.out GE521.out GE522.out : w.heap.size ≤ gb523)); replace HB := Aside0.mk (below_step (y2 HB.out GE521.out GE522.out) hb); have NB521_523 := zltn hg BK521; have NB523_521 := zgtn hg BK521; replace BK521 := zbb BK521 hb; have NB522_523 := zltn hg BK522; have NB523_522 := zgtn hg BK522; replace BK522 := zbb BK522 hb; clear hb hbox hg; have hnb122 := NB521_522.out; have hnc122 := NB522_521.out; have hnb123 := NB521_523.out; have hnc123 := NB523_521.out; have hcz124_0 := zh BK521; have hcz124_1 := zh1 BK521; have hfz124_0 := zfr BK521 0; have hfz124_1 := zfr BK521 1) | ((with_reducible refine gate_callee (f := 14) rfl ?_); refine goesL_ (some 16) rfl rfl Try.func14 (by kernel_rfl) rfl #[.agg #[.int .i64 a0_0, .slice A0_1 l0_1.length c0_1], .slice A1 l1.length c1] rfl y8 ?_; (with_reducible refine (impl_ValAt.calls k a0_0 (fun k_ => (((((P0_1_ k_ ∨ P2_1_ k_) ∨ w.heap.size ≤ k_) ∧ k_ ≠ gb521) ∧ k_ ≠ gb522) ∧ k_ ≠ gb523)) _ _ l0_1 _ _ l1 t524 t525 false _ ?side1 ?side2 ?side3 A4.out).mono ?_); (case side1 => exact HO0_1.out); (case side2 => exact y15 HR1.out HB.out); (case side3 => exact HC1.out); rintro e w125 ⟨v526, rfl, ho0, hb⟩; refine ⟨_, rfl, ?_⟩; replace HO0_1 := Aside0.mk (Kd.V_elder' (y10 HO0_1.out) (Kd.N_base ho0) hb); replace HO2_1 := Aside0.mk (Kd.V_elder' (y10 HO2_1.out) (Kd.N_base ho0) hb); have HO527 := Aside0.mk (Kd.N_lower (Kd.N_mono (ok' := fun k_ => ((P0_1_ k_ ∨ P2_1_ k_) ∨ w.heap.size ≤ k_) ∧ k_ ≠ gb521 ∧ k_ ≠ gb522 ∧ k_ ≠ gb523) ho0 (fun k_ hk_ => ⟨Or.elim hk_ (fun hs_ => hs_.1.1.1) (fun hn_ => (.inr (Nat.le_trans (below_size (y4 HB.out GE521.out GE522.out GE523.out)) hn_))), Or.elim hk_ (fun hs_ => hs_.1.1.2) (fun hn_ => (Kd.freshB (g := gb521) (o := .cells #[.int .i64 a0_0, .slice A0_1 l0_1.length c0_1] 25 (0, 0)) (y0 BK521.out) k_ hn_)), Or.elim hk_ (fun hs_ => hs_.1.2) (fun hn_ => (Kd.freshB (g := gb522) (o := .cells #[.int .i64 a2_0, .slice A2_1 l2_1.length c2_1] 25 (0, 0)) (y0 BK522.out) k_ hn_)), Or.elim hk_ (fun hs_ => hs_.2) (fun hn_ => (Kd.freshB (g := gb523) (o := .cells #[.int .i64 0, .slice none 0 0] 25 (0, 0)) (y0 BK523.out) k_ hn_))⟩)) (below_size (y4 HB.out GE521.out GE522.out GE523.out))); replace BK521 := zbb BK521 hb; replace BK522 := zbb BK522 hb; replace BK523 := zbb BK523 hb; replace HB := Aside0.mk (below_step (y4 HB.out GE521.out GE522.out GE523.out) hb); (try clear hb); (try clear hb2); (try clear hk); (try clear hi); (try clear ho0)) | ((with_reducible refine gate_dst (N := 8) rfl ?_); refine zbx 8 #[.int .i64 0, .slice none 0 0] 25 ?_; intro gb529 hg w126 hbox hb; replace HO0_1 := Aside0.mk (Kd.V_below (Kd.V_elderB (y10 HO0_1.out) gb529 (Nat.le_of_eq hg.symm)) hb); replace HO2_1 := Aside0.mk (Kd.V_below (Kd.V_elderB (y10 HO2_1.out) gb529 (Nat.le_of_eq hg.symm)) hb); replace HO527 := Aside0.mk (Kd.N_below (Kd.N_elderB (y3 HO527.out) gb529 (Nat.le_of_eq hg.symm)) hb); have BK529 := Aside0.mk hbox; have GW529 := Aside0.mk ((y22 hg HB.out GE521.out GE522.out GE523.out : w.heap.size ≤ gb529)); have GE529 := Aside0.mk ((y22 hg HB.out GE521.out GE522.out GE523.out : w.heap.size ≤ gb529)); replace HB := Aside0.mk (below_step (y4 HB.out GE521.out GE522.out GE523.out) hb); have NB521_529 := zltn hg BK521; have NB529_521 := zgtn hg BK521; replace BK521 := zbb BK521 hb; have NB522_529 := zltn hg BK522; have NB529_522 := zgtn hg BK522; replace BK522 := zbb BK522 hb; have NB523_529 := zltn hg BK523; have NB529_523 := zgtn hg BK523; replace BK523 := zbb BK523 hb; clear hb hbox hg; have hnb127 := NB529_521.out; have hnc127 := NB521_529.out; have hnb128 := NB529_522.out; have hnc128 := NB522_529.out; have hnb129 := NB529_523.out; have hnc129 := NB523_529.out; have hcz130_0 := zh BK529; have hcz130_1 := zh1 BK529; have hfz130_0 := zfr BK529 0; have hfz130_1 := zfr BK529 1; obtain ⟨Ao131, co131, eo131⟩ := Kd.N_slice HO527.out; subst eo131; have hnb132 := NB523_522.out; have hnc132 := NB522_523.out; have hcz133_0 := zh BK523; have hcz133_1 := zh1 BK523; have hfz133_0 := zfr BK523 0; have hfz133_1 := zfr BK523 1))
  refine bodyPost_ret (results_ct rfl _ _ gb523 25 #[.int .i64 0, .slice none 0 0] (0, 0) _ rfl (by (with_reducible repeat (first | refine blk_drewN ?_ _ | refine blk_drew ?_ | refine blk_alloc ?_ _)); refine blk_put (cs := #[.int .i64 0, .slice none 0 0]) ?_ 1 _ rfl; (with_reducible repeat (first | refine blk_drewN ?_ _ | refine blk_drew ?_ | refine blk_alloc ?_ _)); refine blk_put (cs := #[.int .i64 0, .slice none 0 0]) ?_ 0 _ rfl; (with_reducible repeat (first | refine blk_drewN ?_ _ | refine blk_drew ?_ | refine blk_alloc ?_ _)); refine blk_far ?_ NB523_529.out _; (with_reducible repeat (first | refine blk_drewN ?_ _ | refine blk_drew ?_ | refine blk_alloc ?_ _)); refine blk_far ?_ NB523_529.out _; (with_reducible repeat (first | refine blk_drewN ?_ _ | refine blk_drew ?_ | refine blk_alloc ?_ _)); exact BK523.out) Try.underlying25 rfl (by kernel_rfl)) rfl ?_
  exact ⟨_, y19, y37, (y7 HB.out GE521.out GE522.out GE523.out GE529.out)⟩
end Go.Proofs.Ythfflieeifakdaa.PA
end
section
namespace Go.Proofs.Ythfflieeifakdaa.PA
open Go.RowKit Go.Proofs.YthfflieeifakdaaW.PrintWords Go.Proofs.YthfflieeifakdaaW.PrintLast Go.Proofs.YthfflieeifakdaaW.PrintMore
attribute [local go_sem] max2_int min2_int max_two min_two max_three min_three max_four min_four
set_option linter.unusedVariables false
set_option linter.unusedSimpArgs false
def laws_FnValSame.j0 : Nat → List Int → Bool → Bool → Bool → Int → List (S25) → Int → List (S25) → Int → List (S25) → Option (Bool)
 | 0, _, _, _, _, _, _, _, _, _, _ => none
 | k + 1, x4, x6, x8, x43, x553000, x553001, x559000, x559001, x565000, x565001 => if x43 = true then (if (x8 == x6) = true then ((laws_lhVal.f k x565000 x565001 x559000 x559001).bind fun t566 => (some t566)) else (some false)) else ((impl_ValPut.f k x553000 x553001 x4 x565000 x565001).bind fun bt567 => (if bt567.2.2 = true then ((laws_lhVal.f k bt567.1 bt567.2.1 x553000 x553001).bind fun t573 => (some t573)) else (some false)))
def laws_FnValSame.f (k : Nat) (l0 : List Int) : Option (Bool) := if (l0.length : Int) > 1048576 then (some true) else ((spec_DrawValAt.f k l0).bind fun bt545 => ((spec_ValAt.f k bt545.1 bt545.2.1 bt545.2.2).bind fun bt553 => ((impl_ValAt.f k bt545.1 bt545.2.1 bt545.2.2).bind fun bt559 => (if (bt559.2.2 != bt553.2.2) = true then (laws_FnValSame.j0 k bt545.2.2 bt553.2.2 bt559.2.2 true bt545.1 bt545.2.1 bt553.1 bt553.2.1 bt559.1 bt559.2.1) else ((laws_lhVal.f k bt559.1 bt559.2.1 bt553.1 bt553.2.1).bind fun t565 => (if t565 = true then (laws_FnValSame.j0 k bt545.2.2 bt553.2.2 bt559.2.2 (!bt559.2.2) bt545.1 bt545.2.1 bt553.1 bt553.2.1 bt559.1 bt559.2.1) else (laws_FnValSame.j0 k bt545.2.2 bt553.2.2 bt559.2.2 true bt545.1 bt545.2.1 bt553.1 bt553.2.1 bt559.1 bt559.2.1)))))))
theorem laws_FnValSame.mono_l : ∀ k, (∀ y0 y1 y2 y3 y4 y5 y6 y7 y8 y9, LeO (laws_FnValSame.j0 k y0 y1 y2 y3 y4 y5 y6 y7 y8 y9) (laws_FnValSame.j0 (k + 1) y0 y1 y2 y3 y4 y5 y6 y7 y8 y9))
 | 0 => fun _ _ _ _ _ _ _ _ _ _ r h => by simp [laws_FnValSame.j0] at h
 | k + 1 => by
  have ih0 := laws_FnValSame.mono_l k
  ·intro y0 y1 y2 y3 y4 y5 y6 y7 y8 y9
   unfold laws_FnValSame.j0
   repeat' first
   | (with_reducible exact ih0 _ _ _ _ _ _ _ _ _ _)
   | (with_reducible exact impl_ValAt.mono _ _ _ _)
   | (with_reducible exact impl_ValPut.mono _ _ _ _ _ _)
   | (with_reducible exact laws_lhVal.mono _ _ _ _ _)
   | (with_reducible exact spec_DrawValAt.mono _ _)
   | (with_reducible exact spec_ValAt.mono _ _ _ _)
   | (with_reducible exact LeO.refl _)
   | (with_reducible exact LeO.none _)
   | (with_reducible refine LeO.ite ?_ ?_)
   | (with_reducible refine LeO.bind ?_ (fun _ => ?_))
   | exact ih0 _ _ _ _ _ _ _ _ _ _
   | exact impl_ValAt.mono _ _ _ _
   | exact impl_ValPut.mono _ _ _ _ _ _
   | exact laws_lhVal.mono _ _ _ _ _
   | exact spec_DrawValAt.mono _ _
   | exact spec_ValAt.mono _ _ _ _
   | exact LeO.none _
   | refine LeO.ite ?_ ?_
   | refine LeO.bind ?_ (fun _ => ?_)
theorem laws_FnValSame.mono : ∀ a0 k, LeO (laws_FnValSame.f k a0) (laws_FnValSame.f (k + 1) a0) := by
 intro a0 k
 have ih0 := laws_FnValSame.mono_l k
 unfold laws_FnValSame.f
 repeat' first
   | (with_reducible exact ih0 _ _ _ _ _ _ _ _ _ _)
   | (with_reducible exact impl_ValAt.mono _ _ _ _)
   | (with_reducible exact impl_ValPut.mono _ _ _ _ _ _)
   | (with_reducible exact laws_lhVal.mono _ _ _ _ _)
   | (with_reducible exact spec_DrawValAt.mono _ _)
   | (with_reducible exact spec_ValAt.mono _ _ _ _)
   | (with_reducible exact LeO.refl _)
   | (with_reducible exact LeO.none _)
   | (with_reducible refine LeO.ite ?_ ?_)
   | (with_reducible refine LeO.bind ?_ (fun _ => ?_))
   | exact ih0 _ _ _ _ _ _ _ _ _ _
   | exact impl_ValAt.mono _ _ _ _
   | exact impl_ValPut.mono _ _ _ _ _ _
   | exact laws_lhVal.mono _ _ _ _ _
   | exact spec_DrawValAt.mono _ _
   | exact spec_ValAt.mono _ _ _ _
   | exact LeO.none _
   | refine LeO.ite ?_ ?_
   | refine LeO.bind ?_ (fun _ => ?_)
set_option maxHeartbeats 8000000 in
set_option maxRecDepth 100000 in
theorem laws_FnValSame.calls (k : Nat) (A0 : Option Addr) (c0 : Nat) (l0 : List Int) (r : Bool) (w : World) (hr0 : Kd.C (Kd.int .u8) w A0 l0.length l0) (hc0 : l0.length ≤ c0) (h : laws_FnValSame.f k l0 = some r) (hr_ : Aside0 (r = true)) :
  Calls Try.prog 5 #[.slice A0 l0.length c0] w fun e w' => e = .returned (.bool r) ∧ Below w.heap.size w w' := by
 have hu25 := Try.underlying25
 have HR0 := Aside0.mk hr0
 have HC0 := Aside0.mk hc0
 clear hr0 hc0
 have HB := Aside0.mk (Below.refl w.heap.size w)
 have H : (if (l0.length : Int) > 1048576 then (some true) else ((spec_DrawValAt.f k l0).bind fun bt545 => ((spec_ValAt.f k bt545.1 bt545.2.1 bt545.2.2).bind fun bt553 => ((impl_ValAt.f k bt545.1 bt545.2.1 bt545.2.2).bind fun bt559 => (if (bt559.2.2 != bt553.2.2) = true then (laws_FnValSame.j0 k bt545.2.2 bt553.2.2 bt559.2.2 true bt545.1 bt545.2.1 bt553.1 bt553.2.1 bt559.1 bt559.2.1) else ((laws_lhVal.f k bt559.1 bt559.2.1 bt553.1 bt553.2.1).bind fun t565 => (if t565 = true then (laws_FnValSame.j0 k bt545.2.2 bt553.2.2 bt559.2.2 (!bt559.2.2) bt545.1 bt545.2.1 bt553.1 bt553.2.1 bt559.1 bt559.2.1) else (laws_FnValSame.j0 k bt545.2.2 bt553.2.2 bt559.2.2 true bt545.1 bt545.2.1 bt553.1 bt553.2.1 bt559.1 bt559.2.1)))))))) = some r := h
 clear h
 by_cases c2 : (l0.length : Int) > 1048576
 ·rw [if_pos c2] at H
  have c2b0 : decide (1048576 < (l0.length : Int)) = true := decide_eq_true c2
  have c2b1 : decide (1048576 < l0.length) = true := decide_eq_true (by omega)
  clear c2
  clear hr_
  obtain rfl := Option.some.inj H
  go_enter Try.func5, Try.ntmps5
  go_wp2
  go_ret
  exact ⟨y19, (y5 HB.out)⟩
 ·rw [if_neg c2] at H
  have c2b0 : decide (1048576 < (l0.length : Int)) = false := decide_eq_false c2
  have c2b1 : decide (1048576 < l0.length) = false := decide_eq_false (by omega)
  clear c2
  obtain ⟨⟨t545, t546, t549⟩, A30, H⟩ := ob H
  have A3 := Aside0.mk A30
  clear A30
  obtain ⟨⟨t553, t554, t557⟩, A40, H⟩ := ob H
  have A4 := Aside0.mk A40
  clear A40
  obtain ⟨⟨t559, t560, t563⟩, A50, H⟩ := ob H
  have A5 := Aside0.mk A50
  clear A50
  have HC6 := Aside0.mk H
  clear H
  go_enter Try.func5, Try.ntmps5
  go_upto_region 6 with (first | ((with_reducible refine gate_callee (f := 12) rfl ?_); refine goesL_ (some 16) rfl rfl Try.func12 (by kernel_rfl) rfl #[.slice A0 l0.length c0] rfl y8 ?_; (with_reducible refine (spec_DrawValAt.calls k _ _ l0 t545 t546 t549 _ ?side1 ?side2 A3.out).mono ?_); (case side1 => exact y51 HR0.out); (case side2 => exact HC0.out); rintro e w7 ⟨v547, v550, rfl, ho0, ho1, hb⟩; refine ⟨_, rfl, ?_⟩; have HO548 := Aside0.mk (Kd.N_lower (Kd.N_mono (ok' := fun k_ => some k_ ≠ (v550 : Value).ownBlock) ho0 (fun k_ hk_ => hk_.2)) (below_size (y5 HB.out))); have HO551 := Aside0.mk (Kd.R_lower (Kd.R_mono (ok' := fun k_ => True) ho1 (fun _ _ => trivial)) (below_size (y5 HB.out))); replace HB := Aside0.mk (below_step (y5 HB.out) hb); (try clear hb); (try clear hb2); (try clear hk); (try clear hi); (try clear ho0); (try clear ho1)) | ((with_reducible refine gate_dst (N := 3) rfl ?_); refine zbx 3 #[.int .i64 0, .slice none 0 0] 25 ?_; intro gb552 hg w8 hbox hb; replace HO548 := Aside0.mk (Kd.N_below (Kd.N_elderB (y3 HO548.out) gb552 (Nat.le_of_eq hg.symm)) hb); replace HO551 := Aside0.mk (Kd.R_below (y12 HO551.out) hb); have BK552 := Aside0.mk hbox; have GW552 := Aside0.mk ((y9 hg HB.out : w.heap.size ≤ gb552)); have GE552 := Aside0.mk ((y9 hg HB.out : w.heap.size ≤ gb552)); replace HB := Aside0.mk (below_step (y5 HB.out) hb); clear hb hbox hg; have hcz9_0 := zh BK552; have hcz9_1 := zh1 BK552; have hfz9_0 := zfr BK552 0; have hfz9_1 := zfr BK552 1; obtain ⟨Ao10, co10, eo10⟩ := Kd.N_slice HO548.out; subst eo10) | ((with_reducible refine gate_store (t := 25) (p := 3) rfl ?_); refine store_event (t := 25) (p := 3) (v := ?vo_w11) (w1 := ((w8.setCell ⟨gb552, 0, none⟩ (.int .i64 t545)).setCell ⟨gb552, 1, none⟩ (.slice Ao10 t546.length co10))) ?hg ?ho ?hn ?hr ?_; (case ho => rfl); (case hg => rfl); (case hn => rfl); (case hr => first | (go_simp; done) | (go_simp; rfl)); intro w11 hw; have n0_ : Aside0 (Kd.N k25 25 w11 w.heap.size (fun k_ => some k_ ≠ (v550 : Value).ownBlock ∧ k_ ≠ gb552) (.slice Ao10 t546.length co10) t546) := ⟨(by rw [hw]; exact (by (with_reducible repeat (first | apply Kd.N_alloc | apply Kd.N_drewN | apply Kd.N_drew)); exact Kd.N_mono (Kd.N_far (p := ⟨gb552, 1, none⟩) (Kd.N_far (p := ⟨gb552, 0, none⟩) (Kd.N_mono HO548.out (fun k_ hk => (⟨hk, hk.2⟩ : _ ∧ k_ ≠ gb552))) (fun _ hk => hk.2) (.int .i64 t545)) (fun _ hk => hk.2) (.slice Ao10 t546.length co10)) (fun _ hk => ⟨hk.1.1, hk.1.2⟩)))⟩; have n1_ : Aside0 (Kd.R (Kd.int .i64) 3 w11 w.heap.size (fun _ => True) v550 t549) := ⟨(by rw [hw]; exact (by (with_reducible repeat (first | apply Kd.R_alloc | apply Kd.R_drewN | apply Kd.R_drew)); exact Kd.R_mono (Kd.R_far (p := ⟨gb552, 1, none⟩) (Kd.R_far (p := ⟨gb552, 0, none⟩) (Kd.R_types HO551.out BK552.out (by decide)) (fun _ hk => hk.2) (.int .i64 t545)) (fun _ hk => hk.2) (.slice Ao10 t546.length co10)) (fun _ hk => trivial)))⟩; have n2_ : Aside0 (w11.heap[gb552]? = some (.cells #[.int .i64 t545, .slice Ao10 t546.length co10] 25 (0, 0))) := ⟨(by rw [hw]; exact (by (with_reducible repeat (first | refine blk_drewN ?_ _ | refine blk_drew ?_ | refine blk_alloc ?_ _)); refine blk_put (cs := #[.int .i64 t545, .slice none 0 0]) ?_ 1 _ rfl; (with_reducible repeat (first | refine blk_drewN ?_ _ | refine blk_drew ?_ | refine blk_alloc ?_ _)); apply blk_put (i := 0); (case h => exact y0 BK552.out); (case e => rfl)))⟩; have n3_ : Aside0 (Below w.heap.size w w11) := ⟨(by rw [hw]; exact (y6 HB.out GE552.out))⟩; clear hw; clear HO548; clear HO551; clear BK552; clear HB; have HO548 := n0_; have HO551 := n1_; have BK552 := n2_; have HB := n3_; clear n0_ n1_ n2_ n3_; have hcz12_0 := zh BK552; have hcz12_1 := zh1 BK552; have hfz12_0 := zfr BK552 0; have hfz12_1 := zfr BK552 1; obtain ⟨Ao13, co13, eo13⟩ := Kd.R_slice HO551.out; subst eo13) | ((with_reducible refine gate_callee (f := 13) rfl ?_); refine goesL_ (some 22) rfl rfl Try.func13 (by kernel_rfl) rfl #[.agg #[.int .i64 t545, .slice Ao10 t546.length co10], .slice Ao13 t549.length co13] rfl y8 ?_; (with_reducible refine (spec_ValAt.calls k t545 (fun k_ => (some k_ ≠ (.slice Ao13 t549.length co13 : Value).ownBlock ∧ k_ ≠ gb552)) _ _ t546 _ _ t549 t553 t554 t557 _ ?side1 ?side2 ?side3 A4.out).mono ?_); (case side1 => exact Kd.N_V (HO548.out)); (case side2 => exact y39 HO551.out); (case side3 => exact (Kd.R_reads' HO551.out).2.1); rintro e w14 ⟨v555, rfl, ho0, hb⟩; refine ⟨_, rfl, ?_⟩; replace HO548 := Aside0.mk (Kd.N_elder' (y3 HO548.out) (Kd.R_base ho0) hb); have HO556 := Aside0.mk (Kd.N_lower (Kd.N_mono (ok' := fun k_ => some k_ ≠ (.slice Ao13 t549.length co13 : Value).ownBlock ∧ k_ ≠ gb552) (Kd.R_N (Kd.R_bound ho0)) (fun k_ hk_ => ⟨(Kd.fresh' (Kd.R_lt (y12 HO551.out)) k_ hk_.2.1), (Kd.freshB (g := gb552) (o := .cells #[.int .i64 t545, .slice Ao10 t546.length co10] 25 (0, 0)) (y0 BK552.out) k_ hk_.2.1)⟩)) (below_size (y6 HB.out GE552.out))); replace HO551 := Aside0.mk (Kd.R_below (y12 HO551.out) hb); replace BK552 := zbb BK552 hb; replace HB := Aside0.mk (below_step (y6 HB.out GE552.out) hb); (try clear hb); (try clear hb2); (try clear hk); (try clear hi); (try clear ho0)) | ((with_reducible refine gate_dst (N := 5) rfl ?_); refine zbx 5 #[.int .i64 0, .slice none 0 0] 25 ?_; intro gb558 hg w15 hbox hb; replace HO548 := Aside0.mk (Kd.N_below (Kd.N_elderB (y3 HO548.out) gb558 (Nat.le_of_eq hg.symm)) hb); replace HO551 := Aside0.mk (Kd.R_below (y12 HO551.out) hb); replace HO556 := Aside0.mk (Kd.N_below (Kd.N_elderB (y3 HO556.out) gb558 (Nat.le_of_eq hg.symm)) hb); have BK558 := Aside0.mk hbox; have GW558 := Aside0.mk ((y11 hg HB.out GE552.out : w.heap.size ≤ gb558)); have GE558 := Aside0.mk ((y11 hg HB.out GE552.out : w.heap.size ≤ gb558)); replace HB := Aside0.mk (below_step (y6 HB.out GE552.out) hb); have NB552_558 := zltn hg BK552; have NB558_552 := zgtn hg BK552; replace BK552 := zbb BK552 hb; clear hb hbox hg; have hnb16 := NB558_552.out; have hnc16 := NB552_558.out; have hcz17_0 := zh BK558; have hcz17_1 := zh1 BK558; have hfz17_0 := zfr BK558 0; have hfz17_1 := zfr BK558 1; obtain ⟨Ao18, co18, eo18⟩ := Kd.N_slice HO556.out; subst eo18) | ((with_reducible refine gate_store (t := 25) (p := 5) rfl ?_); refine store_event (t := 25) (p := 5) (v := ?vo_w19) (w1 := ((w15.setCell ⟨gb558, 0, none⟩ (.int .i64 t553)).setCell ⟨gb558, 1, none⟩ (.slice Ao18 t554.length co18))) ?hg ?ho ?hn ?hr ?_; (case ho => rfl); (case hg => rfl); (case hn => rfl); (case hr => first | (go_simp; done) | (go_simp; rfl)); intro w19 hw; have n0_ : Aside0 (Kd.N k25 25 w19 w.heap.size (fun k_ => some k_ ≠ (.slice Ao13 t549.length co13 : Value).ownBlock ∧ some k_ ≠ (.slice Ao18 t554.length co18 : Value).ownBlock ∧ k_ ≠ gb552 ∧ k_ ≠ gb558) (.slice Ao10 t546.length co10) t546) := ⟨(by rw [hw]; exact (by (with_reducible repeat (first | apply Kd.N_alloc | apply Kd.N_drewN | apply Kd.N_drew)); exact Kd.N_mono (Kd.N_far (p := ⟨gb558, 1, none⟩) (Kd.N_far (p := ⟨gb558, 0, none⟩) (Kd.N_mono HO548.out (fun k_ hk => (⟨hk, hk.2⟩ : _ ∧ k_ ≠ gb558))) (fun _ hk => hk.2) (.int .i64 t553)) (fun _ hk => hk.2) (.slice Ao18 t554.length co18)) (fun _ hk => ⟨hk.1.1.1.1, ⟨hk.1.1.2, ⟨hk.1.1.1.2, hk.1.2⟩⟩⟩)))⟩; have n1_ : Aside0 (Kd.R (Kd.int .i64) 3 w19 w.heap.size (fun _ => True) (.slice Ao13 t549.length co13) t549) := ⟨(by rw [hw]; exact (by (with_reducible repeat (first | apply Kd.R_alloc | apply Kd.R_drewN | apply Kd.R_drew)); exact Kd.R_mono (Kd.R_far (p := ⟨gb558, 1, none⟩) (Kd.R_far (p := ⟨gb558, 0, none⟩) (Kd.R_types HO551.out BK558.out (by decide)) (fun _ hk => hk.2) (.int .i64 t553)) (fun _ hk => hk.2) (.slice Ao18 t554.length co18)) (fun _ hk => trivial)))⟩; have n2_ : Aside0 (Kd.N k25 25 w19 w.heap.size (fun k_ => some k_ ≠ (.slice Ao13 t549.length co13 : Value).ownBlock ∧ k_ ≠ gb552 ∧ k_ ≠ gb558) (.slice Ao18 t554.length co18) t554) := ⟨(by rw [hw]; exact (by (with_reducible repeat (first | apply Kd.N_alloc | apply Kd.N_drewN | apply Kd.N_drew)); exact Kd.N_mono (Kd.N_far (p := ⟨gb558, 1, none⟩) (Kd.N_far (p := ⟨gb558, 0, none⟩) (Kd.N_mono HO556.out (fun k_ hk => (⟨hk, hk.2⟩ : _ ∧ k_ ≠ gb558))) (fun _ hk => hk.2) (.int .i64 t553)) (fun _ hk => hk.2) (.slice Ao18 t554.length co18)) (fun _ hk => ⟨hk.1.1.1, ⟨hk.1.1.2, hk.1.2⟩⟩)))⟩; have n3_ : Aside0 (w19.heap[gb552]? = some (.cells #[.int .i64 t545, .slice Ao10 t546.length co10] 25 (0, 0))) := ⟨(by rw [hw]; exact (y1 NB552_558.out BK552.out))⟩; have n4_ : Aside0 (w19.heap[gb558]? = some (.cells #[.int .i64 t553, .slice Ao18 t554.length co18] 25 (0, 0))) := ⟨(by rw [hw]; exact (by (with_reducible repeat (first | refine blk_drewN ?_ _ | refine blk_drew ?_ | refine blk_alloc ?_ _)); refine blk_put (cs := #[.int .i64 t553, .slice none 0 0]) ?_ 1 _ rfl; (with_reducible repeat (first | refine blk_drewN ?_ _ | refine blk_drew ?_ | refine blk_alloc ?_ _)); apply blk_put (i := 0); (case h => exact y0 BK558.out); (case e => rfl)))⟩; have n5_ : Aside0 (Below w.heap.size w w19) := ⟨(by rw [hw]; exact (y2 HB.out GE552.out GE558.out))⟩; clear hw; clear HO548; clear HO551; clear HO556; clear BK552; clear BK558; clear HB; have HO548 := n0_; have HO551 := n1_; have HO556 := n2_; have BK552 := n3_; have BK558 := n4_; have HB := n5_; clear n0_ n1_ n2_ n3_ n4_ n5_; have hcz20_0 := zh BK552; have hcz20_1 := zh1 BK552; have hfz20_0 := zfr BK552 0; have hfz20_1 := zfr BK552 1) | ((with_reducible refine gate_callee (f := 14) rfl ?_); refine goesL_ (some 28) rfl rfl Try.func14 (by kernel_rfl) rfl #[.agg #[.int .i64 t545, .slice Ao10 t546.length co10], .slice Ao13 t549.length co13] rfl y8 ?_; (with_reducible refine (impl_ValAt.calls k t545 (fun k_ => (some k_ ≠ (.slice Ao13 t549.length co13 : Value).ownBlock ∧ (some k_ ≠ (.slice Ao18 t554.length co18 : Value).ownBlock ∧ (k_ ≠ gb552 ∧ k_ ≠ gb558)))) _ _ t546 _ _ t549 t559 t560 t563 _ ?side1 ?side2 ?side3 A5.out).mono ?_); (case side1 => exact Kd.N_V (HO548.out)); (case side2 => exact y39 HO551.out); (case side3 => exact (Kd.R_reads' HO551.out).2.1); rintro e w21 ⟨v561, rfl, ho0, hb⟩; refine ⟨_, rfl, ?_⟩; replace HO548 := Aside0.mk (Kd.N_elder' (y3 HO548.out) (Kd.N_base ho0) hb); have HO562 := Aside0.mk (Kd.N_lower (Kd.N_mono (ok' := fun k_ => some k_ ≠ (.slice Ao13 t549.length co13 : Value).ownBlock ∧ some k_ ≠ (.slice Ao18 t554.length co18 : Value).ownBlock ∧ k_ ≠ gb552 ∧ k_ ≠ gb558) ho0 (fun k_ hk_ => ⟨Or.elim hk_ (fun hs_ => hs_.1) (fun hn_ => (Kd.fresh' (Kd.R_lt (y12 HO551.out)) k_ hn_)), Or.elim hk_ (fun hs_ => hs_.2.1) (fun hn_ => (Kd.fresh' (Kd.N_lt (y3 HO556.out)) k_ hn_)), Or.elim hk_ (fun hs_ => hs_.2.2.1) (fun hn_ => (Kd.freshB (g := gb552) (o := .cells #[.int .i64 t545, .slice Ao10 t546.length co10] 25 (0, 0)) (y0 BK552.out) k_ hn_)), Or.elim hk_ (fun hs_ => hs_.2.2.2) (fun hn_ => (Kd.freshB (g := gb558) (o := .cells #[.int .i64 t553, .slice Ao18 t554.length co18] 25 (0, 0)) (y0 BK558.out) k_ hn_))⟩)) (below_size (y2 HB.out GE552.out GE558.out))); replace HO551 := Aside0.mk (Kd.R_below (y12 HO551.out) hb); replace HO556 := Aside0.mk (Kd.N_elder' (y3 HO556.out) (Kd.N_base ho0) hb); replace BK552 := zbb BK552 hb; replace BK558 := zbb BK558 hb; replace HB := Aside0.mk (below_step (y2 HB.out GE552.out GE558.out) hb); (try clear hb); (try clear hb2); (try clear hk); (try clear hi); (try clear ho0)) | ((with_reducible refine gate_dst (N := 7) rfl ?_); refine zbx 7 #[.int .i64 0, .slice none 0 0] 25 ?_; intro gb564 hg w22 hbox hb; replace HO548 := Aside0.mk (Kd.N_below (Kd.N_elderB (y3 HO548.out) gb564 (Nat.le_of_eq hg.symm)) hb); replace HO551 := Aside0.mk (Kd.R_below (y12 HO551.out) hb); replace HO556 := Aside0.mk (Kd.N_below (Kd.N_elderB (y3 HO556.out) gb564 (Nat.le_of_eq hg.symm)) hb); replace HO562 := Aside0.mk (Kd.N_below (Kd.N_elderB (y3 HO562.out) gb564 (Nat.le_of_eq hg.symm)) hb); have BK564 := Aside0.mk hbox; have GW564 := Aside0.mk ((y16 hg HB.out GE552.out GE558.out : w.heap.size ≤ gb564)); have GE564 := Aside0.mk ((y16 hg HB.out GE552.out GE558.out : w.heap.size ≤ gb564)); replace HB := Aside0.mk (below_step (y2 HB.out GE552.out GE558.out) hb); have NB552_564 := zltn hg BK552; have NB564_552 := zgtn hg BK552; replace BK552 := zbb BK552 hb; have NB558_564 := zltn hg BK558; have NB564_558 := zgtn hg BK558; replace BK558 := zbb BK558 hb; clear hb hbox hg; have hnb23 := NB564_552.out; have hnc23 := NB552_564.out; have hnb24 := NB564_558.out; have hnc24 := NB558_564.out; have hcz25_0 := zh BK564; have hcz25_1 := zh1 BK564; have hfz25_0 := zfr BK564 0; have hfz25_1 := zfr BK564 1; obtain ⟨Ao26, co26, eo26⟩ := Kd.N_slice HO562.out; subst eo26))
  (try simp only [Act.put, List.setIfInBounds_toArray, List.set_cons_zero, List.set_cons_succ])
  go_cut [43] (fun v43 wc => ∃ (kq : Nat) (x43_5 : Bool), v43 = .bool x43_5 ∧ Aside0 (laws_FnValSame.j0 kq t549 t557 t563 x43_5 t545 t546 t553 t554 t559 t560 = some r) ∧ Aside0 (kq ≤ k) ∧ Aside0 (Kd.R (Kd.int .i64) 3 wc w.heap.size (fun _ => True) (.slice Ao13 t549.length co13) t549) ∧ Aside0 (Kd.N k25 25 wc w.heap.size (fun k_ => some k_ ≠ ((.slice Ao13 t549.length co13) : Value).ownBlock ∧ some k_ ≠ ((.slice Ao18 t554.length co18) : Value).ownBlock ∧ some k_ ≠ ((.slice Ao26 t560.length co26) : Value).ownBlock ∧ k_ ≠ gb552 ∧ k_ ≠ gb558 ∧ k_ ≠ gb564) (.slice Ao10 t546.length co10) t546) ∧ Aside0 (Kd.N k25 25 wc w.heap.size (fun k_ => some k_ ≠ ((.slice Ao13 t549.length co13) : Value).ownBlock ∧ some k_ ≠ ((.slice Ao26 t560.length co26) : Value).ownBlock ∧ k_ ≠ gb552 ∧ k_ ≠ gb558 ∧ k_ ≠ gb564) (.slice Ao18 t554.length co18) t554) ∧ Aside0 (Kd.N k25 25 wc w.heap.size (fun k_ => some k_ ≠ ((.slice Ao13 t549.length co13) : Value).ownBlock ∧ some k_ ≠ ((.slice Ao18 t554.length co18) : Value).ownBlock ∧ k_ ≠ gb552 ∧ k_ ≠ gb558 ∧ k_ ≠ gb564) (.slice Ao26 t560.length co26) t560) ∧ Aside0 (wc.heap[gb552]? = some (.cells #[.int .i64 t545, (.slice Ao10 t546.length co10)] 25 (0, 0))) ∧ Aside0 (wc.heap[gb558]? = some (.cells #[.int .i64 t553, (.slice Ao18 t554.length co18)] 25 (0, 0))) ∧ Aside0 (wc.heap[gb564]? = some (.cells #[.int .i64 t559, (.slice Ao26 t560.length co26)] 25 (0, 0))) ∧ Aside0 (Below w.heap.size w wc))
  case first =>
   have H := HC6.out
   clear HC6
   by_cases c27 : (t563 != t557) = true
   ·rw [if_pos c27] at H
    have c27b0 : (t563 != t557) = true := c27
    (try (have c27b1 : decide (t563 = t557) = false := by simpa using c27))
    (try (have c27b2 : (t563 == t557) = false := by simpa using c27))
    (try (have c27b3 : ¬ (t563 = t557) := by simpa using c27))
    clear c27
    (first | rw [c27b0] | (simp only [i64_w, i32_w]; rw [c27b0]) | skip)
    have H' := Aside0.mk H
    clear H
    go_wp2
    go_meet
    case rel => exact ⟨_, (true), y34, H', ⟨y46⟩, ⟨(by (with_reducible repeat (first | apply Kd.R_alloc | apply Kd.R_drewN | apply Kd.R_drew)); exact Kd.R_mono (Kd.R_far (p := ⟨gb564, 1, none⟩) (Kd.R_far (p := ⟨gb564, 0, none⟩) (Kd.R_types HO551.out BK564.out (by decide)) (fun _ hk => hk.2) (.int .i64 t559)) (fun _ hk => hk.2) (.slice Ao26 t560.length co26)) (fun _ hk => trivial))⟩, ⟨(by (with_reducible repeat (first | apply Kd.N_alloc | apply Kd.N_drewN | apply Kd.N_drew)); exact Kd.N_mono (Kd.N_far (p := ⟨gb564, 1, none⟩) (Kd.N_far (p := ⟨gb564, 0, none⟩) (Kd.N_mono HO548.out (fun k_ hk => (⟨hk, hk.2⟩ : _ ∧ k_ ≠ gb564))) (fun _ hk => hk.2) (.int .i64 t559)) (fun _ hk => hk.2) (.slice Ao26 t560.length co26)) (fun _ hk => ⟨hk.1.1.1.1, ⟨hk.1.1.1.2.1, ⟨hk.1.1.2, ⟨hk.1.1.1.2.2.1, ⟨hk.1.1.1.2.2.2, hk.1.2⟩⟩⟩⟩⟩))⟩, ⟨(by (with_reducible repeat (first | apply Kd.N_alloc | apply Kd.N_drewN | apply Kd.N_drew)); exact Kd.N_mono (Kd.N_far (p := ⟨gb564, 1, none⟩) (Kd.N_far (p := ⟨gb564, 0, none⟩) (Kd.N_mono HO556.out (fun k_ hk => (⟨hk, hk.2⟩ : _ ∧ k_ ≠ gb564))) (fun _ hk => hk.2) (.int .i64 t559)) (fun _ hk => hk.2) (.slice Ao26 t560.length co26)) (fun _ hk => ⟨hk.1.1.1.1, ⟨hk.1.1.2, ⟨hk.1.1.1.2.1, ⟨hk.1.1.1.2.2, hk.1.2⟩⟩⟩⟩))⟩, ⟨(by (with_reducible repeat (first | apply Kd.N_alloc | apply Kd.N_drewN | apply Kd.N_drew)); exact Kd.N_mono (Kd.N_far (p := ⟨gb564, 1, none⟩) (Kd.N_far (p := ⟨gb564, 0, none⟩) (Kd.N_mono HO562.out (fun k_ hk => (⟨hk, hk.2⟩ : _ ∧ k_ ≠ gb564))) (fun _ hk => hk.2) (.int .i64 t559)) (fun _ hk => hk.2) (.slice Ao26 t560.length co26)) (fun _ hk => ⟨hk.1.1.1, ⟨hk.1.1.2.1, ⟨hk.1.1.2.2.1, ⟨hk.1.1.2.2.2, hk.1.2⟩⟩⟩⟩))⟩, ⟨(y1 NB552_564.out BK552.out)⟩, ⟨(y1 NB558_564.out BK558.out)⟩, ⟨(by (with_reducible repeat (first | refine blk_drewN ?_ _ | refine blk_drew ?_ | refine blk_alloc ?_ _)); refine blk_put (cs := #[.int .i64 t559, .slice none 0 0]) ?_ 1 _ rfl; (with_reducible repeat (first | refine blk_drewN ?_ _ | refine blk_drew ?_ | refine blk_alloc ?_ _)); refine blk_put (cs := #[.int .i64 0, .slice none 0 0]) ?_ 0 _ rfl; (with_reducible repeat (first | refine blk_drewN ?_ _ | refine blk_drew ?_ | refine blk_alloc ?_ _)); exact BK564.out)⟩, ⟨(y4 HB.out GE552.out GE558.out GE564.out)⟩⟩
   ·rw [if_neg c27] at H
    have c27b0 : (t563 != t557) = false := by simpa using c27
    (try (have c27b1 : decide (t563 = t557) = true := by simpa using c27))
    (try (have c27b2 : (t563 == t557) = true := by simpa using c27))
    clear c27
    (first | rw [c27b0] | (simp only [i64_w, i32_w]; rw [c27b0]) | skip)
    obtain ⟨t565, A280, H⟩ := ob H
    have A28 := Aside0.mk A280
    clear A280
    by_cases c29 : t565 = true
    ·subst c29
     rw [if_pos rfl] at H
     have H' := Aside0.mk H
     clear H
     have hnb30 := NB564_552.out
     have hnc30 := NB552_564.out
     have hnb31 := NB564_558.out
     have hnc31 := NB558_564.out
     have hcz32_0 := zh BK564
     have hcz32_1 := zh1 BK564
     have hfz32_0 := zfr BK564 0
     have hfz32_1 := zfr BK564 1
     have hnb33 := NB558_552.out
     have hnc33 := NB552_558.out
     have hcz34_0 := zh BK558
     have hcz34_1 := zh1 BK558
     have hfz34_0 := zfr BK558 0
     have hfz34_1 := zfr BK558 1
     go_wp2_with (first | (go_at_call 15; (with_reducible refine (laws_lhVal.calls k t559 _ _ t560 t553 _ _ t554 true _ ?side1 ?side2 ?side3 ?side4 A28.out).mono ?_); (case side1 => refine (Kd.N_reads' (e := 25) (base := w.heap.size) (ok := fun k_ => ((some k_ ≠ (.slice Ao13 t549.length co13 : Value).ownBlock ∧ (some k_ ≠ (.slice Ao18 t554.length co18 : Value).ownBlock ∧ (k_ ≠ gb552 ∧ k_ ≠ gb558))) ∧ k_ ≠ gb564)) (n := t560.length) (c := co26) ?_).2.2; exact (by (with_reducible repeat (first | apply Kd.N_alloc | apply Kd.N_drewN | apply Kd.N_drew)); exact (Kd.N_mono (Kd.N_far (p := ⟨gb564, 1, none⟩) (Kd.N_far (p := ⟨gb564, 0, none⟩) (Kd.N_mono HO562.out (fun k_ hk => (⟨hk, hk.2⟩ : _ ∧ k_ ≠ gb564))) (fun _ hk => hk.2) (.int .i64 t559)) (fun _ hk => hk.2) (.slice Ao26 t560.length co26)) (fun _ h_ => h_.1)))); (case side2 => exact (Kd.N_reads' HO562.out).2.1); (case side3 => refine (Kd.N_reads' (e := 25) (base := w.heap.size) (ok := fun k_ => (((some k_ ≠ (.slice Ao13 t549.length co13 : Value).ownBlock ∧ (k_ ≠ gb552 ∧ k_ ≠ gb558)) ∧ some k_ ≠ (.slice Ao26 t560.length co26 : Value).ownBlock) ∧ k_ ≠ gb564)) (n := t554.length) (c := co18) ?_).2.2; exact (by (with_reducible repeat (first | apply Kd.N_alloc | apply Kd.N_drewN | apply Kd.N_drew)); exact (Kd.N_mono (Kd.N_far (p := ⟨gb564, 1, none⟩) (Kd.N_far (p := ⟨gb564, 0, none⟩) (Kd.N_mono HO556.out (fun k_ hk => (⟨hk, hk.2⟩ : _ ∧ k_ ≠ gb564))) (fun _ hk => hk.2) (.int .i64 t559)) (fun _ hk => hk.2) (.slice Ao26 t560.length co26)) (fun _ h_ => h_.1)))); (case side4 => exact (Kd.N_reads' HO556.out).2.1); rintro e w35 ⟨rfl, hb⟩; replace HO548 := Aside0.mk (Kd.N_below (by (with_reducible repeat (first | apply Kd.N_alloc | apply Kd.N_drewN | apply Kd.N_drew)); exact (Kd.N_mono (Kd.N_far (p := ⟨gb564, 1, none⟩) (Kd.N_far (p := ⟨gb564, 0, none⟩) (Kd.N_mono HO548.out (fun k_ hk => (⟨hk, hk.2⟩ : _ ∧ k_ ≠ gb564))) (fun _ hk => hk.2) (.int .i64 t559)) (fun _ hk => hk.2) (.slice Ao26 t560.length co26)) (fun _ h_ => h_.1))) hb); replace HO551 := Aside0.mk (Kd.R_below (by (with_reducible repeat (first | apply Kd.R_alloc | apply Kd.R_drewN | apply Kd.R_drew)); exact (Kd.R_mono (Kd.R_far (p := ⟨gb564, 1, none⟩) (Kd.R_far (p := ⟨gb564, 0, none⟩) (Kd.R_types HO551.out BK564.out (by decide)) (fun _ hk => hk.2) (.int .i64 t559)) (fun _ hk => hk.2) (.slice Ao26 t560.length co26)) (fun _ h_ => h_.1))) hb); replace HO556 := Aside0.mk (Kd.N_below (by (with_reducible repeat (first | apply Kd.N_alloc | apply Kd.N_drewN | apply Kd.N_drew)); exact (Kd.N_mono (Kd.N_far (p := ⟨gb564, 1, none⟩) (Kd.N_far (p := ⟨gb564, 0, none⟩) (Kd.N_mono HO556.out (fun k_ hk => (⟨hk, hk.2⟩ : _ ∧ k_ ≠ gb564))) (fun _ hk => hk.2) (.int .i64 t559)) (fun _ hk => hk.2) (.slice Ao26 t560.length co26)) (fun _ h_ => h_.1))) hb); replace HO562 := Aside0.mk (Kd.N_below (by (with_reducible repeat (first | apply Kd.N_alloc | apply Kd.N_drewN | apply Kd.N_drew)); exact (Kd.N_mono (Kd.N_far (p := ⟨gb564, 1, none⟩) (Kd.N_far (p := ⟨gb564, 0, none⟩) (Kd.N_mono HO562.out (fun k_ hk => (⟨hk, hk.2⟩ : _ ∧ k_ ≠ gb564))) (fun _ hk => hk.2) (.int .i64 t559)) (fun _ hk => hk.2) (.slice Ao26 t560.length co26)) (fun _ h_ => h_.1))) hb); replace BK552 := Aside0.mk (blk_below (g := gb552) (o := .cells #[.int .i64 t545, .slice Ao10 t546.length co10] 25 (0, 0)) (y1 NB552_564.out BK552.out) hb); replace BK558 := Aside0.mk (blk_below (g := gb558) (o := .cells #[.int .i64 t553, .slice Ao18 t554.length co18] 25 (0, 0)) (y1 NB558_564.out BK558.out) hb); replace BK564 := Aside0.mk (blk_below (g := gb564) (o := .cells #[.int .i64 t559, .slice Ao26 t560.length co26] 25 (0, 0)) (by (with_reducible repeat (first | refine blk_drewN ?_ _ | refine blk_drew ?_ | refine blk_alloc ?_ _)); refine blk_put (cs := #[.int .i64 t559, .slice none 0 0]) ?_ 1 _ rfl; (with_reducible repeat (first | refine blk_drewN ?_ _ | refine blk_drew ?_ | refine blk_alloc ?_ _)); apply blk_put (i := 0); (case h => exact y0 BK564.out); (case e => rfl)) hb); replace HB := Aside0.mk (below_step (y4 HB.out GE552.out GE558.out GE564.out) hb); (try clear hb); (try clear hb2); (try clear hk); (try clear hi)))
     go_meet
     case rel => exact ⟨_, (!t563), y34, H', ⟨y46⟩, ⟨(y12 HO551.out)⟩, ⟨(y58 HO548.out)⟩, ⟨(y61 HO556.out)⟩, ⟨(y54 HO562.out)⟩, ⟨(y0 BK552.out)⟩, ⟨(y0 BK558.out)⟩, ⟨(y0 BK564.out)⟩, ⟨(y4 HB.out GE552.out GE558.out GE564.out)⟩⟩
    ·replace c29 := Bool.eq_false_iff.mpr c29
     subst c29
     rw [if_neg (show ¬ (false = true) by decide)] at H
     have H' := Aside0.mk H
     clear H
     have hnb36 := NB564_552.out
     have hnc36 := NB552_564.out
     have hnb37 := NB564_558.out
     have hnc37 := NB558_564.out
     have hcz38_0 := zh BK564
     have hcz38_1 := zh1 BK564
     have hfz38_0 := zfr BK564 0
     have hfz38_1 := zfr BK564 1
     have hnb39 := NB558_552.out
     have hnc39 := NB552_558.out
     have hcz40_0 := zh BK558
     have hcz40_1 := zh1 BK558
     have hfz40_0 := zfr BK558 0
     have hfz40_1 := zfr BK558 1
     go_wp2_with (first | (go_at_call 15; (with_reducible refine (laws_lhVal.calls k t559 _ _ t560 t553 _ _ t554 false _ ?side1 ?side2 ?side3 ?side4 A28.out).mono ?_); (case side1 => refine (Kd.N_reads' (e := 25) (base := w.heap.size) (ok := fun k_ => ((some k_ ≠ (.slice Ao13 t549.length co13 : Value).ownBlock ∧ (some k_ ≠ (.slice Ao18 t554.length co18 : Value).ownBlock ∧ (k_ ≠ gb552 ∧ k_ ≠ gb558))) ∧ k_ ≠ gb564)) (n := t560.length) (c := co26) ?_).2.2; exact (by (with_reducible repeat (first | apply Kd.N_alloc | apply Kd.N_drewN | apply Kd.N_drew)); exact (Kd.N_mono (Kd.N_far (p := ⟨gb564, 1, none⟩) (Kd.N_far (p := ⟨gb564, 0, none⟩) (Kd.N_mono HO562.out (fun k_ hk => (⟨hk, hk.2⟩ : _ ∧ k_ ≠ gb564))) (fun _ hk => hk.2) (.int .i64 t559)) (fun _ hk => hk.2) (.slice Ao26 t560.length co26)) (fun _ h_ => h_.1)))); (case side2 => exact (Kd.N_reads' HO562.out).2.1); (case side3 => refine (Kd.N_reads' (e := 25) (base := w.heap.size) (ok := fun k_ => (((some k_ ≠ (.slice Ao13 t549.length co13 : Value).ownBlock ∧ (k_ ≠ gb552 ∧ k_ ≠ gb558)) ∧ some k_ ≠ (.slice Ao26 t560.length co26 : Value).ownBlock) ∧ k_ ≠ gb564)) (n := t554.length) (c := co18) ?_).2.2; exact (by (with_reducible repeat (first | apply Kd.N_alloc | apply Kd.N_drewN | apply Kd.N_drew)); exact (Kd.N_mono (Kd.N_far (p := ⟨gb564, 1, none⟩) (Kd.N_far (p := ⟨gb564, 0, none⟩) (Kd.N_mono HO556.out (fun k_ hk => (⟨hk, hk.2⟩ : _ ∧ k_ ≠ gb564))) (fun _ hk => hk.2) (.int .i64 t559)) (fun _ hk => hk.2) (.slice Ao26 t560.length co26)) (fun _ h_ => h_.1)))); (case side4 => exact (Kd.N_reads' HO556.out).2.1); rintro e w41 ⟨rfl, hb⟩; replace HO548 := Aside0.mk (Kd.N_below (by (with_reducible repeat (first | apply Kd.N_alloc | apply Kd.N_drewN | apply Kd.N_drew)); exact (Kd.N_mono (Kd.N_far (p := ⟨gb564, 1, none⟩) (Kd.N_far (p := ⟨gb564, 0, none⟩) (Kd.N_mono HO548.out (fun k_ hk => (⟨hk, hk.2⟩ : _ ∧ k_ ≠ gb564))) (fun _ hk => hk.2) (.int .i64 t559)) (fun _ hk => hk.2) (.slice Ao26 t560.length co26)) (fun _ h_ => h_.1))) hb); replace HO551 := Aside0.mk (Kd.R_below (by (with_reducible repeat (first | apply Kd.R_alloc | apply Kd.R_drewN | apply Kd.R_drew)); exact (Kd.R_mono (Kd.R_far (p := ⟨gb564, 1, none⟩) (Kd.R_far (p := ⟨gb564, 0, none⟩) (Kd.R_types HO551.out BK564.out (by decide)) (fun _ hk => hk.2) (.int .i64 t559)) (fun _ hk => hk.2) (.slice Ao26 t560.length co26)) (fun _ h_ => h_.1))) hb); replace HO556 := Aside0.mk (Kd.N_below (by (with_reducible repeat (first | apply Kd.N_alloc | apply Kd.N_drewN | apply Kd.N_drew)); exact (Kd.N_mono (Kd.N_far (p := ⟨gb564, 1, none⟩) (Kd.N_far (p := ⟨gb564, 0, none⟩) (Kd.N_mono HO556.out (fun k_ hk => (⟨hk, hk.2⟩ : _ ∧ k_ ≠ gb564))) (fun _ hk => hk.2) (.int .i64 t559)) (fun _ hk => hk.2) (.slice Ao26 t560.length co26)) (fun _ h_ => h_.1))) hb); replace HO562 := Aside0.mk (Kd.N_below (by (with_reducible repeat (first | apply Kd.N_alloc | apply Kd.N_drewN | apply Kd.N_drew)); exact (Kd.N_mono (Kd.N_far (p := ⟨gb564, 1, none⟩) (Kd.N_far (p := ⟨gb564, 0, none⟩) (Kd.N_mono HO562.out (fun k_ hk => (⟨hk, hk.2⟩ : _ ∧ k_ ≠ gb564))) (fun _ hk => hk.2) (.int .i64 t559)) (fun _ hk => hk.2) (.slice Ao26 t560.length co26)) (fun _ h_ => h_.1))) hb); replace BK552 := Aside0.mk (blk_below (g := gb552) (o := .cells #[.int .i64 t545, .slice Ao10 t546.length co10] 25 (0, 0)) (y1 NB552_564.out BK552.out) hb); replace BK558 := Aside0.mk (blk_below (g := gb558) (o := .cells #[.int .i64 t553, .slice Ao18 t554.length co18] 25 (0, 0)) (y1 NB558_564.out BK558.out) hb); replace BK564 := Aside0.mk (blk_below (g := gb564) (o := .cells #[.int .i64 t559, .slice Ao26 t560.length co26] 25 (0, 0)) (by (with_reducible repeat (first | refine blk_drewN ?_ _ | refine blk_drew ?_ | refine blk_alloc ?_ _)); refine blk_put (cs := #[.int .i64 t559, .slice none 0 0]) ?_ 1 _ rfl; (with_reducible repeat (first | refine blk_drewN ?_ _ | refine blk_drew ?_ | refine blk_alloc ?_ _)); apply blk_put (i := 0); (case h => exact y0 BK564.out); (case e => rfl)) hb); replace HB := Aside0.mk (below_step (y4 HB.out GE552.out GE558.out GE564.out) hb); (try clear hb); (try clear hb2); (try clear hk); (try clear hi)))
     go_meet
     case rel => exact ⟨_, (true), y34, H', ⟨y46⟩, ⟨(y12 HO551.out)⟩, ⟨(y58 HO548.out)⟩, ⟨(y61 HO556.out)⟩, ⟨(y54 HO562.out)⟩, ⟨(y0 BK552.out)⟩, ⟨(y0 BK558.out)⟩, ⟨(y0 BK564.out)⟩, ⟨(y4 HB.out GE552.out GE558.out GE564.out)⟩⟩
  case rest =>
   clear HC6
   try clear c1
   try clear c2
   try clear c2b0
   try clear c2b1
   try clear p2
   try clear c3
   try clear c5
   try clear c12
   try clear c13
   try clear c14
   try clear c16
   try clear c23
   try clear c24
   try clear c27
   try clear c27b0
   try clear c27b1
   try clear c27b2
   try clear c29
   try clear c30
   try clear c31
   try clear c33
   try clear c36
   try clear c37
   try clear c39
   try clear hcz12_0
   try clear hcz12_1
   try clear hcz17_0
   try clear hcz17_1
   try clear hcz20_0
   try clear hcz20_1
   try clear hcz25_0
   try clear hcz25_1
   try clear hcz32_0
   try clear hcz32_1
   try clear hcz34_0
   try clear hcz34_1
   try clear hcz38_0
   try clear hcz38_1
   try clear hcz40_0
   try clear hcz40_1
   try clear hcz9_0
   try clear hcz9_1
   try clear hfz12_0
   try clear hfz12_1
   try clear hfz17_0
   try clear hfz17_1
   try clear hfz20_0
   try clear hfz20_1
   try clear hfz25_0
   try clear hfz25_1
   try clear hfz32_0
   try clear hfz32_1
   try clear hfz34_0
   try clear hfz34_1
   try clear hfz38_0
   try clear hfz38_1
   try clear hfz40_0
   try clear hfz40_1
   try clear hfz9_0
   try clear hfz9_1
   obtain ⟨kq, x43_5, rfl, HA, HJ5, HO_4, HO_553001, HO_559001, HO_565001, BK552, BK558, BK564, HB⟩ := hcut
   cases kq with
   | zero => exact absurd HA.out (by simp [laws_FnValSame.j0])
   | succ kj5 =>
    have H := HA.out
    clear HA
    simp only [laws_FnValSame.j0] at H
    by_cases c42 : x43_5 = true
    ·subst c42
     rw [if_pos rfl] at H
     by_cases c43 : (t563 == t557) = true
     ·rw [if_pos c43] at H
      have c43b0 : (t563 == t557) = true := c43
      (try (have c43b1 : decide (t563 = t557) = true := by simpa using c43))
      (try (have c43b2 : (t563 == t557) = true := by simpa using c43))
      clear c43
      obtain ⟨t566, A440, H⟩ := ob H
      have A44 := Aside0.mk A440
      clear A440
      clear hr_
      obtain rfl := Option.some.inj H
      have hnb45 := NB564_552.out
      have hnc45 := NB552_564.out
      have hnb46 := NB564_558.out
      have hnc46 := NB558_564.out
      have hcz47_0 := zh BK564
      have hcz47_1 := zh1 BK564
      have hfz47_0 := zfr BK564 0
      have hfz47_1 := zfr BK564 1
      have hnb48 := NB558_552.out
      have hnc48 := NB552_558.out
      have hcz49_0 := zh BK558
      have hcz49_1 := zh1 BK558
      have hfz49_0 := zfr BK558 0
      have hfz49_1 := zfr BK558 1
      go_wp2_with (first | (go_at_call 15; (with_reducible refine (laws_lhVal.calls kj5 t559 _ _ t560 t553 _ _ t554 t566 _ ?side1 ?side2 ?side3 ?side4 A44.out).mono ?_); (case side1 => exact y38 HO_565001.out); (case side2 => exact (Kd.N_reads' HO_565001.out).2.1); (case side3 => exact y38 HO_559001.out); (case side4 => exact (Kd.N_reads' HO_559001.out).2.1); rintro e w50 ⟨rfl, hb⟩; replace HO_4 := Aside0.mk (Kd.R_below (y12 HO_4.out) hb); replace HO_553001 := Aside0.mk (Kd.N_below (y3 HO_553001.out) hb); replace HO_559001 := Aside0.mk (Kd.N_below (y3 HO_559001.out) hb); replace HO_565001 := Aside0.mk (Kd.N_below (y3 HO_565001.out) hb); replace BK552 := zbb BK552 hb; replace BK558 := zbb BK558 hb; replace BK564 := zbb BK564 hb; replace HB := Aside0.mk (below_step (y4 HB.out GE552.out GE558.out GE564.out) hb); (try clear hb); (try clear hb2); (try clear hk); (try clear hi)))
      go_ret
      exact ⟨y19, (y4 HB.out GE552.out GE558.out GE564.out)⟩
     ·rw [if_neg c43] at H
      have c43b0 : (t563 == t557) = false := by simpa using c43
      (try (have c43b1 : decide (t563 = t557) = false := by simpa using c43))
      (try (have c43b2 : (t563 == t557) = false := by simpa using c43))
      (try (have c43b3 : ¬ (t563 = t557) := by simpa using c43))
      clear c43
      exact absurd ((Option.some.inj H).trans hr_.out) (by decide)
    ·replace c42 := Bool.eq_false_iff.mpr c42
     subst c42
     rw [if_neg (show ¬ (false = true) by decide)] at H
     obtain ⟨⟨t567, t568, t571⟩, A510, H⟩ := ob H
     have A51 := Aside0.mk A510
     clear A510
     by_cases c52 : t571 = true
     ·subst c52
      rw [if_pos rfl] at H
      obtain ⟨t573, A530, H⟩ := ob H
      have A53 := Aside0.mk A530
      clear A530
      clear hr_
      obtain rfl := Option.some.inj H
      have hnb54 := NB552_558.out
      have hnc54 := NB558_552.out
      have hnb55 := NB552_564.out
      have hnc55 := NB564_552.out
      have hcz56_0 := zh BK552
      have hcz56_1 := zh1 BK552
      have hfz56_0 := zfr BK552 0
      have hfz56_1 := zfr BK552 1
      have hnb57 := NB564_558.out
      have hnc57 := NB558_564.out
      have hcz58_0 := zh BK564
      have hcz58_1 := zh1 BK564
      have hfz58_0 := zfr BK564 0
      have hfz58_1 := zfr BK564 1
      go_wp2_with (first | ((with_reducible refine gate_callee (f := 24) rfl ?_); refine goesL_ (some 56) rfl rfl Try.func24 (by kernel_rfl) rfl #[.agg #[.int .i64 t545, .slice Ao10 t546.length co10], .slice Ao13 t549.length co13, .agg #[.int .i64 t559, .slice Ao26 t560.length co26]] rfl y8 ?_; (with_reducible refine (impl_ValPut.calls kj5 t545 (fun k_ => (some k_ ≠ (.slice Ao13 t549.length co13 : Value).ownBlock ∧ (some k_ ≠ (.slice Ao18 t554.length co18 : Value).ownBlock ∧ (some k_ ≠ (.slice Ao26 t560.length co26 : Value).ownBlock ∧ (k_ ≠ gb552 ∧ (k_ ≠ gb558 ∧ k_ ≠ gb564)))))) _ _ t546 _ _ t549 t559 (fun k_ => (some k_ ≠ (.slice Ao13 t549.length co13 : Value).ownBlock ∧ (some k_ ≠ (.slice Ao18 t554.length co18 : Value).ownBlock ∧ (k_ ≠ gb552 ∧ (k_ ≠ gb558 ∧ k_ ≠ gb564))))) _ _ t560 t567 t568 true _ ?side1 ?side2 ?side3 ?side4 A51.out).mono ?_); (case side1 => exact Kd.N_V (HO_553001.out)); (case side2 => exact y39 HO_4.out); (case side3 => exact (Kd.R_reads' HO_4.out).2.1); (case side4 => exact Kd.N_V (HO_565001.out)); rintro e w59 ⟨v569, rfl, ho0, hb⟩; refine ⟨_, rfl, ?_⟩; replace HO_553001 := Aside0.mk (Kd.N_elder' (y3 HO_553001.out) (Kd.N_base ho0) hb); replace HO_565001 := Aside0.mk (Kd.N_elder' (y3 HO_565001.out) (Kd.N_base ho0) hb); have HO570 := Aside0.mk (Kd.N_lower (Kd.N_mono (ok' := fun k_ => some k_ ≠ (.slice Ao13 t549.length co13 : Value).ownBlock ∧ some k_ ≠ (.slice Ao18 t554.length co18 : Value).ownBlock ∧ k_ ≠ gb552 ∧ k_ ≠ gb558 ∧ k_ ≠ gb564) ho0 (fun k_ hk_ => ⟨Or.elim hk_ (fun hs_ => Or.elim hs_ (fun hs_ => hs_.1) (fun hs_ => hs_.1)) (fun hn_ => (Kd.fresh' (Kd.R_lt (y12 HO_4.out)) k_ hn_)), Or.elim hk_ (fun hs_ => Or.elim hs_ (fun hs_ => hs_.2.1) (fun hs_ => hs_.2.1)) (fun hn_ => (Kd.fresh' (Kd.N_lt (y3 HO_559001.out)) k_ hn_)), Or.elim hk_ (fun hs_ => Or.elim hs_ (fun hs_ => hs_.2.2.2.1) (fun hs_ => hs_.2.2.1)) (fun hn_ => (Kd.freshB (g := gb552) (o := .cells #[.int .i64 t545, .slice Ao10 t546.length co10] 25 (0, 0)) (y0 BK552.out) k_ hn_)), Or.elim hk_ (fun hs_ => Or.elim hs_ (fun hs_ => hs_.2.2.2.2.1) (fun hs_ => hs_.2.2.2.1)) (fun hn_ => (Kd.freshB (g := gb558) (o := .cells #[.int .i64 t553, .slice Ao18 t554.length co18] 25 (0, 0)) (y0 BK558.out) k_ hn_)), Or.elim hk_ (fun hs_ => Or.elim hs_ (fun hs_ => hs_.2.2.2.2.2) (fun hs_ => hs_.2.2.2.2)) (fun hn_ => (Kd.freshB (g := gb564) (o := .cells #[.int .i64 t559, .slice Ao26 t560.length co26] 25 (0, 0)) (y0 BK564.out) k_ hn_))⟩)) (below_size (y4 HB.out GE552.out GE558.out GE564.out))); replace HO_4 := Aside0.mk (Kd.R_below (y12 HO_4.out) hb); replace HO_559001 := Aside0.mk (Kd.N_elder' (y3 HO_559001.out) (Kd.N_base ho0) hb); replace BK552 := zbb BK552 hb; replace BK558 := zbb BK558 hb; replace BK564 := zbb BK564 hb; replace HB := Aside0.mk (below_step (y4 HB.out GE552.out GE558.out GE564.out) hb); (try clear hb); (try clear hb2); (try clear hk); (try clear hi); (try clear ho0)) | ((with_reducible refine gate_dst (N := 9) rfl ?_); refine zbx 9 #[.int .i64 0, .slice none 0 0] 25 ?_; intro gb572 hg w60 hbox hb; replace HO_4 := Aside0.mk (Kd.R_below (y12 HO_4.out) hb); replace HO_553001 := Aside0.mk (Kd.N_below (Kd.N_elderB (y3 HO_553001.out) gb572 (Nat.le_of_eq hg.symm)) hb); replace HO_559001 := Aside0.mk (Kd.N_below (Kd.N_elderB (y3 HO_559001.out) gb572 (Nat.le_of_eq hg.symm)) hb); replace HO_565001 := Aside0.mk (Kd.N_below (Kd.N_elderB (y3 HO_565001.out) gb572 (Nat.le_of_eq hg.symm)) hb); replace HO570 := Aside0.mk (Kd.N_below (Kd.N_elderB (y3 HO570.out) gb572 (Nat.le_of_eq hg.symm)) hb); have BK572 := Aside0.mk hbox; have GW572 := Aside0.mk ((y22 hg HB.out GE552.out GE558.out GE564.out : w.heap.size ≤ gb572)); have GE572 := Aside0.mk ((y22 hg HB.out GE552.out GE558.out GE564.out : w.heap.size ≤ gb572)); replace HB := Aside0.mk (below_step (y4 HB.out GE552.out GE558.out GE564.out) hb); have NB552_572 := zltn hg BK552; have NB572_552 := zgtn hg BK552; replace BK552 := zbb BK552 hb; have NB558_572 := zltn hg BK558; have NB572_558 := zgtn hg BK558; replace BK558 := zbb BK558 hb; have NB564_572 := zltn hg BK564; have NB572_564 := zgtn hg BK564; replace BK564 := zbb BK564 hb; clear hb hbox hg; have hnb61 := NB572_552.out; have hnc61 := NB552_572.out; have hnb62 := NB572_558.out; have hnc62 := NB558_572.out; have hnb63 := NB572_564.out; have hnc63 := NB564_572.out; have hcz64_0 := zh BK572; have hcz64_1 := zh1 BK572; have hfz64_0 := zfr BK572 0; have hfz64_1 := zfr BK572 1; obtain ⟨Ao65, co65, eo65⟩ := Kd.N_slice HO570.out; subst eo65; have hcz66_0 := zh BK552; have hcz66_1 := zh1 BK552; have hfz66_0 := zfr BK552 0; have hfz66_1 := zfr BK552 1) | (go_at_call 15; (with_reducible refine (laws_lhVal.calls kj5 t567 _ _ t568 t545 _ _ t546 t573 _ ?side1 ?side2 ?side3 ?side4 A53.out).mono ?_); (case side1 => refine (Kd.N_reads' (e := 25) (base := w.heap.size) (ok := fun k_ => ((some k_ ≠ (.slice Ao13 t549.length co13 : Value).ownBlock ∧ (some k_ ≠ (.slice Ao18 t554.length co18 : Value).ownBlock ∧ (k_ ≠ gb552 ∧ (k_ ≠ gb558 ∧ k_ ≠ gb564)))) ∧ k_ ≠ gb572)) (n := t568.length) (c := co65) ?_).2.2; exact (by (with_reducible repeat (first | apply Kd.N_alloc | apply Kd.N_drewN | apply Kd.N_drew)); exact (Kd.N_mono (Kd.N_far (p := ⟨gb572, 1, none⟩) (Kd.N_far (p := ⟨gb572, 0, none⟩) (Kd.N_mono HO570.out (fun k_ hk => (⟨hk, hk.2⟩ : _ ∧ k_ ≠ gb572))) (fun _ hk => hk.2) (.int .i64 t567)) (fun _ hk => hk.2) (.slice Ao65 t568.length co65)) (fun _ h_ => h_.1)))); (case side2 => exact (Kd.N_reads' HO570.out).2.1); (case side3 => refine (Kd.N_reads' (e := 25) (base := w.heap.size) (ok := fun k_ => (((some k_ ≠ (.slice Ao13 t549.length co13 : Value).ownBlock ∧ (some k_ ≠ (.slice Ao18 t554.length co18 : Value).ownBlock ∧ (some k_ ≠ (.slice Ao26 t560.length co26 : Value).ownBlock ∧ (k_ ≠ gb552 ∧ (k_ ≠ gb558 ∧ k_ ≠ gb564))))) ∧ some k_ ≠ (.slice Ao65 t568.length co65 : Value).ownBlock) ∧ k_ ≠ gb572)) (n := t546.length) (c := co10) ?_).2.2; exact (by (with_reducible repeat (first | apply Kd.N_alloc | apply Kd.N_drewN | apply Kd.N_drew)); exact (Kd.N_mono (Kd.N_far (p := ⟨gb572, 1, none⟩) (Kd.N_far (p := ⟨gb572, 0, none⟩) (Kd.N_mono HO_553001.out (fun k_ hk => (⟨hk, hk.2⟩ : _ ∧ k_ ≠ gb572))) (fun _ hk => hk.2) (.int .i64 t567)) (fun _ hk => hk.2) (.slice Ao65 t568.length co65)) (fun _ h_ => h_.1)))); (case side4 => exact (Kd.N_reads' HO_553001.out).2.1); rintro e w67 ⟨rfl, hb⟩; replace HO_4 := Aside0.mk (Kd.R_below (by (with_reducible repeat (first | apply Kd.R_alloc | apply Kd.R_drewN | apply Kd.R_drew)); exact (Kd.R_mono (Kd.R_far (p := ⟨gb572, 1, none⟩) (Kd.R_far (p := ⟨gb572, 0, none⟩) (Kd.R_types HO_4.out BK572.out (by decide)) (fun _ hk => hk.2) (.int .i64 t567)) (fun _ hk => hk.2) (.slice Ao65 t568.length co65)) (fun _ h_ => h_.1))) hb); replace HO_553001 := Aside0.mk (Kd.N_below (by (with_reducible repeat (first | apply Kd.N_alloc | apply Kd.N_drewN | apply Kd.N_drew)); exact (Kd.N_mono (Kd.N_far (p := ⟨gb572, 1, none⟩) (Kd.N_far (p := ⟨gb572, 0, none⟩) (Kd.N_mono HO_553001.out (fun k_ hk => (⟨hk, hk.2⟩ : _ ∧ k_ ≠ gb572))) (fun _ hk => hk.2) (.int .i64 t567)) (fun _ hk => hk.2) (.slice Ao65 t568.length co65)) (fun _ h_ => h_.1))) hb); replace HO_559001 := Aside0.mk (Kd.N_below (by (with_reducible repeat (first | apply Kd.N_alloc | apply Kd.N_drewN | apply Kd.N_drew)); exact (Kd.N_mono (Kd.N_far (p := ⟨gb572, 1, none⟩) (Kd.N_far (p := ⟨gb572, 0, none⟩) (Kd.N_mono HO_559001.out (fun k_ hk => (⟨hk, hk.2⟩ : _ ∧ k_ ≠ gb572))) (fun _ hk => hk.2) (.int .i64 t567)) (fun _ hk => hk.2) (.slice Ao65 t568.length co65)) (fun _ h_ => h_.1))) hb); replace HO_565001 := Aside0.mk (Kd.N_below (by (with_reducible repeat (first | apply Kd.N_alloc | apply Kd.N_drewN | apply Kd.N_drew)); exact (Kd.N_mono (Kd.N_far (p := ⟨gb572, 1, none⟩) (Kd.N_far (p := ⟨gb572, 0, none⟩) (Kd.N_mono HO_565001.out (fun k_ hk => (⟨hk, hk.2⟩ : _ ∧ k_ ≠ gb572))) (fun _ hk => hk.2) (.int .i64 t567)) (fun _ hk => hk.2) (.slice Ao65 t568.length co65)) (fun _ h_ => h_.1))) hb); replace HO570 := Aside0.mk (Kd.N_below (by (with_reducible repeat (first | apply Kd.N_alloc | apply Kd.N_drewN | apply Kd.N_drew)); exact (Kd.N_mono (Kd.N_far (p := ⟨gb572, 1, none⟩) (Kd.N_far (p := ⟨gb572, 0, none⟩) (Kd.N_mono HO570.out (fun k_ hk => (⟨hk, hk.2⟩ : _ ∧ k_ ≠ gb572))) (fun _ hk => hk.2) (.int .i64 t567)) (fun _ hk => hk.2) (.slice Ao65 t568.length co65)) (fun _ h_ => h_.1))) hb); replace BK552 := Aside0.mk (blk_below (g := gb552) (o := .cells #[.int .i64 t545, .slice Ao10 t546.length co10] 25 (0, 0)) (y1 NB552_572.out BK552.out) hb); replace BK558 := Aside0.mk (blk_below (g := gb558) (o := .cells #[.int .i64 t553, .slice Ao18 t554.length co18] 25 (0, 0)) (y1 NB558_572.out BK558.out) hb); replace BK564 := Aside0.mk (blk_below (g := gb564) (o := .cells #[.int .i64 t559, .slice Ao26 t560.length co26] 25 (0, 0)) (y1 NB564_572.out BK564.out) hb); replace BK572 := Aside0.mk (blk_below (g := gb572) (o := .cells #[.int .i64 t567, .slice Ao65 t568.length co65] 25 (0, 0)) (by (with_reducible repeat (first | refine blk_drewN ?_ _ | refine blk_drew ?_ | refine blk_alloc ?_ _)); refine blk_put (cs := #[.int .i64 t567, .slice none 0 0]) ?_ 1 _ rfl; (with_reducible repeat (first | refine blk_drewN ?_ _ | refine blk_drew ?_ | refine blk_alloc ?_ _)); apply blk_put (i := 0); (case h => exact y0 BK572.out); (case e => rfl)) hb); replace HB := Aside0.mk (below_step (y7 HB.out GE552.out GE558.out GE564.out GE572.out) hb); (try clear hb); (try clear hb2); (try clear hk); (try clear hi)))
      go_ret
      exact ⟨y19, (y7 HB.out GE552.out GE558.out GE564.out GE572.out)⟩
     ·replace c52 := Bool.eq_false_iff.mpr c52
      subst c52
      rw [if_neg (show ¬ (false = true) by decide)] at H
      exact absurd ((Option.some.inj H).trans hr_.out) (by decide)
def laws_FnValSame.Pure : Prop := ∀ (l0 : List Int), l0.length ≤ maxLen → l0.length * 1 ≤ 140737488351232 → (∀ x ∈ l0, (Lit.int .u8 x).wf = true) → ∃ k, laws_FnValSame.f k l0 = some true
theorem laws_FnValSame.walk (P : laws_FnValSame.Pure) (a0 : Option Addr) (len0 cap0 : Nat) (z0 : List Int) (w : World) (w0 : (a0 = none ∧ len0 = 0 ∧ cap0 = 0 ∧ z0 = []) ∨ ∃ x, a0 = some x ∧ len0 ≤ cap0 ∧ cap0 ≤ maxLen ∧ z0.length = cap0 ∧ (∀ i, i < z0.length → w.cell? (x.add i) = some (.int .u8 (z0.getD i 0))) ∧ ∀ n ∈ z0, (Lit.int .u8 n).wf = true) (y0 : len0 * 1 ≤ 140737488351232) :
  Calls Try.prog 5 #[.slice a0 len0 cap0] w fun e w' => e = .returned (.bool true) ∧ Below w.heap.size w w' := by
 obtain ⟨l0, rfl, hr0, hm0, hw0, hc0⟩ := ReadsInt.ofRowC w0
 obtain ⟨k, h⟩ := P l0 hm0 y0 hw0
 refine (laws_FnValSame.calls k _ _ l0 true w (Kd.C_of_reads (d := (0 : Int)) (h1 := fun _ => rfl) hr0) hc0 h ⟨rfl⟩).mono ?_
 rintro e w' ⟨rfl, hd⟩
 exact ⟨rfl, hd⟩
end Go.Proofs.Ythfflieeifakdaa.PA
end
section
namespace Go.Proofs.Ythfflieeifakdaa.Draw
open Go.RowKit Go.Proofs.Ythfflieeifakdaa.PA Go.Proofs.YthfflieeifakdaaW.PrintWords Go.Proofs.YthfflieeifakdaaW.PrintLast
def Bytes (s : List Int) : Prop := s.length ≤ 2000 ∧ ∀ x ∈ s, 0 ≤ x ∧ x ≤ 255
theorem rd_byte {s : List Int} (h : Bytes s) (i : Int) : 0 ≤ rd s i ∧ rd s i ≤ 255 := by
  unfold rd
  rw [List.getD_eq_getElem?_getD]
  cases e : s[i.toNat]? with
  | none => simp
  | some x => exact h.2 x (List.mem_of_getElem? e)
theorem w64 {x : Int} (h0 : -9223372036854775808 ≤ x) (h1 : x ≤ 9223372036854775807) : wrap64 x = x := by unfold wrap64; omega
theorem w01 : wrap64 (0 + 1) = 1 := by rw [w64 (by omega) (by omega)]; rfl
theorem w12 : wrap64 (1 + 1) = 2 := by rw [w64 (by omega) (by omega)]; rfl
theorem xor_nonneg (a b : Nat) (ha : a < 2 ^ 62) (hb : b < 2 ^ 62) : 0 ≤ Go.bits .xor .i64 a b := by
  have hp : (2 : Nat) ^ 62 ≤ 2 ^ IntKind.i64.bits := Nat.pow_le_pow_right (by decide) (by decide)
  have ha' : a % 2 ^ IntKind.i64.bits = a := Nat.mod_eq_of_lt (Nat.lt_of_lt_of_le ha hp)
  have hb' : b % 2 ^ IntKind.i64.bits = b := Nat.mod_eq_of_lt (Nat.lt_of_lt_of_le hb hp)
  simp only [Go.bits, BitVec.ofInt_natCast, BitVec.toNat_xor, BitVec.toNat_ofNat, ha', hb']
  rw [IntKind.wrap_i64]
  have := Nat.xor_lt_two_pow ha hb
  omega
theorem xor_nonneg' (x y : Int) (hx : 0 ≤ x) (hx1 : x < 4611686018427387904) (hy : 0 ≤ y) (hy1 : y < 4611686018427387904) : 0 ≤ Go.bits .xor .i64 x y := by
  obtain ⟨a, rfl⟩ := Int.eq_ofNat_of_zero_le hx
  obtain ⟨b, rfl⟩ := Int.eq_ofNat_of_zero_le hy
  exact xor_nonneg a b (by omega) (by omega)
theorem tmod_range (x n : Int) (hx : 0 ≤ x) (hn : 1 ≤ n) : 0 ≤ Int.tmod x n ∧ Int.tmod x n < n := by
  rw [Int.tmod_eq_emod_of_nonneg hx]
  exact ⟨Int.emod_nonneg _ (by omega), Int.emod_lt_of_pos _ (by omega)⟩
theorem tdiv_range (x n : Int) (hx : 0 ≤ x) (hn : 1 ≤ n) : 0 ≤ Int.tdiv x n ∧ Int.tdiv x n ≤ x := by
  rw [Int.tdiv_eq_ediv_of_nonneg hx]
  exact ⟨Int.ediv_nonneg hx (by omega), Int.ediv_le_self _ hx⟩
theorem pick_ev (s : List Int) (hs : Bytes s) (p n : Int) (hp : 0 ≤ p) (hp1 : p ≤ 1099511627776) (hn : 1 ≤ n) :
    ∃ r, (∀ k, 2 ≤ k → spec_l6Rd_pick.f k s p n = some (r, p + 1)) ∧ 0 ≤ r ∧ r < n := by
  have e1 : wrap64 (p + 1) = p + 1 := w64 (by omega) (by omega)
  have e2 : wrap64 (p + 1 - 1) = p := by rw [w64 (by omega) (by omega)]; omega
  by_cases h0 : (s.length : Int) = 0
  · refine ⟨0, fun k hk => ?_, by omega, by omega⟩
    obtain ⟨k, rfl⟩ : ∃ m, k = m + 1 := ⟨k - 1, by omega⟩
    simp only [spec_l6Rd_pick.f]
    rw [if_neg (by omega), e1, show ((s.length : Int) == 0) = true from beq_iff_eq.2 h0]
    simp only [spec_l6Rd_pick.j0, if_true]
  have hl : 0 < s.length := by omega
  have hl2 := hs.1
  have hb : ((s.length : Int) == 0) = false := by simpa using h0
  by_cases hlt : p < (s.length : Int)
  · have hr := rd_byte hs p
    have hq := tmod_range (rd s p) n hr.1 hn
    refine ⟨_, fun k hk => ?_, hq.1, hq.2⟩
    obtain ⟨k, rfl⟩ : ∃ m, k = m + 1 := ⟨k - 1, by omega⟩
    simp only [spec_l6Rd_pick.f]
    rw [if_neg (by omega), e1, hb]
    simp only [spec_l6Rd_pick.j0, e2]
    rw [if_neg (by simp), if_pos hlt, if_pos hp, if_neg (by omega), w64 (by omega) (by omega)]
  · have m1 := tmod_range p (s.length : Int) hp (by omega)
    have e3 : wrap64 (p * 7) = p * 7 := w64 (by omega) (by omega)
    have e4 : wrap64 (p * 7 + 3) = p * 7 + 3 := w64 (by omega) (by omega)
    have m2 := tmod_range (p * 7 + 3) (s.length : Int) (by omega) (by omega)
    have d1 := tdiv_range p (s.length : Int) hp (by omega)
    have r1 := rd_byte hs (Int.tmod p (s.length : Int))
    have r2 := rd_byte hs (Int.tmod (p * 7 + 3) (s.length : Int))
    generalize ha : rd s (Int.tmod p (s.length : Int)) = a at *
    generalize hc : rd s (Int.tmod (p * 7 + 3) (s.length : Int)) = c at *
    generalize hd : Int.tdiv p (s.length : Int) = d at *
    have e5 : wrap64 (wrap64 (wrap64 (wrap64 (wrap64 a * 131) + wrap64 (wrap64 c * 1117)) + wrap64 (p * 29)) + wrap64 (wrap64 d * 53)) = a * 131 + c * 1117 + p * 29 + d * 53 := by
      rw [w64 (x := a) (by omega) (by omega), w64 (x := c) (by omega) (by omega), w64 (x := d) (by omega) (by omega), w64 (x := a * 131) (by omega) (by omega), w64 (x := c * 1117) (by omega) (by omega), w64 (x := d * 53) (by omega) (by omega), w64 (x := p * 29) (by omega) (by omega), w64 (x := a * 131 + c * 1117) (by omega) (by omega), w64 (x := a * 131 + c * 1117 + p * 29) (by omega) (by omega), w64 (by omega) (by omega)]
    generalize hx : a * 131 + c * 1117 + p * 29 + d * 53 = x at *
    have d2 := tdiv_range x 64 (by omega) (by omega)
    have e6 : wrap64 (Int.tdiv x 64) = Int.tdiv x 64 := w64 (by omega) (by omega)
    have hxor := xor_nonneg' x (Int.tdiv x 64) (by omega) (by omega) d2.1 (by omega)
    have hq := tmod_range (Go.bits .xor .i64 x (Int.tdiv x 64)) n hxor hn
    refine ⟨_, fun k hk => ?_, hq.1, hq.2⟩
    obtain ⟨k, rfl⟩ : ∃ m, k = m + 1 := ⟨k - 1, by omega⟩
    simp only [spec_l6Rd_pick.f]
    rw [if_neg (by omega), e1, hb]
    simp only [spec_l6Rd_pick.j0, e2, e3, e4, ha, hc, hd, e5, e6]
    rw [if_neg (by simp), if_neg hlt, if_neg h0, if_pos m1.1, if_pos m1.2, if_pos m2.1, if_pos m2.2, if_neg (by omega)]
theorem open_ev (l : List Int) (h : ∀ x ∈ l, (Lit.int .u8 x).wf = true) : ∃ s, spec_l6Open.f l = some (s, 0) ∧ Bytes s := by
  have hb : ∀ x ∈ l, 0 ≤ x ∧ x ≤ 255 := fun x hx => bounds_u8 (h x hx)
  unfold spec_l6Open.f
  by_cases hl : (l.length : Int) > 2000
  · rw [if_pos hl, if_pos (by omega)]
    exact ⟨_, rfl, by rw [List.length_take]; omega, fun x hx => hb x (List.mem_of_mem_take hx)⟩
  · rw [if_neg hl]
    exact ⟨_, rfl, by omega, hb⟩
def Dph : Nat → List S50 → Prop
  | 0, l => l = []
  | n + 1, l => ∀ x ∈ l, Dph n x.f0
theorem dph_nil (n : Nat) : Dph n [] := by cases n <;> simp [Dph]
theorem type_ev (s : List Int) (hs : Bytes s) : ∀ (d : Nat), d ≤ 1000 → ∀ (p : Int), 0 ≤ p → p + 2 ^ d ≤ 1099511627776 →
    ∃ r q, (∀ k, 3 * d + 4 ≤ k → spec_l71Type.f k s p d = some (r, q)) ∧ r.length ≤ 2 ∧ p ≤ q ∧ q + 1 ≤ p + 2 ^ d ∧ Dph d r := by
  intro d
  induction d with
  | zero =>
    intro hd p hp hp1
    refine ⟨[], p, fun k hk => ?_, by simp, by omega, by simp, dph_nil _⟩
    obtain ⟨k, rfl⟩ : ∃ m, k = m + 2 := ⟨k - 2, by omega⟩
    simp only [spec_l71Type.f]
    rw [if_pos (by omega)]
    simp only [spec_l71Type.j0, if_true]
  | succ d ih =>
    intro hd p hp hp1
    have hpow : (2 : Int) ^ (d + 1) = 2 ^ d + 2 ^ d := by rw [Int.pow_succ]; omega
    have hpos : (1 : Int) ≤ 2 ^ d := by have := Int.pow_pos (n := 2) (m := d) (by decide); omega
    rw [hpow] at hp1 ⊢
    generalize (2 : Int) ^ d = e at *
    by_cases h2 : (((d + 1 : Nat) : Int)) < 2
    · refine ⟨[], p, fun k hk => ?_, by simp, by omega, by omega, dph_nil _⟩
      obtain ⟨k, rfl⟩ : ∃ m, k = m + 2 := ⟨k - 2, by omega⟩
      simp only [spec_l71Type.f]
      rw [if_pos h2]
      simp only [spec_l71Type.j0, if_true]
    · obtain ⟨r, hr, hr0, hr1⟩ := pick_ev s hs p 3 hp (by omega) (by omega)
      by_cases hrp : r > 0
      · refine ⟨[], p + 1, fun k hk => ?_, by simp, by omega, by omega, dph_nil _⟩
        obtain ⟨k, rfl⟩ : ∃ m, k = m + 2 := ⟨k - 2, by omega⟩
        simp only [spec_l71Type.f]
        rw [if_neg h2, hr (k + 1) (by omega)]
        simp only [Option.bind_some, spec_l71Type.j0]
        rw [if_pos (by simpa using hrp)]
      · obtain ⟨a, q1, h1, _, hq1, hq1', da⟩ := ih (by omega) (p + 1) (by omega) (by omega)
        obtain ⟨b, q2, h3, _, hq2, hq2', db⟩ := ih (by omega) q1 (by omega) (by omega)
        have ew : wrap64 (((d + 1 : Nat) : Int) - 1) = (d : Int) := by
          rw [w64 (by omega) (by omega)]; omega
        refine ⟨[⟨a⟩, ⟨b⟩], q2, fun k hk => ?_, by simp, by omega, by omega, ?_⟩
        rotate_left
        · intro x hx
          rcases List.mem_cons.1 hx with rfl | hx
          · exact da
          · rw [List.mem_singleton.1 hx]; exact db
        · obtain ⟨k, rfl⟩ : ∃ m, k = m + 2 := ⟨k - 2, by omega⟩
          simp only [spec_l71Type.f]
          rw [if_neg h2, hr (k + 1) (by omega)]
          simp only [Option.bind_some, spec_l71Type.j0]
          rw [if_neg (by simpa using hrp), ew, h1 k (by omega)]
          simp only [Option.bind_some]
          rw [h3 k (by omega)]
          simp only [Option.bind_some]
end Go.Proofs.Ythfflieeifakdaa.Draw
end
section
namespace Go.Proofs.Ythfflieeifakdaa.PA
open Go.RowKit Go.Proofs.YthfflieeifakdaaW.PrintWords Go.Proofs.YthfflieeifakdaaW.PrintLast Go.Proofs.YthfflieeifakdaaW.PrintMore
attribute [local go_sem] max2_int min2_int max_two min_two max_three min_three max_four min_four
set_option linter.unusedVariables false
set_option linter.unusedSimpArgs false
def impl_typeFits.f : Nat → List (S50) → Int → Option (Bool)
 | 0, _, _ => none
 | k + 1, l0_0, a1 => if a1 < 1 then (some false) else (if (l0_0.length : Int) = 0 then (some true) else (if (l0_0.length : Int) = 2 then (if 0 < (l0_0.length : Int) then ((impl_typeFits.f k ((rd_T50 l0_0 0).f0) (wrap64 (a1 - 1))).bind fun t968 => (if t968 = true then (if 1 < (l0_0.length : Int) then ((impl_typeFits.f k ((rd_T50 l0_0 1).f0) (wrap64 (a1 - 1))).bind fun t970 => (some t970)) else (none)) else (some false))) else (none)) else (some false)))
theorem impl_typeFits.mono_l : ∀ k, (∀ y0 y1, LeO (impl_typeFits.f k y0 y1) (impl_typeFits.f (k + 1) y0 y1))
 | 0 => fun _ _ r h => by simp [impl_typeFits.f] at h
 | k + 1 => by
  have ih0 := impl_typeFits.mono_l k
  ·intro y0 y1
   unfold impl_typeFits.f
   repeat' first
   | (with_reducible exact ih0 _ _)
   | (with_reducible exact LeO.refl _)
   | (with_reducible exact LeO.none _)
   | (with_reducible refine LeO.ite ?_ ?_)
   | (with_reducible refine LeO.bind ?_ (fun _ => ?_))
   | exact ih0 _ _
   | exact LeO.none _
   | refine LeO.ite ?_ ?_
   | refine LeO.bind ?_ (fun _ => ?_)
theorem impl_typeFits.mono : ∀ a0 a1 k, LeO (impl_typeFits.f k a0 a1) (impl_typeFits.f (k + 1) a0 a1) := by
 intro a0 a1 k
 have ih0 := impl_typeFits.mono_l k
 exact ih0 a0 a1
set_option maxHeartbeats 8000000 in
set_option maxRecDepth 100000 in
theorem impl_typeFits.calls (k : Nat) : ∀ (A0_0 : Option Addr) (c0_0 : Nat) (l0_0 : List (S50)) (a1 : Int) (r : Bool) (w : World) (hr0_0 : Kd.C k50 w A0_0 l0_0.length l0_0) (hc0_0 : l0_0.length ≤ c0_0) (h : impl_typeFits.f k l0_0 a1 = some r),
  Calls Try.prog 59 #[.agg #[.slice A0_0 l0_0.length c0_0], .int .i64 a1] w fun e w' => e = .returned (.bool r) ∧ Below w.heap.size w w' := by
 induction k using Nat.strongRecOn with
 | _ k ih =>
 intro A0_0 c0_0 l0_0 a1 r w hr0_0 hc0_0 h
 cases k with
 | zero => exact absurd h (by simp [impl_typeFits.f])
 | succ k =>
 simp only [impl_typeFits.f] at h
 have hu50 := Try.underlying50
 have HR0_0 := Aside0.mk hr0_0
 have HC0_0 := Aside0.mk hc0_0
 clear hr0_0 hc0_0
 have HB := Aside0.mk (Below.refl w.heap.size w)
 have H : (if a1 < 1 then (some false) else (if (l0_0.length : Int) = 0 then (some true) else (if (l0_0.length : Int) = 2 then (if 0 < (l0_0.length : Int) then ((impl_typeFits.f k ((rd_T50 l0_0 0).f0) (wrap64 (a1 - 1))).bind fun t968 => (if t968 = true then (if 1 < (l0_0.length : Int) then ((impl_typeFits.f k ((rd_T50 l0_0 1).f0) (wrap64 (a1 - 1))).bind fun t970 => (some t970)) else (none)) else (some false))) else (none)) else (some false)))) = some r := h
 clear h
 by_cases c3 : a1 < 1
 ·rw [if_pos c3] at H
  have c3b0 : decide (a1 < 1) = true := decide_eq_true c3
  clear c3
  obtain rfl := Option.some.inj H
  go_enter Try.func59, Try.ntmps59
  go_wp2_with (first | ((with_reducible refine gate_dst (N := 2) rfl ?_); refine zbx 2 #[.slice A0_0 l0_0.length c0_0] 50 ?_; intro gb966 hg w4 hbox hb; have BK966 := Aside0.mk hbox; have GW966 := Aside0.mk ((y9 hg HB.out : w.heap.size ≤ gb966)); have GE966 := Aside0.mk ((y9 hg HB.out : w.heap.size ≤ gb966)); replace HB := Aside0.mk (below_step (y5 HB.out) hb); clear hb hbox hg))
  go_ret
  exact ⟨y19, (y6 HB.out GE966.out)⟩
 ·rw [if_neg c3] at H
  have c3b0 : decide (a1 < 1) = false := decide_eq_false c3
  clear c3
  by_cases c5 : (l0_0.length : Int) = 0
  ·rw [if_pos c5] at H
   have c5b0 : ((l0_0.length : Int) == 0) = true := beq_iff_eq.mpr c5
   have c5b1 : ((l0_0.length : Int) != 0) = false := bne_eq_false_iff_eq.mpr c5
   clear c5
   obtain rfl := Option.some.inj H
   go_enter Try.func59, Try.ntmps59
   go_wp2_with (first | ((with_reducible refine gate_dst (N := 2) rfl ?_); refine zbx 2 #[.slice A0_0 l0_0.length c0_0] 50 ?_; intro gb966 hg w6 hbox hb; have BK966 := Aside0.mk hbox; have GW966 := Aside0.mk ((y9 hg HB.out : w.heap.size ≤ gb966)); have GE966 := Aside0.mk ((y9 hg HB.out : w.heap.size ≤ gb966)); replace HB := Aside0.mk (below_step (y5 HB.out) hb); clear hb hbox hg; have hcz7_0 := zh BK966; have hfz7_0 := zfr BK966 0))
   go_ret
   exact ⟨y19, (y6 HB.out GE966.out)⟩
  ·rw [if_neg c5] at H
   have c5b0 : ((l0_0.length : Int) == 0) = false := beq_eq_false_iff_ne.mpr c5
   have c5b1 : ((l0_0.length : Int) != 0) = true := bne_iff_ne.mpr c5
   have c5b2 : ¬ (l0_0 = []) := fun h_ => c5 (by rw [h_]; rfl)
   by_cases c8 : (l0_0.length : Int) = 2
   ·rw [if_pos c8] at H
    have c8b0 : ((l0_0.length : Int) == 2) = true := beq_iff_eq.mpr c8
    have c8b1 : ((l0_0.length : Int) != 2) = false := bne_eq_false_iff_eq.mpr c8
    clear c8
    by_cases c9 : 0 < (l0_0.length : Int)
    ·rw [if_pos c9] at H
     have c9b0 : decide (0 < (l0_0.length : Int)) = true := decide_eq_true c9
     have c9b1 : decide (0 < l0_0.length) = true := decide_eq_true (by omega)
     clear c9
     obtain ⟨t968, A100, H⟩ := ob H
     have A10 := Aside0.mk A100
     clear A100
     by_cases c11 : t968 = true
     ·subst c11
      rw [if_pos rfl] at H
      by_cases c12 : 1 < (l0_0.length : Int)
      ·rw [if_pos c12] at H
       have c12b0 : decide (1 < (l0_0.length : Int)) = true := decide_eq_true c12
       have c12b1 : decide (1 < l0_0.length) = true := decide_eq_true (by omega)
       clear c12
       obtain ⟨t970, A130, H⟩ := ob H
       have A13 := Aside0.mk A130
       clear A130
       obtain rfl := Option.some.inj H
       go_enter Try.func59, Try.ntmps59
       go_wp2_with (first | ((with_reducible refine gate_dst (N := 2) rfl ?_); refine zbx 2 #[.slice A0_0 l0_0.length c0_0] 50 ?_; intro gb966 hg w14 hbox hb; have BK966 := Aside0.mk hbox; have GW966 := Aside0.mk ((y9 hg HB.out : w.heap.size ≤ gb966)); have GE966 := Aside0.mk ((y9 hg HB.out : w.heap.size ≤ gb966)); replace HB := Aside0.mk (below_step (y5 HB.out) hb); clear hb hbox hg; have hcz15_0 := zh BK966; have hfz15_0 := zfr BK966 0; have p967 : 0 ≤ (0 : Int) := (by omega); have q967 : 0 < (l0_0.length : Int) := of_decide_eq_true y23; obtain ⟨ad967, A967_0, c967_0, e967, hx967_0, hl967_0, hi967_0⟩ := at_T50 HR0_0.out 0 p967 q967; cases e967; have qi967 : (0 < l0_0.length) = True := eq_true (by omega); (try rw [show ((0 : Int)).toNat = 0 from rfl] at hx967_0); (try rw [Addr.add_zero'] at hx967_0); replace hx967_0 := (HB.out.cell (World.block_lt_of_cell? w _ hx967_0)).trans hx967_0; have HR967_0 := Aside0.mk hi967_0; have HC967_0 := Aside0.mk hl967_0; clear hi967_0 hl967_0; replace p967 := eq_true p967; replace q967 := eq_true q967) | (go_at_call 59; (with_reducible refine (ih k (by omega) _ _ ((rd_T50 l0_0 0).f0) (wrap64 (a1 - 1)) true _ ?side1 ?side2 A10.out).mono ?_); (case side1 => exact y15 HR967_0.out HB.out); (case side2 => exact HC967_0.out); rintro e w16 ⟨rfl, hb⟩; replace BK966 := zbb BK966 hb; replace HB := Aside0.mk (below_step (y6 HB.out GE966.out) hb); (try clear hb); (try clear hb2); (try clear hk); (try clear hi); have hcz17_0 := zh BK966; have hfz17_0 := zfr BK966 0; have p969 : 0 ≤ (1 : Int) := (by omega); have q969 : 1 < (l0_0.length : Int) := of_decide_eq_true y23; obtain ⟨ad969, A969_0, c969_0, e969, hx969_0, hl969_0, hi969_0⟩ := at_T50 HR0_0.out 1 p969 q969; obtain rfl : ad967 = ad969 := (by injection e969); (try simp only [show (1 : Int).toNat = 1 from rfl, Nat.reduceMul, Nat.reduceEqDiff, Go.Addr.add, ↓reduceIte] at hx969_0); have qi969 : (1 < l0_0.length) = True := eq_true (by omega); (try rw [show ((1 : Int)).toNat = 1 from rfl] at hx969_0); replace hx969_0 := (HB.out.cell (World.block_lt_of_cell? w _ hx969_0)).trans hx969_0; have HR969_0 := Aside0.mk hi969_0; have HC969_0 := Aside0.mk hl969_0; clear hi969_0 hl969_0; replace p969 := eq_true p969; replace q969 := eq_true q969) | (go_at_call 59; (with_reducible refine (ih k (by omega) _ _ ((rd_T50 l0_0 1).f0) (wrap64 (a1 - 1)) t970 _ ?side1 ?side2 A13.out).mono ?_); (case side1 => exact y15 HR969_0.out HB.out); (case side2 => exact HC969_0.out); rintro e w18 ⟨rfl, hb⟩; replace BK966 := zbb BK966 hb; replace HB := Aside0.mk (below_step (y6 HB.out GE966.out) hb); (try clear hb); (try clear hb2); (try clear hk); (try clear hi)))
       go_ret
       exact ⟨y19, (y6 HB.out GE966.out)⟩
      ·rw [if_neg c12] at H
       exact absurd H (by simp)
     ·replace c11 := Bool.eq_false_iff.mpr c11
      subst c11
      rw [if_neg (show ¬ (false = true) by decide)] at H
      obtain rfl := Option.some.inj H
      go_enter Try.func59, Try.ntmps59
      go_wp2_with (first | ((with_reducible refine gate_dst (N := 2) rfl ?_); refine zbx 2 #[.slice A0_0 l0_0.length c0_0] 50 ?_; intro gb966 hg w19 hbox hb; have BK966 := Aside0.mk hbox; have GW966 := Aside0.mk ((y9 hg HB.out : w.heap.size ≤ gb966)); have GE966 := Aside0.mk ((y9 hg HB.out : w.heap.size ≤ gb966)); replace HB := Aside0.mk (below_step (y5 HB.out) hb); clear hb hbox hg; have hcz20_0 := zh BK966; have hfz20_0 := zfr BK966 0; have p967 : 0 ≤ (0 : Int) := (by omega); have q967 : 0 < (l0_0.length : Int) := of_decide_eq_true y23; obtain ⟨ad967, A967_0, c967_0, e967, hx967_0, hl967_0, hi967_0⟩ := at_T50 HR0_0.out 0 p967 q967; cases e967; have qi967 : (0 < l0_0.length) = True := eq_true (by omega); (try rw [show ((0 : Int)).toNat = 0 from rfl] at hx967_0); (try rw [Addr.add_zero'] at hx967_0); replace hx967_0 := (HB.out.cell (World.block_lt_of_cell? w _ hx967_0)).trans hx967_0; have HR967_0 := Aside0.mk hi967_0; have HC967_0 := Aside0.mk hl967_0; clear hi967_0 hl967_0; replace p967 := eq_true p967; replace q967 := eq_true q967) | (go_at_call 59; (with_reducible refine (ih k (by omega) _ _ ((rd_T50 l0_0 0).f0) (wrap64 (a1 - 1)) false _ ?side1 ?side2 A10.out).mono ?_); (case side1 => exact y15 HR967_0.out HB.out); (case side2 => exact HC967_0.out); rintro e w21 ⟨rfl, hb⟩; replace BK966 := zbb BK966 hb; replace HB := Aside0.mk (below_step (y6 HB.out GE966.out) hb); (try clear hb); (try clear hb2); (try clear hk); (try clear hi)))
      go_ret
      exact ⟨y19, (y6 HB.out GE966.out)⟩
    ·rw [if_neg c9] at H
     exact absurd H (by simp)
   ·rw [if_neg c8] at H
    have c8b0 : ((l0_0.length : Int) == 2) = false := beq_eq_false_iff_ne.mpr c8
    have c8b1 : ((l0_0.length : Int) != 2) = true := bne_iff_ne.mpr c8
    obtain rfl := Option.some.inj H
    go_enter Try.func59, Try.ntmps59
    go_wp2_with (first | ((with_reducible refine gate_dst (N := 2) rfl ?_); refine zbx 2 #[.slice A0_0 l0_0.length c0_0] 50 ?_; intro gb966 hg w22 hbox hb; have BK966 := Aside0.mk hbox; have GW966 := Aside0.mk ((y9 hg HB.out : w.heap.size ≤ gb966)); have GE966 := Aside0.mk ((y9 hg HB.out : w.heap.size ≤ gb966)); replace HB := Aside0.mk (below_step (y5 HB.out) hb); clear hb hbox hg; have hcz23_0 := zh BK966; have hfz23_0 := zfr BK966 0))
    go_ret
    exact ⟨y19, (y6 HB.out GE966.out)⟩
end Go.Proofs.Ythfflieeifakdaa.PA
end
section
namespace Go.Proofs.Ythfflieeifakdaa.PA
open Go.RowKit Go.Proofs.YthfflieeifakdaaW.PrintWords Go.Proofs.YthfflieeifakdaaW.PrintLast Go.Proofs.YthfflieeifakdaaW.PrintMore
attribute [local go_sem] max2_int min2_int max_two min_two max_three min_three max_four min_four
set_option linter.unusedVariables false
set_option linter.unusedSimpArgs false
def impl_TypeOk.f (k : Nat) (l0_0 : List (S50)) : Option (Bool) := (impl_typeFits.f k l0_0 4).bind fun t972 => (some t972)
theorem impl_TypeOk.mono : ∀ a0 k, LeO (impl_TypeOk.f k a0) (impl_TypeOk.f (k + 1) a0) := by
 intro a0 k
 unfold impl_TypeOk.f
 repeat' first
   | (with_reducible exact impl_typeFits.mono _ _ _)
   | (with_reducible exact LeO.refl _)
   | (with_reducible exact LeO.none _)
   | (with_reducible refine LeO.ite ?_ ?_)
   | (with_reducible refine LeO.bind ?_ (fun _ => ?_))
   | exact impl_typeFits.mono _ _ _
   | exact LeO.none _
   | refine LeO.ite ?_ ?_
   | refine LeO.bind ?_ (fun _ => ?_)
set_option maxHeartbeats 8000000 in
set_option maxRecDepth 100000 in
theorem impl_TypeOk.calls (k : Nat) (A0_0 : Option Addr) (c0_0 : Nat) (l0_0 : List (S50)) (r : Bool) (w : World) (hr0_0 : Kd.C k50 w A0_0 l0_0.length l0_0) (hc0_0 : l0_0.length ≤ c0_0) (h : impl_TypeOk.f k l0_0 = some r) :
  Calls Try.prog 52 #[.agg #[.slice A0_0 l0_0.length c0_0]] w fun e w' => e = .returned (.bool r) ∧ Below w.heap.size w w' := by
 have hu50 := Try.underlying50
 have HR0_0 := Aside0.mk hr0_0
 have HC0_0 := Aside0.mk hc0_0
 clear hr0_0 hc0_0
 have HB := Aside0.mk (Below.refl w.heap.size w)
 have H : ((impl_typeFits.f k l0_0 4).bind fun t972 => (some t972)) = some r := h
 clear h
 obtain ⟨t972, A20, H⟩ := ob H
 have A2 := Aside0.mk A20
 clear A20
 obtain rfl := Option.some.inj H
 go_enter Try.func52, Try.ntmps52
 go_wp2_with (first | ((with_reducible refine gate_dst (N := 1) rfl ?_); refine zbx 1 #[.slice A0_0 l0_0.length c0_0] 50 ?_; intro gb971 hg w3 hbox hb; have BK971 := Aside0.mk hbox; have GW971 := Aside0.mk ((y9 hg HB.out : w.heap.size ≤ gb971)); have GE971 := Aside0.mk ((y9 hg HB.out : w.heap.size ≤ gb971)); replace HB := Aside0.mk (below_step (y5 HB.out) hb); clear hb hbox hg; have hcz4_0 := zh BK971; have hfz4_0 := zfr BK971 0) | ((with_reducible refine gate_callee (f := 59) rfl ?_); refine goesL_ (some 4) rfl rfl Try.func59 (by kernel_rfl) rfl #[.agg #[.slice A0_0 l0_0.length c0_0], .int .i64 4] rfl y8 ?_; (with_reducible refine (impl_typeFits.calls k _ _ l0_0 4 t972 _ ?side1 ?side2 A2.out).mono ?_); (case side1 => exact y15 HR0_0.out HB.out); (case side2 => exact HC0_0.out); rintro e w5 ⟨rfl, hb⟩; refine ⟨_, rfl, ?_⟩; replace BK971 := zbb BK971 hb; replace HB := Aside0.mk (below_step (y6 HB.out GE971.out) hb); (try clear hb); (try clear hb2); (try clear hk); (try clear hi)))
 go_ret
 exact ⟨y19, (y6 HB.out GE971.out)⟩
end Go.Proofs.Ythfflieeifakdaa.PA
end
section
namespace Go.Proofs.Ythfflieeifakdaa.Types
open Go.RowKit Go.Proofs.Ythfflieeifakdaa.PA Go.Proofs.YthfflieeifakdaaW.PrintWords Go.Proofs.YthfflieeifakdaaW.PrintLast Go.Proofs.Ythfflieeifakdaa.Draw
abbrev Ty := List S50
theorem rd0 (a : S50) (l : Ty) : rd_T50 (a :: l) 0 = a := rfl
theorem rd1 (a b : S50) (l : Ty) : rd_T50 (a :: b :: l) 1 = b := rfl
def dp : Nat → Ty → Bool
  | 0, _ => false
  | _ + 1, [] => true
  | n + 1, [a, b] => dp n a.f0 && dp n b.f0
  | _ + 1, _ => false
theorem dp_nil (n : Nat) : dp (n + 1) [] = true := rfl
theorem dp_two (n : Nat) (a b : S50) : dp (n + 1) [a, b] = (dp n a.f0 && dp n b.f0) := rfl
theorem dp_odd (n : Nat) (l : Ty) (h0 : l.length ≠ 0) (h2 : l.length ≠ 2) : dp n l = false := by
  cases n with
  | zero => rfl
  | succ n =>
    match l with
    | [] => simp at h0
    | [_] => rfl
    | [_, _] => simp at h2
    | _ :: _ :: _ :: _ => rfl
theorem two_of {l : Ty} (h : l.length = 2) : ∃ a b, l = [a, b] := by
  match l with
  | [a, b] => exact ⟨a, b, rfl⟩
theorem shape (l : Ty) : l = [] ∨ (∃ a b, l = [a, b]) ∨ (l.length ≠ 0 ∧ l.length ≠ 2) := by
  match l with
  | [] => exact .inl rfl
  | [_] => exact .inr (.inr ⟨by simp, by simp⟩)
  | [a, b] => exact .inr (.inl ⟨a, b, rfl⟩)
  | _ :: _ :: _ :: _ => exact .inr (.inr ⟨by simp, by simp⟩)
theorem pred_cast (n : Nat) (hn : n ≤ 1000) : wrap64 (((n + 1 : Nat) : Int) - 1) = (n : Int) := by rw [w64 (by omega) (by omega)]; omega
theorem deep_ev : ∀ (n : Nat), n ≤ 1000 → ∀ (l : Ty) (k : Nat), 5 * n + 3 ≤ k → spec_l1Deep.f k l n = some (dp n l) := by
  intro n
  induction n with
  | zero =>
    intro _ l k hk
    obtain ⟨k, rfl⟩ : ∃ m, k = m + 2 := ⟨k - 2, by omega⟩
    simp only [spec_l1Deep.f]
    rw [if_pos (by omega)]
    simp only [spec_l1Deep.j0, if_true]
    rfl
  | succ n ih =>
    intro hn l k hk
    obtain ⟨k, rfl⟩ : ∃ m, k = m + 5 := ⟨k - 5, by omega⟩
    have hp := pred_cast n (by omega)
    simp only [spec_l1Deep.f]
    rw [if_neg (by omega)]
    rcases shape l with rfl | ⟨a, b, rfl⟩ | ⟨h0, h2⟩
    · rw [if_pos (by simp)]
      simp only [spec_l1Deep.j0, spec_l1Deep.l0]
      rw [if_neg (by simp), if_neg (by simp)]
      rfl
    · rw [if_neg (by simp)]
      simp only [spec_l1Deep.j0]
      rw [if_neg (by simp)]
      simp only [spec_l1Deep.l0, hp, w01, w12]
      rw [if_pos (by simp), if_pos (by omega), rd0, ih (by omega) _ _ (by omega), dp_two]
      simp only [Option.bind_some]
      cases ha : dp n a.f0 with
      | false => simp
      | true =>
        rw [if_pos rfl, if_pos (by simp), if_pos (by omega), rd1, ih (by omega) _ _ (by omega)]
        simp only [Option.bind_some]
        cases hb : dp n b.f0 with
        | false => simp
        | true => rw [if_pos rfl, if_neg (by simp)]; rfl
    · rw [if_neg (by omega), dp_odd _ _ h0 h2]
      simp only [spec_l1Deep.j0]
      rw [if_pos (by simp; omega)]
theorem specOk_ev (l : Ty) (k : Nat) (hk : 23 ≤ k) : spec_TypeOk.f k l = some (dp 4 l) := by
  unfold spec_TypeOk.f
  rw [show (4 : Int) = ((4 : Nat) : Int) from rfl, deep_ev 4 (by omega) l k (by omega)]; rfl
theorem fits_ev : ∀ (n : Nat), n ≤ 1000 → ∀ (l : Ty) (k : Nat), n + 1 ≤ k → impl_typeFits.f k l n = some (dp n l) := by
  intro n
  induction n with
  | zero =>
    intro _ l k hk
    obtain ⟨k, rfl⟩ : ∃ m, k = m + 1 := ⟨k - 1, by omega⟩
    simp only [impl_typeFits.f]
    rw [if_pos (by omega)]; rfl
  | succ n ih =>
    intro hn l k hk
    obtain ⟨k, rfl⟩ : ∃ m, k = m + 1 := ⟨k - 1, by omega⟩
    have hp := pred_cast n (by omega)
    simp only [impl_typeFits.f]
    rw [if_neg (by omega)]
    rcases shape l with rfl | ⟨a, b, rfl⟩ | ⟨h0, h2⟩
    · rw [if_pos (by simp)]; rfl
    · rw [if_neg (by simp), if_pos (by simp), if_pos (by simp), hp, rd0, ih (by omega) _ _ (by omega), dp_two]
      simp only [Option.bind_some]
      cases ha : dp n a.f0 with
      | false => simp
      | true => rw [if_pos rfl, if_pos (by simp), rd1, ih (by omega) _ _ (by omega)]; simp
    · rw [if_neg (by omega), if_neg (by omega), dp_odd _ _ h0 h2]
theorem implOk_ev (l : Ty) (k : Nat) (hk : 5 ≤ k) : impl_TypeOk.f k l = some (dp 4 l) := by
  unfold impl_TypeOk.f
  rw [show (4 : Int) = ((4 : Nat) : Int) from rfl, fits_ev 4 (by omega) l k (by omega)]; rfl
def tx : Nat → Ty → ByteArray
  | n + 1, [a, b] => ((((⟨#[40]⟩ : ByteArray) ++ tx n a.f0) ++ (⟨#[44]⟩ : ByteArray)) ++ tx n b.f0) ++ (⟨#[41]⟩ : ByteArray)
  | _, _ => ⟨#[105]⟩
theorem tx_two (n : Nat) (a b : S50) : tx (n + 1) [a, b] = ((((⟨#[40]⟩ : ByteArray) ++ tx n a.f0) ++ (⟨#[44]⟩ : ByteArray)) ++ tx n b.f0) ++ (⟨#[41]⟩ : ByteArray) := rfl
theorem tx_nil (n : Nat) : tx n [] = ⟨#[105]⟩ := by cases n <;> rfl
theorem tx_size (n : Nat) : ∀ l, (tx n l).size + 3 ≤ 4 * 2 ^ n := by
  induction n with
  | zero => intro l; simp [tx]; decide
  | succ n ih =>
    intro l
    have hp : 1 ≤ 2 ^ n := Nat.one_le_two_pow
    have h1 : (⟨#[105]⟩ : ByteArray).size = 1 := rfl
    rw [Nat.pow_succ]
    match l with
    | [a, b] =>
      have ha := ih a.f0
      have hb := ih b.f0
      rw [tx_two]
      simp only [ByteArray.size_append, show (⟨#[40]⟩ : ByteArray).size = 1 from rfl, show (⟨#[44]⟩ : ByteArray).size = 1 from rfl, show (⟨#[41]⟩ : ByteArray).size = 1 from rfl]
      omega
    | [] => show (⟨#[105]⟩ : ByteArray).size + 3 ≤ _; omega
    | [_] => show (⟨#[105]⟩ : ByteArray).size + 3 ≤ _; omega
    | _ :: _ :: _ :: _ => show (⟨#[105]⟩ : ByteArray).size + 3 ≤ _; omega
def text (l : Ty) : ByteArray := if dp 4 l = true then tx 4 l else ⟨#[]⟩
def teq : Nat → Ty → Ty → Bool
  | _ + 1, [], [] => true
  | n + 1, [a, b], [c, d] => teq n a.f0 c.f0 && teq n b.f0 d.f0
  | _, _, _ => false
theorem teq_eq : ∀ (n : Nat) (a b : Ty), teq n a b = true → a = b := by
  intro n
  induction n with
  | zero => intro a b h; simp [teq] at h
  | succ n ih =>
    intro a b h
    unfold teq at h
    split at h
    · rfl
    · rename_i m x y z u he
      cases he
      rw [Bool.and_eq_true] at h
      have h1 := ih _ _ h.1
      have h2 := ih _ _ h.2
      cases x; cases y; cases z; cases u
      simp_all
    · cases h
theorem teq_refl : ∀ (n : Nat) (a : Ty), dp n a = true → teq n a a = true := by
  intro n
  induction n with
  | zero => intro a h; simp [dp] at h
  | succ n ih =>
    intro a h
    rcases shape a with rfl | ⟨a1, a2, rfl⟩ | ⟨h0, h2⟩
    · rfl
    · rw [dp_two, Bool.and_eq_true] at h
      show (teq n a1.f0 a1.f0 && teq n a2.f0 a2.f0) = true
      rw [ih _ h.1, ih _ h.2]; rfl
    · rw [dp_odd _ _ h0 h2] at h; cases h
theorem toList_app (a b : ByteArray) : (a ++ b).toList = a.toList ++ b.toList := by
  rw [ByteArray.toList_eq, ByteArray.toList_eq, ByteArray.toList_eq]; simp
theorem lit_toList (c : UInt8) : (⟨#[c]⟩ : ByteArray).toList = [c] := by rw [ByteArray.toList_eq]
theorem tx_inj : ∀ (n : Nat) (a b : Ty) (r s : List UInt8), dp n a = true → dp n b = true → (tx n a).toList ++ r = (tx n b).toList ++ s → teq n a b = true ∧ r = s := by
  intro n
  induction n with
  | zero => intro a b r s h; simp [dp] at h
  | succ n ih =>
    intro a b r s ha hb h
    rcases shape a with rfl | ⟨a1, a2, rfl⟩ | ⟨h0, h2⟩
    · rcases shape b with rfl | ⟨b1, b2, rfl⟩ | ⟨h0, h2⟩
      · rw [tx_nil] at h
        exact ⟨rfl, List.append_cancel_left h⟩
      · rw [tx_nil, tx_two] at h
        simp only [toList_app, lit_toList, List.cons_append, List.nil_append, List.append_assoc] at h
        injection h with h1 _
        exact absurd h1 (by decide)
      · rw [dp_odd _ _ h0 h2] at hb; cases hb
    · rcases shape b with rfl | ⟨b1, b2, rfl⟩ | ⟨h0, h2⟩
      · rw [tx_nil, tx_two] at h
        simp only [toList_app, lit_toList, List.cons_append, List.nil_append, List.append_assoc] at h
        injection h with h1 _
        exact absurd h1 (by decide)
      · rw [dp_two, Bool.and_eq_true] at ha hb
        rw [tx_two, tx_two] at h
        simp only [toList_app, lit_toList, List.cons_append, List.nil_append, List.append_assoc] at h
        injection h with _ h
        obtain ⟨e1, h⟩ := ih _ _ _ _ ha.1 hb.1 h
        injection h with _ h
        obtain ⟨e2, h⟩ := ih _ _ _ _ ha.2 hb.2 h
        injection h with _ h
        refine ⟨?_, h⟩
        show (teq n a1.f0 b1.f0 && teq n a2.f0 b2.f0) = true
        rw [e1, e2]; rfl
      · rw [dp_odd _ _ h0 h2] at hb; cases hb
    · rw [dp_odd _ _ h0 h2] at ha; cases ha
theorem text_teq (a b : Ty) (ha : dp 4 a = true) (hb : dp 4 b = true) : ((text a).toList == (text b).toList) = teq 4 a b := by
  unfold text
  rw [if_pos ha, if_pos hb]
  by_cases h : (tx 4 a).toList = (tx 4 b).toList
  · rw [beq_iff_eq.2 h, (tx_inj 4 a b [] [] ha hb (by simpa using h)).1]
  · cases e : teq 4 a b with
    | false => exact beq_eq_false_iff_ne.2 h
    | true => exact absurd (by rw [teq_eq _ _ _ e]) h
theorem tx_pos (n : Nat) (l : Ty) : 0 < (tx n l).size := by
  unfold tx
  split
  · simp only [ByteArray.size_append, show (⟨#[40]⟩ : ByteArray).size = 1 from rfl]; omega
  · decide
theorem dph_mono : ∀ (n : Nat) (l : Ty), Dph n l → Dph (n + 1) l := by
  intro n
  induction n with
  | zero => intro l h; rw [show l = [] from h]; exact dph_nil _
  | succ n ih => intro l h x hx; exact ih _ (h x hx)
theorem dph_le (n m : Nat) (h : n ≤ m) (l : Ty) (hd : Dph n l) : Dph m l := by
  induction m with
  | zero => obtain rfl : n = 0 := by omega
            exact hd
  | succ m ih =>
    by_cases e : n = m + 1
    · subst e; exact hd
    · exact dph_mono _ _ (ih (by omega))
end Go.Proofs.Ythfflieeifakdaa.Types
end
section
namespace Go.Proofs.Ythfflieeifakdaa.PA
open Go.RowKit Go.Proofs.YthfflieeifakdaaW.PrintWords Go.Proofs.YthfflieeifakdaaW.PrintLast Go.Proofs.YthfflieeifakdaaW.PrintMore
attribute [local go_sem] max2_int min2_int max_two min_two max_three min_three max_four min_four
set_option linter.unusedVariables false
set_option linter.unusedSimpArgs false
mutual
def spec_l1Copy.l0 : Nat → Int → List (S50) → List (S50) → Option ((List (S50)))
 | 0, _, _, _ => none
 | k + 1, x4, x575000, x577000 => if x4 < (x575000.length : Int) then (if 0 ≤ x4 then ((spec_l1Copy.f k ((rd_T50 x575000 x4).f0)).bind fun t578 => (if x577000.length < 5864062014805 then (spec_l1Copy.l0 k (wrap64 (x4 + 1)) x575000 (x577000 ++ [(⟨t578⟩ : S50)])) else (none))) else (none)) else (some x577000)
def spec_l1Copy.f : Nat → List (S50) → Option ((List (S50)))
 | 0, _ => none
 | k + 1, l0_0 => spec_l1Copy.l0 k 0 l0_0 ([] : List (S50))
end
theorem spec_l1Copy.mono_l : ∀ k, (∀ y0, LeO (spec_l1Copy.f k y0) (spec_l1Copy.f (k + 1) y0)) ∧ (∀ y0 y1 y2, LeO (spec_l1Copy.l0 k y0 y1 y2) (spec_l1Copy.l0 (k + 1) y0 y1 y2))
 | 0 => ⟨fun _ r h => by simp [spec_l1Copy.f] at h, fun _ _ _ r h => by simp [spec_l1Copy.l0] at h⟩
 | k + 1 => by
  obtain ⟨ih0, ih1⟩ := spec_l1Copy.mono_l k
  refine ⟨?_, ?_⟩
  ·intro y0
   unfold spec_l1Copy.f
   repeat' first
   | (with_reducible exact ih0 _)
   | (with_reducible exact ih1 _ _ _)
   | (with_reducible exact LeO.refl _)
   | (with_reducible exact LeO.none _)
   | (with_reducible refine LeO.ite ?_ ?_)
   | (with_reducible refine LeO.bind ?_ (fun _ => ?_))
   | exact ih0 _
   | exact ih1 _ _ _
   | exact LeO.none _
   | refine LeO.ite ?_ ?_
   | refine LeO.bind ?_ (fun _ => ?_)
  ·intro y0 y1 y2
   unfold spec_l1Copy.l0
   repeat' first
   | (with_reducible exact ih0 _)
   | (with_reducible exact ih1 _ _ _)
   | (with_reducible exact LeO.refl _)
   | (with_reducible exact LeO.none _)
   | (with_reducible refine LeO.ite ?_ ?_)
   | (with_reducible refine LeO.bind ?_ (fun _ => ?_))
   | exact ih0 _
   | exact ih1 _ _ _
   | exact LeO.none _
   | refine LeO.ite ?_ ?_
   | refine LeO.bind ?_ (fun _ => ?_)
theorem spec_l1Copy.mono : ∀ a0 k, LeO (spec_l1Copy.f k a0) (spec_l1Copy.f (k + 1) a0) := by
 intro a0 k
 obtain ⟨ih0, ih1⟩ := spec_l1Copy.mono_l k
 exact ih0 a0
def spec_l1Copy.T5 : Bool × List (List Nat × List Nat) := (true, [([], []), ([0], [0]), ([], []), ([2], [2]), ([], []), ([3, 4], [3, 4]), ([5], [5]), ([6], [6]), ([7], [7]), ([1, 8, 7], [1, 8]), ([0, 1, 2, 3, 4, 5, 6, 7, 8, 9], []), ([10, 9, 9, 0, 1, 2, 3, 4, 5, 6, 7, 8, 9], [9, 10])])
def spec_l1Copy.B5 : List Nat := [0, 1, 0, 4, 0, 28, 60, 124, 252, 511, 1023, 2047]
theorem spec_l1Copy.tab5 : rtab .any (opsOf Try.f58 5) = spec_l1Copy.T5 := by kernel_rfl
theorem spec_l1Copy.bits5 : waitsOk spec_l1Copy.T5.2 spec_l1Copy.B5 = true := by kernel_rfl
set_option maxHeartbeats 8000000 in
set_option maxRecDepth 100000 in
theorem spec_l1Copy.calls (k : Nat) : ∀ (A0_0 : Option Addr) (c0_0 : Nat) (l0_0 : List (S50)) (r : List (S50)) (w : World) (hr0_0 : Kd.C k50 w A0_0 l0_0.length l0_0) (hc0_0 : l0_0.length ≤ c0_0) (h : spec_l1Copy.f k l0_0 = some r),
  Calls Try.prog 58 #[.agg #[.slice A0_0 l0_0.length c0_0]] w fun e w' => ∃ v0_ : Value, e = .returned (.agg #[v0_]) ∧ Kd.R k50 50 w' w.heap.size (fun _ => True) v0_ r ∧ Below w.heap.size w w' := by
 induction k using Nat.strongRecOn with
 | _ k ih =>
 intro A0_0 c0_0 l0_0 r w hr0_0 hc0_0 h
 cases k with
 | zero => exact absurd h (by simp [spec_l1Copy.f])
 | succ k =>
 simp only [spec_l1Copy.f] at h
 have hu50 := Try.underlying50
 have HR0_0 := Aside0.mk hr0_0
 have HC0_0 := Aside0.mk hc0_0
 clear hr0_0 hc0_0
 have HB := Aside0.mk (Below.refl w.heap.size w)
 have H : (spec_l1Copy.l0 k 0 l0_0 ([] : List (S50))) = some r := h
 clear h
 have H' := Aside0.mk H
 clear H
 go_enter Try.func58, Try.ntmps58
 go_wp2_with (first | ((with_reducible refine gate_dst (N := 1) rfl ?_); refine zbx 1 #[.slice A0_0 l0_0.length c0_0] 50 ?_; intro gb574 hg w2 hbox hb; have BK574 := Aside0.mk hbox; have GW574 := Aside0.mk ((y9 hg HB.out : w.heap.size ≤ gb574)); have GE574 := Aside0.mk ((y9 hg HB.out : w.heap.size ≤ gb574)); replace HB := Aside0.mk (below_step (y5 HB.out) hb); clear hb hbox hg) | ((with_reducible refine gate_dst (N := 2) rfl ?_); refine zbx 2 #[.slice none 0 0] 50 ?_; intro gb575 hg w3 hbox hb; have BK575 := Aside0.mk hbox; have GW575 := Aside0.mk ((y11 hg HB.out GE574.out : w.heap.size ≤ gb575)); have GE575 := Aside0.mk ((y11 hg HB.out GE574.out : w.heap.size ≤ gb575)); replace HB := Aside0.mk (below_step (y6 HB.out GE574.out) hb); have NB574_575 := zltn hg BK574; have NB575_574 := zgtn hg BK574; replace BK574 := zbb BK574 hb; clear hb hbox hg) | ((with_reducible refine gate_dst (N := 3) rfl ?_); refine zbx 3 #[.slice none 0 0] 50 ?_; intro gb576 hg w4 hbox hb; have BK576 := Aside0.mk hbox; have GW576 := Aside0.mk ((y16 hg HB.out GE574.out GE575.out : w.heap.size ≤ gb576)); have GE576 := Aside0.mk ((y16 hg HB.out GE574.out GE575.out : w.heap.size ≤ gb576)); replace HB := Aside0.mk (below_step (y2 HB.out GE574.out GE575.out) hb); have NB574_576 := zltn hg BK574; have NB576_574 := zgtn hg BK574; replace BK574 := zbb BK574 hb; have NB575_576 := zltn hg BK575; have NB576_575 := zgtn hg BK575; replace BK575 := zbb BK575 hb; clear hb hbox hg; have hnb5 := NB576_574.out; have hnc5 := NB574_576.out; have hnb6 := NB576_575.out; have hnc6 := NB575_576.out; have hcz7_0 := zh BK576; have hfz7_0 := zfr BK576 0))
 go_loopg [4] k (fun kq v4 w' => ∃ (x4_1 : Int) (x577000_1 : List (S50)) (u577000 : Value), v4 = .int .i64 x4_1 ∧ Aside0 (spec_l1Copy.l0 kq x4_1 l0_0 x577000_1 = some r) ∧ Aside0 (kq ≤ k) ∧ Aside0 (Kd.R k50 50 w' w.heap.size (fun k_ => k_ ≠ gb574 ∧ k_ ≠ gb575 ∧ k_ ≠ gb576) u577000 x577000_1) ∧ Aside0 (w'.heap[gb574]? = some (.cells #[(.slice A0_0 l0_0.length c0_0)] 50 (0, 0))) ∧ Aside0 (w'.heap[gb575]? = some (.cells #[(.slice none 0 0)] 50 (0, 0))) ∧ Aside0 (w'.heap[gb576]? = some (.cells #[u577000] 50 (0, 0))) ∧ Aside0 (Below w.heap.size w w'))
 case atStart => exact ⟨(0), (([] : List (S50))), (.slice none 0 0), y34, H', ⟨Nat.le_refl _⟩, ⟨y37⟩, ⟨(y13 NB574_576.out BK574.out)⟩, ⟨(y13 NB575_576.out BK575.out)⟩, ⟨(by (with_reducible repeat (first | refine blk_drewN ?_ _ | refine blk_drew ?_ | refine blk_alloc ?_ _)); refine blk_put (cs := #[.slice none 0 0]) ?_ 0 _ rfl; (with_reducible repeat (first | refine blk_drewN ?_ _ | refine blk_drew ?_ | refine blk_alloc ?_ _)); exact BK576.out)⟩, ⟨(y4 HB.out GE574.out GE575.out GE576.out)⟩⟩
 case round =>
  clear H'
  try clear p2
  try clear c5
  try clear c6
  try clear hcz7_0
  try clear hfz7_0
  (try clear BK574); (try clear BK575); (try clear BK576)
  obtain ⟨x4_1, x577000_1, u577000, rfl, HA, HK1, HO_577000, BK574, BK575, BK576, HB⟩ := hrel
  cases gk with
  | zero => exact absurd HA.out (by simp [spec_l1Copy.l0])
  | succ k1 =>
   have H := HA.out
   clear HA
   simp only [spec_l1Copy.l0] at H
   by_cases c8 : x4_1 < (l0_0.length : Int)
   ·rw [if_pos c8] at H
    have c8b0 : decide (x4_1 < (l0_0.length : Int)) = true := decide_eq_true c8
    clear c8
    by_cases c9 : 0 ≤ x4_1
    ·rw [if_pos c9] at H
     have c9b0 : decide (0 ≤ x4_1) = true := decide_eq_true c9
     clear c9
     obtain ⟨t578, A100, H⟩ := ob H
     have A10 := Aside0.mk A100
     clear A100
     by_cases c11 : x577000_1.length < 5864062014805
     ·rw [if_pos c11] at H
      have LMc11 := Aside0.mk c11
      clear c11
      obtain ⟨y581, hy581⟩ : ∃ y_ : List (S50), y_ = (x577000_1 ++ [(⟨t578⟩ : S50)]) := ⟨_, rfl⟩
      replace H : (spec_l1Copy.l0 k1 (wrap64 (x4_1 + 1)) l0_0 y581) = some r := by first | (rw [hy581]; with_reducible exact H) | (have H2_ := (Option.bind_some _ _).symm.trans H; rw [hy581]; with_reducible exact H2_) | (have H2_ := (Option.bind_some _ _).symm.trans H; with_reducible exact H2_) | with_reducible exact H | (rw [hy581]; exact H) | exact H
      have Ny581 := Aside0.mk hy581
      clear hy581
      have H' := Aside0.mk H
      clear H
      have hnb12 := NB574_575.out
      have hnc12 := NB575_574.out
      have hnb13 := NB574_576.out
      have hnc13 := NB576_574.out
      have hcz14_0 := zh BK574
      have hfz14_0 := zfr BK574 0
      try go_wp2
      replace HO_577000 := Aside0.mk (Kd.R_drew HO_577000.out)
      replace BK574 := Aside0.mk (blk_drew BK574.out)
      replace BK575 := Aside0.mk (blk_drew BK575.out)
      replace BK576 := Aside0.mk (blk_drew BK576.out)
      replace HB := Aside0.mk (below_drew1 HB.out)
      have p577 : 0 ≤ (x4_1 : Int) := of_decide_eq_true y23
      have q577 : x4_1 < (l0_0.length : Int) := of_decide_eq_true y23
      obtain ⟨ad577, A577_0, c577_0, e577, hx577_0, hl577_0, hi577_0⟩ := at_T50 HR0_0.out x4_1 p577 q577
      have hw577_0 := hx577_0
      cases e577
      replace hx577_0 := (HB.out.cell (World.block_lt_of_cell? w _ hx577_0)).trans hx577_0
      have HR577_0 := Aside0.mk hi577_0
      have HC577_0 := Aside0.mk hl577_0
      clear hi577_0 hl577_0
      replace p577 := eq_true p577
      replace q577 := eq_true q577
      refine start_ (n := 12) (S := fun w' => w'.cell? ⟨gb576, 0, none⟩ = some (u577000) ∧ w'.cell? ⟨gb574, 0, none⟩ = some (.slice (some ad577) l0_0.length c0_0) ∧ w'.cell? (ad577.add (x4_1).toNat) = some (.slice A577_0 ((rd_T50 l0_0 x4_1).f0).length c577_0)) (ds := [11]) #[false, false, false, false, false, false, false, false, false, false, false, false] (by kernel_rfl) rfl rfl ⟨(blk_cell BK576.out 0).trans rfl, (blk_cell BK574.out 0).trans rfl, ((HB.out.cell (World.block_lt_of_cell? w _ hw577_0)).trans hw577_0)⟩ (fun hHeld => ?_); refine with_tabW spec_l1Copy.tab5 spec_l1Copy.bits5 (fun HT_ HW_ => ?_)
      generalize wr.drew = w15 at HO_577000 BK574 BK575 BK576 HB HR577_0 hx577_0 hHeld ⊢
      refine zp 0 (some 13) HT_ ?_
      refine zp 2 (some 15) HT_ ?_
      refine zp 4 (some 17) HT_ ?_
      refine zt3 1 (some 14) HT_ HW_ hHeld ?_
      refine zt3 3 (some 16) HT_ HW_ hHeld ?_
      refine zp 5 (some 18) HT_ ?_
      refine zt3 6 (some 19) HT_ HW_ hHeld ?_
      refine one_ (i := 7) (N := some 20) #[true, true, true, true, true, true, true, true, false, false, false, false] rfl rfl (one_of HT_.out (by kernel_rfl)) (by decide) (fun K hK => ?_)
      refine goes_ Try.func58 (by kernel_rfl) rfl #[.agg #[.slice A577_0 ((rd_T50 l0_0 x4_1).f0).length c577_0]] (by rfl) rfl rfl y8 ?_
      with_reducible refine (ih k1 (y57 HK1.out) _ _ ((rd_T50 l0_0 x4_1).f0) t578 _ ?side1 ?side2 A10.out).mono ?_
      (case side1 => exact y15 HR577_0.out HB.out)
      (case side2 => exact HC577_0.out)
      rintro e w16 ⟨v579, rfl, ho0, hb⟩
      refine ⟨_, rfl, ?_⟩
      have HO580 := Aside0.mk (Kd.R_lower (Kd.R_newB (Kd.R_newB (Kd.R_newB (Kd.R_new' ho0 (Kd.R_lt (y12 HO_577000.out))) (g := gb574) (o := .cells #[.slice (some ad577) l0_0.length c0_0] 50 (0, 0)) (y0 BK574.out)) (g := gb575) (o := .cells #[.slice none 0 0] 50 (0, 0)) (y0 BK575.out)) (g := gb576) (o := .cells #[u577000] 50 (0, 0)) (y0 BK576.out)) (below_size (y4 HB.out GE574.out GE575.out GE576.out)))
      replace HO_577000 := Aside0.mk (Kd.R_elder' (y12 HO_577000.out) (Kd.R_base ho0) hb)
      replace BK574 := zbb BK574 hb
      replace BK575 := zbb BK575 hb
      replace BK576 := zbb BK576 hb
      replace HB := Aside0.mk (below_step (y4 HB.out GE574.out GE575.out GE576.out) hb)
      (try clear hb)
      (try clear hb2)
      (try clear hk)
      (try clear hi)
      (try clear ho0)
      obtain ⟨Ao18, co18, eo18⟩ := Kd.R_slice HO580.out
      (first | subst eo18 | (injection eo18 with f1_ f2_ f3_; have f4_ := f1_.symm; have f5_ := f3_.symm; clear f1_ f2_ f3_; subst f4_; subst f5_))
      refine hK.out _ _ ⟨(blk_cell BK576.out 0).trans rfl, (blk_cell BK574.out 0).trans rfl, ((HB.out.cell (World.block_lt_of_cell? w _ hw577_0)).trans hw577_0)⟩ (fun hHeld => ?_)
      clear hK K
      refine norm_ (a' := ?_) ?_ ?_
      rotate_left
      ·show Act.put _ (some 20) _ = _
       simp only [Act.put, List.setIfInBounds_toArray, List.set_cons_zero, List.set_cons_succ, i64_w, i32_w]
       rfl
      refine one_ (i := 8) (N := some 21) #[true, true, true, true, true, true, true, true, true, false, false, false] rfl rfl (one_of HT_.out (by kernel_rfl)) (by decide) (fun K hK => ?_)
      refine value_ (w1 := ?_) (v := ?_) (by rfl) rfl ?_ ?_
      rotate_left 2
      ·go_simp
       constructor
       ·rfl
       ·rfl
      refine hK.out _ _ ⟨(blk_cell (blk_alloc BK576.out _) 0).trans rfl, (blk_cell (blk_alloc BK574.out _) 0).trans rfl, (World.cell?_alloc_lt _ _ _ (World.block_lt_of_cell? _ _ (((HB.out.cell (World.block_lt_of_cell? w _ hw577_0)).trans hw577_0)))).trans (((HB.out.cell (World.block_lt_of_cell? w _ hw577_0)).trans hw577_0))⟩ (fun hHeld => ?_)
      clear hK K
      refine norm_ (a' := ?_) ?_ ?_
      rotate_left
      ·show Act.put _ (some 21) _ = _
       simp only [Act.put, List.setIfInBounds_toArray, List.set_cons_zero, List.set_cons_succ, i64_w, i32_w]
       rfl
      refine one_ (i := 9) (N := some 22) #[true, true, true, true, true, true, true, true, true, true, false, false] rfl rfl (one_of HT_.out (by kernel_rfl)) (by decide) (fun K hK => ?_)
      refine Kd.R_append_step k50 (w0 := w) w.heap.size (by rfl) (.tmp 14) (.tmp 21) 48 50 (.agg #[(.slice none 0 0)]) 24 rfl Try.underlying48 info50 rfl (by decide) (by omega) u577000 x577000_1 (⟨t578⟩ : S50) [.slice Ao18 t578.length co18] (fun k_ => k_ ≠ gb574 ∧ k_ ≠ gb575 ∧ k_ ≠ gb576) (fun k_ => ((fun k_ => k_ ≠ gb574 ∧ k_ ≠ gb575 ∧ k_ ≠ gb576)) k_ ∧ some k_ ≠ (u577000 : Value).ownBlock) rfl rfl ?aP (fun _ hk => hk) ?aF ?aO ?aB ?aS ?aL ?_
      (case aP => exact k50_mkM _ _ _ (⟨t578⟩ : S50) (Kd.R_mono (HO580.out) (fun k_ hk => ⟨⟨hk.1.1.2, ⟨hk.1.2, hk.2⟩⟩, hk.1.1.1.2⟩)))
      (case aB => exact y78 HB.out GE574.out GE575.out GE576.out)
      (case aF => exact (fun k_ hk => ⟨Kd.freshB (g := gb574) (o := .cells #[.slice (some ad577) l0_0.length c0_0] 50 (0, 0)) (y0 BK574.out) k_ hk, Kd.freshB (g := gb575) (o := .cells #[.slice none 0 0] 50 (0, 0)) (y0 BK575.out) k_ hk, Kd.freshB (g := gb576) (o := .cells #[u577000] 50 (0, 0)) (y0 BK576.out) k_ hk⟩))
      (case aO => exact y91 HO_577000.out)
      (case aS => exact y73 HB.out GE574.out GE575.out GE576.out)
      (case aL => exact y57 LMc11.out)
      intro v582 w17 ho hb hg hat
      rw [← Ny581.out] at ho
      replace BK574 := Aside0.mk (blk_grown (g := gb574) (o := .cells #[.slice (some ad577) l0_0.length c0_0] 50 (0, 0)) (y0 BK574.out) hg (Kd.R_away HO_577000.out (fun _ hk => hk.1.1)))
      replace BK575 := Aside0.mk (blk_grown (g := gb575) (o := .cells #[.slice none 0 0] 50 (0, 0)) (y0 BK575.out) hg (Kd.R_away HO_577000.out (fun _ hk => hk.1.2.1)))
      replace BK576 := Aside0.mk (blk_grown (g := gb576) (o := .cells #[u577000] 50 (0, 0)) (y0 BK576.out) hg (Kd.R_away HO_577000.out (fun _ hk => hk.1.2.2)))
      replace HB := Aside0.mk (hb)
      have HO583 := Aside0.mk (ho)
      clear HO580 HO_577000
      clear ho hb hg hat
      obtain ⟨Ao19, co19, eo19⟩ := Kd.R_slice HO583.out
      (first | subst eo19 | (injection eo19 with f1_ f2_ f3_; have f4_ := f1_.symm; have f5_ := f3_.symm; clear f1_ f2_ f3_; subst f4_; subst f5_))
      refine hK.out _ _ ⟨(blk_cell BK576.out 0).trans rfl, (blk_cell BK574.out 0).trans rfl, ((HB.out.cell (World.block_lt_of_cell? w _ hw577_0)).trans hw577_0)⟩ (fun hHeld => ?_)
      clear hK K
      refine norm_ (a' := ?_) ?_ ?_
      rotate_left
      ·show Act.put _ (some 22) _ = _
       simp only [Act.put, List.setIfInBounds_toArray, List.set_cons_zero, List.set_cons_succ, i64_w, i32_w]
       rfl
      refine zp 10 (some 23) HT_ ?_
      refine last_ (i := 11) (N := none) #[true, true, true, true, true, true, true, true, true, true, true, true] rfl rfl (one_of HT_.out (by kernel_rfl)) (by decide) (fun K hK => ?_)
      have hs20 : w17.cell? ⟨gb576, 0, none⟩ = some (u577000) := (blk_cell BK576.out 0).trans rfl
      have hfs20 := zfr BK576 0
      have hns20_0 := NB574_576.out
      have hns20_1 := NB575_576.out
      have hms20_0 := NB576_574.out
      have hms20_1 := NB576_575.out
      refine skip_ (w1 := ?_) (by rfl) rfl ?_ ?_
      rotate_left
      ·go_simp
       rfl
      refine hK.out _ _ ?_
      clear hK K
      refine done_ (done_of HT_.out (by kernel_rfl)) ?_
      try go_wp2
      go_roundg k1
      case measure => have := HK1.out; omega
      case rel => exact ⟨(wrap64 (x4_1 + 1)), (y581), (.slice Ao19 y581.length co19), y34, H', ⟨(y57 HK1.out)⟩, ⟨(by (with_reducible repeat (first | apply Kd.R_alloc | apply Kd.R_drewN | apply Kd.R_drew)); exact Kd.R_mono (Kd.R_far (p := ⟨gb576, 0, none⟩) (Kd.R_mono HO583.out (fun k_ hk => (⟨hk, hk.2.2⟩ : _ ∧ k_ ≠ gb576))) (fun _ hk => hk.2) (.slice Ao19 y581.length co19)) (fun _ hk => ⟨hk.1.1, ⟨hk.1.2.1, hk.1.2.2⟩⟩))⟩, ⟨(y13 NB574_576.out BK574.out)⟩, ⟨(y13 NB575_576.out BK575.out)⟩, ⟨(by (with_reducible repeat (first | refine blk_drewN ?_ _ | refine blk_drew ?_ | refine blk_alloc ?_ _)); refine blk_put (cs := #[u577000]) ?_ 0 _ rfl; (with_reducible repeat (first | refine blk_drewN ?_ _ | refine blk_drew ?_ | refine blk_alloc ?_ _)); exact BK576.out)⟩, ⟨(y4 HB.out GE574.out GE575.out GE576.out)⟩⟩
     ·rw [if_neg c11] at H
      exact absurd H (by simp)
    ·rw [if_neg c9] at H
     exact absurd H (by simp)
   ·rw [if_neg c8] at H
    have c8b0 : decide (x4_1 < (l0_0.length : Int)) = false := decide_eq_false c8
    clear c8
    obtain rfl := Option.some.inj H
    have hnb21 := NB574_575.out
    have hnc21 := NB575_574.out
    have hnb22 := NB574_576.out
    have hnc22 := NB576_574.out
    have hcz23_0 := zh BK574
    have hfz23_0 := zfr BK574 0
    have hnb24 := NB576_575.out
    have hnc24 := NB575_576.out
    have hcz25_0 := zh BK576
    have hfz25_0 := zfr BK576 0
    obtain ⟨Ao26, co26, eo26⟩ := Kd.R_slice HO_577000.out
    subst eo26
    have hcz27_0 := zh BK575
    have hfz27_0 := zfr BK575 0
    go_wp2
    refine bodyPost_ret (results_cell_row rfl _ _ gb575 50 #[.slice Ao26 x577000_1.length co26] (0, 0) _ rfl (by (with_reducible repeat (first | refine blk_drewN ?_ _ | refine blk_drew ?_ | refine blk_alloc ?_ _)); apply blk_put (i := 0); (case h => exact y0 BK575.out); (case e => rfl)) Try.underlying50 rfl (by kernel_rfl)) rfl ?_
    exact ⟨_, y19, (by (with_reducible repeat (first | apply Kd.R_alloc | apply Kd.R_drewN | apply Kd.R_drew)); exact Kd.R_mono (Kd.R_far (p := ⟨gb575, 0, none⟩) (Kd.R_mono HO_577000.out (fun k_ hk => (⟨hk, hk.2.1⟩ : _ ∧ k_ ≠ gb575))) (fun _ hk => hk.2) (.slice Ao26 x577000_1.length co26)) (fun _ hk => trivial)), (y4 HB.out GE574.out GE575.out GE576.out)⟩
end Go.Proofs.Ythfflieeifakdaa.PA
end
