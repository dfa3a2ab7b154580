-- Ytjhbhihfifhljaa's texts for the statement FnValParts, one behind the other (merge.py).
import Derived.Test.YtjhbhihfifhljaaQFnValParts0
import Derived.Test.YtjhbhihfifhljaaQFnValParts2
import Derived.Test.YtjhbhihfifhljaaQFnValParts3
import Derived.Test.YtjhbhihfifhljaaQFnValParts1
import Derived.SizedLaws
import Derived.ChangeSlices
import Derived.Test.YtjhbhihfifhljaaRows
import Derived.WalkKit
import Derived.ProofKit
import Derived.OpenShut
import Derived.ShutString
import Derived.ChangeOld
import Derived.Below
section
namespace Go.Proofs.Ytjhbhihfifhljaa.PA
open Go.RowKit Go.Proofs.YtjhbhihfifhljaaW.PrintWords Go.Proofs.YtjhbhihfifhljaaW.PrintLast Go.Proofs.YtjhbhihfifhljaaW.PrintMore
attribute [local go_sem] max2_int min2_int max_two min_two max_three min_three max_four min_four
set_option linter.unusedVariables false
set_option linter.unusedSimpArgs false
def spec_TypeAt.l0 : Nat → List Int → Int → List (S30) → Option ((List (S30)) × Bool)
 | 0, _, _, _ => none
 | k + 1, x1, x6, x586000 => if x6 < (x1.length : Int) then (if 0 ≤ x6 then ((spec_l6In.f (rd x1 x6) 0 (wrap64 ((x586000.length : Int) - 1))).bind fun t589 => (if t589 = true then (if 0 ≤ (rd x1 x6) then (if (rd x1 x6) < (x586000.length : Int) then (spec_TypeAt.l0 k x1 (wrap64 (x6 + 1)) ((rd_T30 x586000 (rd x1 x6)).f0)) else (none)) else (none)) else (some (([] : List (S30)), false)))) else (none)) else ((spec_l1Copy.f k x586000).bind fun t592 => (some (t592, true)))
def spec_TypeAt.f (k : Nat) (l0_0 : List (S30)) (l1 : List Int) : Option ((List (S30)) × Bool) := (spec_TypeOk.f k l0_0).bind fun t587 => (if t587 = true then (spec_TypeAt.l0 k l1 0 l0_0) else (some (([] : List (S30)), false)))
theorem spec_TypeAt.mono_l : ∀ k, (∀ y0 y1 y2, LeO (spec_TypeAt.l0 k y0 y1 y2) (spec_TypeAt.l0 (k + 1) y0 y1 y2))
 | 0 => fun _ _ _ r h => by simp [spec_TypeAt.l0] at h
 | k + 1 => by
  have ih0 := spec_TypeAt.mono_l k
  ·intro y0 y1 y2
   unfold spec_TypeAt.l0
   repeat' first
   | (with_reducible exact ih0 _ _ _)
   | (with_reducible exact spec_TypeOk.mono _ _)
   | (with_reducible exact spec_l1Copy.mono _ _)
   | (with_reducible exact LeO.refl _)
   | (with_reducible exact LeO.none _)
   | (with_reducible refine LeO.ite ?_ ?_)
   | (with_reducible refine LeO.bind ?_ (fun _ => ?_))
   | exact ih0 _ _ _
   | exact spec_TypeOk.mono _ _
   | exact spec_l1Copy.mono _ _
   | exact LeO.none _
   | refine LeO.ite ?_ ?_
   | refine LeO.bind ?_ (fun _ => ?_)
theorem spec_TypeAt.mono : ∀ a0 a1 k, LeO (spec_TypeAt.f k a0 a1) (spec_TypeAt.f (k + 1) a0 a1) := by
 intro a0 a1 k
 have ih0 := spec_TypeAt.mono_l k
 unfold spec_TypeAt.f
 repeat' first
   | (with_reducible exact ih0 _ _ _)
   | (with_reducible exact spec_TypeOk.mono _ _)
   | (with_reducible exact spec_l1Copy.mono _ _)
   | (with_reducible exact LeO.refl _)
   | (with_reducible exact LeO.none _)
   | (with_reducible refine LeO.ite ?_ ?_)
   | (with_reducible refine LeO.bind ?_ (fun _ => ?_))
   | exact ih0 _ _ _
   | exact spec_TypeOk.mono _ _
   | exact spec_l1Copy.mono _ _
   | exact LeO.none _
   | refine LeO.ite ?_ ?_
   | refine LeO.bind ?_ (fun _ => ?_)
def spec_TypeAt.T6 : Bool × List (List Nat × List Nat) := (true, [([], []), ([], []), ([0, 1], [0, 1]), ([2], [2]), ([], []), ([4], [4]), ([5], [5]), ([6], [6]), ([3, 7], [3, 7]), ([8], [8])])
def spec_TypeAt.B6 : List Nat := [0, 0, 3, 7, 0, 16, 48, 112, 255, 511]
theorem spec_TypeAt.tab6 : rtab .any (opsOf Try.f33 6) = spec_TypeAt.T6 := by kernel_rfl
theorem spec_TypeAt.bits6 : waitsOk spec_TypeAt.T6.2 spec_TypeAt.B6 = true := by kernel_rfl
def spec_TypeAt.T8 : Bool × List (List Nat × List Nat) := (true, [([], []), ([0], [0]), ([], []), ([], []), ([2, 3], [2, 3]), ([4], [4]), ([1, 5], [1, 5]), ([6], [6]), ([7, 0, 1, 2, 3, 4, 5, 6, 7], [7])])
def spec_TypeAt.B8 : List Nat := [0, 1, 0, 0, 12, 28, 63, 127, 255]
theorem spec_TypeAt.tab8 : rtab .any (opsOf Try.f33 8) = spec_TypeAt.T8 := by kernel_rfl
theorem spec_TypeAt.bits8 : waitsOk spec_TypeAt.T8.2 spec_TypeAt.B8 = true := by kernel_rfl
set_option maxHeartbeats 8000000 in
set_option maxRecDepth 100000 in
theorem spec_TypeAt.calls (k : Nat) (P0_0_ : Nat → Prop) (A0_0 : Option Addr) (c0_0 : Nat) (l0_0 : List (S30)) (A1 : Option Addr) (c1 : Nat) (l1 : List Int) (r1 : List (S30)) (r2 : Bool) (w : World) (hs0_0 : Kd.V k30 30 w w.heap.size (fun k_ => P0_0_ k_) (.slice A0_0 l0_0.length c0_0) l0_0) (hr1 : Kd.C (Kd.int .i64) w A1 l1.length l1) (hc1 : l1.length ≤ c1) (h : spec_TypeAt.f k l0_0 l1 = some (r1, r2)) :
  Calls Try.prog 33 #[.agg #[.slice A0_0 l0_0.length c0_0], .slice A1 l1.length c1] w fun e w' => ∃ v0_ : Value, e = .returned (.tuple #[.agg #[v0_], .bool r2]) ∧ Kd.R k30 30 w' w.heap.size (fun k_ => (w.heap.size ≤ k_)) v0_ r1 ∧ Below w.heap.size w w' := by
 have hu30 := Try.underlying30
 have HO0_0 := Aside0.mk (show Kd.V k30 30 w w.heap.size (fun k_ => (P0_0_ k_ ∨ w.heap.size ≤ k_)) (.slice A0_0 l0_0.length c0_0) l0_0 from Kd.V_mono hs0_0 (fun k_ hk => .inl hk))
 have HR1 := Aside0.mk hr1
 have HC1 := Aside0.mk hc1
 clear hr1 hc1
 have HB := Aside0.mk (Below.refl w.heap.size w)
 have H : ((spec_TypeOk.f k l0_0).bind fun t587 => (if t587 = true then (spec_TypeAt.l0 k l1 0 l0_0) else (some (([] : List (S30)), false)))) = some (r1, r2) := h
 clear h
 obtain ⟨t587, A30, H⟩ := ob H
 have A3 := Aside0.mk A30
 clear A30
 by_cases c4 : t587 = true
 ·subst c4
  rw [if_pos rfl] at H
  have H' := Aside0.mk H
  clear H
  go_enter Try.func33, Try.ntmps33
  go_wp2_with (first | ((with_reducible refine gate_dst (N := 2) rfl ?_); refine zbx 2 #[.slice A0_0 l0_0.length c0_0] 30 ?_; intro gb585 hg w5 hbox hb; replace HO0_0 := Aside0.mk (Kd.V_below (Kd.V_elderB (y13 HO0_0.out) gb585 (Nat.le_of_eq hg.symm)) hb); have BK585 := Aside0.mk hbox; have GW585 := Aside0.mk ((y5 hg HB.out : w.heap.size ≤ gb585)); have GE585 := Aside0.mk ((y5 hg HB.out : w.heap.size ≤ gb585)); replace HB := Aside0.mk (below_step (y2 HB.out) hb); clear hb hbox hg) | ((with_reducible refine gate_dst (N := 4) rfl ?_); refine zbx 4 #[.slice none 0 0] 30 ?_; intro gb586 hg w6 hbox hb; replace HO0_0 := Aside0.mk (Kd.V_below (Kd.V_elderB (y13 HO0_0.out) gb586 (Nat.le_of_eq hg.symm)) hb); have BK586 := Aside0.mk hbox; have GW586 := Aside0.mk ((y6 hg HB.out GE585.out : w.heap.size ≤ gb586)); have GE586 := Aside0.mk ((y6 hg HB.out GE585.out : w.heap.size ≤ gb586)); replace HB := Aside0.mk (below_step (y3 HB.out GE585.out) hb); have NB585_586 := zltn hg BK585; have NB586_585 := zgtn hg BK585; replace BK585 := zbb BK585 hb; clear hb hbox hg; have hnb7 := NB585_586.out; have hnc7 := NB586_585.out; have hcz8_0 := zh BK585; have hfz8_0 := zfr BK585 0) | ((with_reducible refine gate_callee (f := 16) rfl ?_); refine goesL_ (some 8) rfl rfl Try.func16 (by kernel_rfl) rfl #[.agg #[.slice A0_0 l0_0.length c0_0]] rfl y4 ?_; (with_reducible refine (spec_TypeOk.calls k _ _ l0_0 true _ ?side1 ?side2 A3.out).mono ?_); (case side1 => exact y31 HO0_0.out); (case side2 => exact (Kd.V_reads' HO0_0.out).2.1); rintro e w9 ⟨rfl, hb⟩; refine ⟨_, rfl, ?_⟩; replace HO0_0 := Aside0.mk (Kd.V_below (y13 HO0_0.out) hb); replace BK585 := zbb BK585 hb; replace BK586 := zbb BK586 hb; replace HB := Aside0.mk (below_step (y1 HB.out GE585.out GE586.out) hb); (try clear hb); (try clear hb2); (try clear hk); (try clear hi)))
  go_loopg [6] k (fun kq v6 w' => ∃ (x6_1 : Int) (x586000_1 : List (S30)) (u586000 : Value), v6 = .int .i64 x6_1 ∧ Aside0 (spec_TypeAt.l0 kq l1 x6_1 x586000_1 = some (r1, r2)) ∧ Aside0 (kq ≤ k) ∧ Aside0 (Kd.V k30 30 w' w.heap.size (fun k_ => (P0_0_ k_ ∨ w.heap.size ≤ k_) ∧ k_ ≠ gb585 ∧ k_ ≠ gb586) u586000 x586000_1) ∧ Aside0 (w'.heap[gb585]? = some (.cells #[u586000] 30 (0, 0))) ∧ Aside0 (w'.heap[gb586]? = some (.cells #[(.slice none 0 0)] 30 (0, 0))) ∧ Aside0 (Below w.heap.size w w'))
  case atStart => exact ⟨(0), (l0_0), (.slice A0_0 l0_0.length c0_0), y26, H', ⟨Nat.le_refl _⟩, ⟨(y63 HO0_0.out)⟩, ⟨(y0 BK585.out)⟩, ⟨(y0 BK586.out)⟩, ⟨(y1 HB.out GE585.out GE586.out)⟩⟩
  case round =>
   clear H'
   try clear c1
   try clear p2
   try clear c3
   try clear c4
   try clear c7
   try clear hcz8_0
   try clear hfz8_0
   obtain ⟨x6_1, x586000_1, u586000, rfl, HA, HK1, HO_586000, BK585, BK586, HB⟩ := hrel
   cases gk with
   | zero => exact absurd HA.out (by simp [spec_TypeAt.l0])
   | succ k1 =>
    have H := HA.out
    clear HA
    simp only [spec_TypeAt.l0] at H
    by_cases c10 : x6_1 < (l1.length : Int)
    ·rw [if_pos c10] at H
     have c10b0 : decide (x6_1 < (l1.length : Int)) = true := decide_eq_true c10
     clear c10
     by_cases c11 : 0 ≤ x6_1
     ·rw [if_pos c11] at H
      have c11b0 : decide (0 ≤ x6_1) = true := decide_eq_true c11
      clear c11
      obtain ⟨t589, A120, H⟩ := ob H
      have A12 := Aside0.mk A120
      clear A120
      by_cases c13 : t589 = true
      ·subst c13
       rw [if_pos rfl] at H
       by_cases c14 : 0 ≤ (rd l1 x6_1)
       ·rw [if_pos c14] at H
        have c14b0 : decide (0 ≤ (rd l1 x6_1)) = true := decide_eq_true c14
        clear c14
        by_cases c15 : (rd l1 x6_1) < (x586000_1.length : Int)
        ·rw [if_pos c15] at H
         have c15b0 : decide ((rd l1 x6_1) < (x586000_1.length : Int)) = true := decide_eq_true c15
         clear c15
         have H' := Aside0.mk H
         clear H
         try go_wp2
         replace HO_586000 := Aside0.mk (Kd.V_drew HO_586000.out)
         replace BK585 := Aside0.mk (blk_drew BK585.out)
         replace BK586 := Aside0.mk (blk_drew BK586.out)
         replace HB := Aside0.mk (below_drew1 HB.out)
         have p588 : 0 ≤ (x6_1 : Int) := of_decide_eq_true y19
         have q588 : x6_1 < (l1.length : Int) := of_decide_eq_true y19
         obtain ⟨ad588, e588, hx588_0⟩ := Kd.at_int HR1.out x6_1 p588 q588
         have hw588_0 := hx588_0
         cases e588
         replace hx588_0 := (HB.out.cell (World.block_lt_of_cell? w _ hx588_0)).trans hx588_0
         replace p588 := eq_true p588
         replace q588 := eq_true q588
         obtain ⟨Ao17, co17, eo17⟩ := Kd.V_slice HO_586000.out
         (first | subst eo17 | (injection eo17 with f1_ f2_ f3_; have f4_ := f1_.symm; have f5_ := f3_.symm; clear f1_ f2_ f3_; subst f4_; subst f5_))
         refine start_ (n := 10) (S := fun w' => w'.cell? ⟨gb585, 0, none⟩ = some (.slice Ao17 x586000_1.length co17) ∧ w'.cell? (ad588.add (x6_1).toNat) = some (.int .i64 (rd l1 x6_1))) (ds := []) #[false, false, false, false, false, false, false, false, false, false] (by kernel_rfl) rfl rfl ⟨(blk_cell BK585.out 0).trans rfl, ((HB.out.cell (World.block_lt_of_cell? w _ hw588_0)).trans hw588_0)⟩ (fun hHeld => ?_); refine with_tabW spec_TypeAt.tab6 spec_TypeAt.bits6 (fun HT_ HW_ => ?_)
         generalize wr.drew = w16 at HO_586000 BK585 BK586 HB hx588_0 hHeld ⊢
         refine zp 0 (some 17) HT_ ?_
         refine zp 1 (some 18) HT_ ?_
         refine zp 2 (some 19) HT_ ?_
         refine zp 4 (some 21) HT_ ?_
         refine zt2 3 (some 20) HT_ HW_ hHeld ?_
         refine zt2 5 (some 22) HT_ HW_ hHeld ?_
         refine zp 6 (some 23) HT_ ?_
         refine zp 7 (some 24) HT_ ?_
         refine one_ (i := 8) (N := some 25) #[true, true, true, true, true, true, true, true, true, false] rfl rfl (one_of HT_.out (by kernel_rfl)) (by decide) (fun K hK => ?_)
         refine goes_ Try.func65 (by kernel_rfl) rfl #[.int .i64 (rd l1 x6_1), .int .i64 0, .int .i64 (wrap64 ((x586000_1.length : Int) - 1))] (by rfl) rfl rfl y4 ?_
         with_reducible refine (spec_l6In.calls (rd l1 x6_1) 0 (wrap64 ((x586000_1.length : Int) - 1)) true _ A12.out).mono ?_
         rintro e w' ⟨rfl, ⟨nd, rfl⟩⟩
         refine ⟨_, rfl, ?_⟩
         refine hK.out _ _ ⟨(blk_cell BK585.out 0).trans rfl, ((HB.out.cell (World.block_lt_of_cell? w _ hw588_0)).trans hw588_0)⟩ (fun hHeld => ?_)
         clear hK K
         refine norm_ (a' := ?_) ?_ ?_
         rotate_left
         ·show Act.put _ (some 25) _ = _
          simp only [Act.put, List.setIfInBounds_toArray, List.set_cons_zero, List.set_cons_succ, i64_w, i32_w]
          rfl
         refine zp 9 (some 26) HT_ ?_
         refine done_ (done_of HT_.out (by kernel_rfl)) ?_
         try go_wp2
         (try (rw [drewN_self w16]; generalize hq_ : World.drewN w16 _ = w16; have n0_ : Aside0 (Kd.V k30 30 w16 w.heap.size (fun k_ => (P0_0_ k_ ∨ w.heap.size ≤ k_) ∧ k_ ≠ gb585 ∧ k_ ≠ gb586) (.slice Ao17 x586000_1.length co17) x586000_1) := ⟨(by rw [← hq_]; exact (y13 HO_586000.out))⟩; have n1_ : Aside0 (w16.heap[gb585]? = some (.cells #[.slice Ao17 x586000_1.length co17] 30 (0, 0))) := ⟨(by rw [← hq_]; exact (y0 BK585.out))⟩; have n2_ : Aside0 (w16.heap[gb586]? = some (.cells #[.slice none 0 0] 30 (0, 0))) := ⟨(by rw [← hq_]; exact (y0 BK586.out))⟩; have n3_ : Aside0 (Below w.heap.size w w16) := ⟨(by rw [← hq_]; exact (y1 HB.out GE585.out GE586.out))⟩; clear HO_586000 BK585 BK586 HB hq_; have HO_586000 := n0_; have BK585 := n1_; have BK586 := n2_; have HB := n3_; clear n0_ n1_ n2_ n3_))
         replace HO_586000 := Aside0.mk (Kd.V_drew HO_586000.out)
         replace BK585 := Aside0.mk (blk_drew BK585.out)
         replace BK586 := Aside0.mk (blk_drew BK586.out)
         replace HB := Aside0.mk (below_drew1 HB.out)
         have p590 : 0 ≤ (x6_1 : Int) := of_decide_eq_true y19
         have q590 : x6_1 < (l1.length : Int) := of_decide_eq_true y19
         obtain ⟨ad590, e590, hx590_0⟩ := Kd.at_int HR1.out x6_1 p590 q590
         have hw590_0 := hx590_0
         obtain rfl : ad588 = ad590 := (by injection e590)
         replace hx590_0 := (HB.out.cell (World.block_lt_of_cell? w _ hx590_0)).trans hx590_0
         replace p590 := eq_true p590
         replace q590 := eq_true q590
         have p591 : 0 ≤ ((rd l1 x6_1) : Int) := of_decide_eq_true y19
         have q591 : (rd l1 x6_1) < (x586000_1.length : Int) := of_decide_eq_true y19
         obtain ⟨ad591, A591_0, c591_0, e591, hx591_0, hl591_0, hi591_0⟩ := at_T30 (Kd.V_reads' HO_586000.out).2.2 (rd l1 x6_1) p591 q591
         cases e591
         obtain ⟨ce591, hce591, hMe591, hcc591⟩ := Kd.V_get HO_586000.out z30 (rd l1 x6_1) p591 (by first | exact q591 | exact of_decide_eq_true y19 | (have e_ := (Kd.V_reads' HO_586000.out).1; omega))
         obtain ⟨ua591_0, uc591_0, rfl, ul591_0, ge591_0⟩ := k30_openF hMe591
         have hv591_0 := hcc591 0 _ rfl
         rw [Nat.add_zero, show (k30).sz = 1 from rfl, Nat.mul_one] at hv591_0
         replace hv591_0 := Option.some.inj (hv591_0.symm.trans hx591_0)
         injection hv591_0 with hva_ hvn_ hvc_
         rw [hva_] at ge591_0
         rw [hvc_] at ul591_0
         have HL591_0 := Aside0.mk (show Kd.V k30 30 _ w.heap.size _ _ ((rd_T30 x586000_1 (rd l1 x6_1)).f0) from Kd.V_mk ul591_0 ge591_0)
         clear hva_ hvn_ hvc_ ge591_0 ul591_0
         clear hcc591 hce591
         have HR591_0 := Aside0.mk hi591_0
         have HC591_0 := Aside0.mk hl591_0
         clear hi591_0 hl591_0
         replace p591 := eq_true p591
         replace q591 := eq_true q591
         refine start_ (n := 9) (S := fun w' => w'.cell? ⟨gb585, 0, none⟩ = some (.slice (some ad591) x586000_1.length co17) ∧ w'.cell? (ad588.add (x6_1).toNat) = some (.int .i64 (rd l1 x6_1)) ∧ w'.cell? (ad591.add ((rd l1 x6_1)).toNat) = some (.slice A591_0 ((rd_T30 x586000_1 (rd l1 x6_1)).f0).length c591_0)) (ds := [8]) #[false, false, false, false, false, false, false, false, false] (by kernel_rfl) rfl rfl ⟨(blk_cell BK585.out 0).trans rfl, ((HB.out.cell (World.block_lt_of_cell? w _ hw590_0)).trans hw590_0), hx591_0⟩ (fun hHeld => ?_); refine with_tabW spec_TypeAt.tab8 spec_TypeAt.bits8 (fun HT_ HW_ => ?_)
         generalize w16.drew = w18 at HO_586000 BK585 BK586 HB HL591_0 HR591_0 hx590_0 hx591_0 hHeld ⊢
         refine zp 0 (some 28) HT_ ?_
         refine zp 2 (some 30) HT_ ?_
         refine zp 3 (some 31) HT_ ?_
         refine zp 4 (some 32) HT_ ?_
         refine zt3 1 (some 29) HT_ HW_ hHeld ?_
         refine zt3 5 (some 33) HT_ HW_ hHeld ?_
         refine zp 6 (some 34) HT_ ?_
         refine zt3 7 (some 35) HT_ HW_ hHeld ?_
         refine last_ (i := 8) (N := none) #[true, true, true, true, true, true, true, true, true] rfl rfl (one_of HT_.out (by kernel_rfl)) (by decide) (fun K hK => ?_)
         have hs19 : w18.cell? ⟨gb585, 0, none⟩ = some (.slice (some ad591) x586000_1.length co17) := (blk_cell BK585.out 0).trans rfl
         have hfs19 := zfr BK585 0
         have hns19_1 := NB586_585.out
         have hms19_1 := NB585_586.out
         refine skip_ (w1 := ?_) (by rfl) rfl ?_ ?_
         rotate_left
         ·go_simp
          rfl
         refine hK.out _ _ ?_
         clear hK K
         refine done_ (done_of HT_.out (by kernel_rfl)) ?_
         try go_wp2
         go_roundg k1
         case measure => have := HK1.out; omega
         case rel => exact ⟨(wrap64 (x6_1 + 1)), ((rd_T30 x586000_1 (rd l1 x6_1)).f0), (.slice A591_0 ((rd_T30 x586000_1 (rd l1 x6_1)).f0).length c591_0), y26, H', ⟨(y46 HK1.out)⟩, ⟨(by (with_reducible repeat (first | apply Kd.V_alloc | apply Kd.V_drewN | apply Kd.V_drew)); exact Kd.V_mono (Kd.V_far (p := ⟨gb585, 0, none⟩) (Kd.V_mono HL591_0.out (fun k_ hk => (⟨hk, hk.2.1⟩ : _ ∧ k_ ≠ gb585))) (fun _ hk => hk.2) (.slice A591_0 ((rd_T30 x586000_1 (rd l1 x6_1)).f0).length c591_0)) (fun _ hk => ⟨hk.1.1, ⟨hk.1.2.1, hk.1.2.2⟩⟩))⟩, ⟨(by (with_reducible repeat (first | refine blk_drewN ?_ _ | refine blk_drew ?_ | refine blk_alloc ?_ _)); refine blk_put (cs := #[.slice (some ad591) x586000_1.length co17]) ?_ 0 _ rfl; (with_reducible repeat (first | refine blk_drewN ?_ _ | refine blk_drew ?_ | refine blk_alloc ?_ _)); exact BK585.out)⟩, ⟨(y21 NB586_585.out BK586.out)⟩, ⟨(y1 HB.out GE585.out GE586.out)⟩⟩
        ·rw [if_neg c15] at H
         exact absurd H (by simp)
       ·rw [if_neg c14] at H
        exact absurd H (by simp)
      ·replace c13 := Bool.eq_false_iff.mpr c13
       subst c13
       rw [if_neg (show ¬ (false = true) by decide)] at H
       simp only [Option.some.injEq, Prod.mk.injEq] at H
       obtain ⟨rfl, rfl⟩ := H
       try go_wp2
       replace HO_586000 := Aside0.mk (Kd.V_drew HO_586000.out)
       replace BK585 := Aside0.mk (blk_drew BK585.out)
       replace BK586 := Aside0.mk (blk_drew BK586.out)
       replace HB := Aside0.mk (below_drew1 HB.out)
       have p588 : 0 ≤ (x6_1 : Int) := of_decide_eq_true y19
       have q588 : x6_1 < (l1.length : Int) := of_decide_eq_true y19
       obtain ⟨ad588, e588, hx588_0⟩ := Kd.at_int HR1.out x6_1 p588 q588
       have hw588_0 := hx588_0
       cases e588
       replace hx588_0 := (HB.out.cell (World.block_lt_of_cell? w _ hx588_0)).trans hx588_0
       replace p588 := eq_true p588
       replace q588 := eq_true q588
       obtain ⟨Ao21, co21, eo21⟩ := Kd.V_slice HO_586000.out
       (first | subst eo21 | (injection eo21 with f1_ f2_ f3_; have f4_ := f1_.symm; have f5_ := f3_.symm; clear f1_ f2_ f3_; subst f4_; subst f5_))
       refine start_ (n := 10) (S := fun w' => w'.cell? ⟨gb585, 0, none⟩ = some (.slice Ao21 x586000_1.length co21) ∧ w'.cell? (ad588.add (x6_1).toNat) = some (.int .i64 (rd l1 x6_1))) (ds := []) #[false, false, false, false, false, false, false, false, false, false] (by kernel_rfl) rfl rfl ⟨(blk_cell BK585.out 0).trans rfl, ((HB.out.cell (World.block_lt_of_cell? w _ hw588_0)).trans hw588_0)⟩ (fun hHeld => ?_); refine with_tabW spec_TypeAt.tab6 spec_TypeAt.bits6 (fun HT_ HW_ => ?_)
       generalize wr.drew = w20 at HO_586000 BK585 BK586 HB hx588_0 hHeld ⊢
       refine zp 0 (some 17) HT_ ?_
       refine zp 1 (some 18) HT_ ?_
       refine zp 2 (some 19) HT_ ?_
       refine zp 4 (some 21) HT_ ?_
       refine zt2 3 (some 20) HT_ HW_ hHeld ?_
       refine zt2 5 (some 22) HT_ HW_ hHeld ?_
       refine zp 6 (some 23) HT_ ?_
       refine zp 7 (some 24) HT_ ?_
       refine one_ (i := 8) (N := some 25) #[true, true, true, true, true, true, true, true, true, false] rfl rfl (one_of HT_.out (by kernel_rfl)) (by decide) (fun K hK => ?_)
       refine goes_ Try.func65 (by kernel_rfl) rfl #[.int .i64 (rd l1 x6_1), .int .i64 0, .int .i64 (wrap64 ((x586000_1.length : Int) - 1))] (by rfl) rfl rfl y4 ?_
       with_reducible refine (spec_l6In.calls (rd l1 x6_1) 0 (wrap64 ((x586000_1.length : Int) - 1)) false _ A12.out).mono ?_
       rintro e w' ⟨rfl, ⟨nd, rfl⟩⟩
       refine ⟨_, rfl, ?_⟩
       refine hK.out _ _ ⟨(blk_cell BK585.out 0).trans rfl, ((HB.out.cell (World.block_lt_of_cell? w _ hw588_0)).trans hw588_0)⟩ (fun hHeld => ?_)
       clear hK K
       refine norm_ (a' := ?_) ?_ ?_
       rotate_left
       ·show Act.put _ (some 25) _ = _
        simp only [Act.put, List.setIfInBounds_toArray, List.set_cons_zero, List.set_cons_succ, i64_w, i32_w]
        rfl
       refine zp 9 (some 26) HT_ ?_
       refine done_ (done_of HT_.out (by kernel_rfl)) ?_
       have hnb22 := NB586_585.out
       have hnc22 := NB585_586.out
       have hcz23_0 := zh BK586
       have hfz23_0 := zfr BK586 0
       try go_wp2
       refine bodyPost_ret (results_ct rfl _ _ gb586 30 #[.slice none 0 0] (0, 0) _ rfl (by (with_reducible repeat (first | refine blk_drewN ?_ _ | refine blk_drew ?_ | refine blk_alloc ?_ _)); apply blk_put (i := 0); (case h => exact y0 BK586.out); (case e => rfl)) Try.underlying30 rfl (by kernel_rfl)) rfl ?_
       exact ⟨_, y14, y36, (y1 HB.out GE585.out GE586.out)⟩
     ·rw [if_neg c11] at H
      exact absurd H (by simp)
    ·rw [if_neg c10] at H
     have c10b0 : decide (x6_1 < (l1.length : Int)) = false := decide_eq_false c10
     clear c10
     obtain ⟨t592, A240, H⟩ := ob H
     have A24 := Aside0.mk A240
     clear A240
     simp only [Option.some.injEq, Prod.mk.injEq] at H
     obtain ⟨rfl, rfl⟩ := H
     have hnb25 := NB585_586.out
     have hnc25 := NB586_585.out
     have hcz26_0 := zh BK585
     have hfz26_0 := zfr BK585 0
     obtain ⟨Ao27, co27, eo27⟩ := Kd.V_slice HO_586000.out
     subst eo27
     go_wp2_with (first | ((with_reducible refine gate_callee (f := 66) rfl ?_); refine goesL_ (some 37) rfl rfl Try.func66 (by kernel_rfl) rfl #[.agg #[.slice Ao27 x586000_1.length co27]] rfl y4 ?_; (with_reducible refine (spec_l1Copy.calls k1 _ _ x586000_1 t592 _ ?side1 ?side2 A24.out).mono ?_); (case side1 => exact y31 HO_586000.out); (case side2 => exact (Kd.V_reads' HO_586000.out).2.1); rintro e w28 ⟨v593, rfl, ho0, hb⟩; refine ⟨_, rfl, ?_⟩; replace HO_586000 := Aside0.mk (Kd.V_elder' (y13 HO_586000.out) (Kd.R_base ho0) hb); have HO594 := Aside0.mk (Kd.R_lower (Kd.R_newB (Kd.R_newB (Kd.R_newM (M := fun k_ => (w.heap.size ≤ k_)) ho0 (below_size (y1 HB.out GE585.out GE586.out)) (fun k_ h_ => h_)) (g := gb585) (o := .cells #[.slice Ao27 x586000_1.length co27] 30 (0, 0)) (y0 BK585.out)) (g := gb586) (o := .cells #[.slice none 0 0] 30 (0, 0)) (y0 BK586.out)) (below_size (y1 HB.out GE585.out GE586.out))); replace BK585 := zbb BK585 hb; replace BK586 := zbb BK586 hb; replace HB := Aside0.mk (below_step (y1 HB.out GE585.out GE586.out) hb); (try clear hb); (try clear hb2); (try clear hk); (try clear hi); (try clear ho0); obtain ⟨Ao29, co29, eo29⟩ := Kd.R_slice HO594.out; subst eo29; have hcz30_0 := zh BK586; have hfz30_0 := zfr BK586 0))
     refine bodyPost_ret (results_ct rfl _ _ gb586 30 #[.slice Ao29 t592.length co29] (0, 0) _ rfl (by (with_reducible repeat (first | refine blk_drewN ?_ _ | refine blk_drew ?_ | refine blk_alloc ?_ _)); apply blk_put (i := 0); (case h => exact y0 BK586.out); (case e => rfl)) Try.underlying30 rfl (by kernel_rfl)) rfl ?_
     exact ⟨_, y14, (by (with_reducible repeat (first | apply Kd.R_alloc | apply Kd.R_drewN | apply Kd.R_drew)); exact Kd.R_mono (Kd.R_far (p := ⟨gb586, 0, none⟩) (Kd.R_mono HO594.out (fun k_ hk => (⟨hk, hk.2⟩ : _ ∧ k_ ≠ gb586))) (fun _ hk => hk.2) (.slice Ao29 t592.length co29)) (fun _ hk => hk.1.1.1.1)), (y1 HB.out GE585.out GE586.out)⟩
 ·replace c4 := Bool.eq_false_iff.mpr c4
  subst c4
  rw [if_neg (show ¬ (false = true) by decide)] at H
  simp only [Option.some.injEq, Prod.mk.injEq] at H
  obtain ⟨rfl, rfl⟩ := H
  go_enter Try.func33, Try.ntmps33
  go_wp2_with (first | ((with_reducible refine gate_dst (N := 2) rfl ?_); refine zbx 2 #[.slice A0_0 l0_0.length c0_0] 30 ?_; intro gb585 hg w31 hbox hb; replace HO0_0 := Aside0.mk (Kd.V_below (Kd.V_elderB (y13 HO0_0.out) gb585 (Nat.le_of_eq hg.symm)) hb); have BK585 := Aside0.mk hbox; have GW585 := Aside0.mk ((y5 hg HB.out : w.heap.size ≤ gb585)); have GE585 := Aside0.mk ((y5 hg HB.out : w.heap.size ≤ gb585)); replace HB := Aside0.mk (below_step (y2 HB.out) hb); clear hb hbox hg) | ((with_reducible refine gate_dst (N := 4) rfl ?_); refine zbx 4 #[.slice none 0 0] 30 ?_; intro gb586 hg w32 hbox hb; replace HO0_0 := Aside0.mk (Kd.V_below (Kd.V_elderB (y13 HO0_0.out) gb586 (Nat.le_of_eq hg.symm)) hb); have BK586 := Aside0.mk hbox; have GW586 := Aside0.mk ((y6 hg HB.out GE585.out : w.heap.size ≤ gb586)); have GE586 := Aside0.mk ((y6 hg HB.out GE585.out : w.heap.size ≤ gb586)); replace HB := Aside0.mk (below_step (y3 HB.out GE585.out) hb); have NB585_586 := zltn hg BK585; have NB586_585 := zgtn hg BK585; replace BK585 := zbb BK585 hb; clear hb hbox hg; have hnb33 := NB585_586.out; have hnc33 := NB586_585.out; have hcz34_0 := zh BK585; have hfz34_0 := zfr BK585 0) | ((with_reducible refine gate_callee (f := 16) rfl ?_); refine goesL_ (some 8) rfl rfl Try.func16 (by kernel_rfl) rfl #[.agg #[.slice A0_0 l0_0.length c0_0]] rfl y4 ?_; (with_reducible refine (spec_TypeOk.calls k _ _ l0_0 false _ ?side1 ?side2 A3.out).mono ?_); (case side1 => exact y31 HO0_0.out); (case side2 => exact (Kd.V_reads' HO0_0.out).2.1); rintro e w35 ⟨rfl, hb⟩; refine ⟨_, rfl, ?_⟩; replace HO0_0 := Aside0.mk (Kd.V_below (y13 HO0_0.out) hb); replace BK585 := zbb BK585 hb; replace BK586 := zbb BK586 hb; replace HB := Aside0.mk (below_step (y1 HB.out GE585.out GE586.out) hb); (try clear hb); (try clear hb2); (try clear hk); (try clear hi); have hcz36_0 := zh BK586; have hfz36_0 := zfr BK586 0))
  refine bodyPost_ret (results_ct rfl _ _ gb586 30 #[.slice none 0 0] (0, 0) _ rfl (by (with_reducible repeat (first | refine blk_drewN ?_ _ | refine blk_drew ?_ | refine blk_alloc ?_ _)); apply blk_put (i := 0); (case h => exact y0 BK586.out); (case e => rfl)) Try.underlying30 rfl (by kernel_rfl)) rfl ?_
  exact ⟨_, y14, y36, (y1 HB.out GE585.out GE586.out)⟩
end Go.Proofs.Ytjhbhihfifhljaa.PA
end
section
namespace Go.Proofs.Ytjhbhihfifhljaa.Paths
open Go.RowKit Go.Proofs.Ytjhbhihfifhljaa.PA Go.Proofs.YtjhbhihfifhljaaW.PrintWords Go.Proofs.YtjhbhihfifhljaaW.PrintLast Go.Proofs.Ytjhbhihfifhljaa.Draw Go.Proofs.Ytjhbhihfifhljaa.Types
def pf : List Int → Ty → Option Ty
  | [], t => some t
  | i :: r, [a, b] => if i = 0 then pf r a.f0 else if i = 1 then pf r b.f0 else none
  | _ :: _, _ => none
theorem pf_nil (t : Ty) : pf [] t = some t := by cases t <;> rfl
theorem pf_two (i : Int) (r : List Int) (a b : S30) : pf (i :: r) [a, b] = if i = 0 then pf r a.f0 else if i = 1 then pf r b.f0 else none := rfl
theorem pf_odd (i : Int) (r : List Int) (t : Ty) (h : t.length ≠ 2) : pf (i :: r) t = none := by
  match t with
  | [] => rfl
  | [_] => rfl
  | [_, _] => simp at h
  | _ :: _ :: _ :: _ => rfl
theorem pf_app (p q : List Int) : ∀ t, pf (p ++ q) t = (pf p t).bind (pf q) := by
  induction p with
  | nil => intro t; rw [List.nil_append, pf_nil]; rfl
  | cons i r ih =>
    intro t
    by_cases h : t.length = 2
    · obtain ⟨a, b, rfl⟩ := two_of h
      rw [List.cons_append, pf_two, pf_two]
      split
      · exact ih _
      · split
        · exact ih _
        · rfl
    · rw [List.cons_append, pf_odd _ _ _ h, pf_odd _ _ _ h]; rfl
theorem dp_succ : ∀ (n : Nat) (t : Ty), dp n t = true → dp (n + 1) t = true := by
  intro n
  induction n with
  | zero => intro t h; simp [dp] at h
  | succ n ih =>
    intro t h
    rcases Types.shape t with rfl | ⟨a, b, rfl⟩ | ⟨h0, h2⟩
    · rfl
    · rw [dp_two, Bool.and_eq_true] at h ⊢
      exact ⟨ih _ h.1, ih _ h.2⟩
    · rw [dp_odd _ _ h0 h2] at h; cases h
theorem dp_pf (n : Nat) : ∀ (p : List Int) (t u : Ty), dp n t = true → pf p t = some u → dp n u = true := by
  intro p
  induction p with
  | nil => intro t u h e; rw [pf_nil] at e; cases e; exact h
  | cons i r ih =>
    intro t u h e
    by_cases h2 : t.length = 2
    · obtain ⟨a, b, rfl⟩ := two_of h2
      cases n with
      | zero => simp [dp] at h
      | succ n =>
        rw [dp_two, Bool.and_eq_true] at h
        rw [pf_two] at e
        split at e
        · exact ih _ _ (dp_succ _ _ h.1) e
        · split at e
          · exact ih _ _ (dp_succ _ _ h.2) e
          · cases e
    · rw [pf_odd _ _ _ h2] at e; cases e
theorem rd_mid (pre r : List Int) (i : Int) : rd (pre ++ i :: r) (pre.length : Int) = i := by
  unfold rd
  rw [Int.toNat_natCast, List.getD_eq_getElem?_getD, List.getElem?_append_right (Nat.le_refl _)]
  simp
def at_ (o : Option Ty) : Ty × Bool := match o with | some u => (u, true) | none => ([], false)
theorem partLoop_ev : ∀ (r pre : List Int) (t : Ty) (k : Nat), pre.length + r.length ≤ 4611686018427387904 → r.length + 1 ≤ k →
    impl_Type.l0 k (pre ++ r) ((pre ++ r).length : Int) (pre.length : Int) t = some (at_ (pf r t)) := by
  intro r
  induction r with
  | nil =>
    intro pre t k h1 hk
    obtain ⟨k, rfl⟩ : ∃ m, k = m + 1 := ⟨k - 1, by simp at hk; omega⟩
    simp only [impl_Type.l0]
    rw [if_neg (by simp), pf_nil]; rfl
  | cons i r ih =>
    intro pre t k h1 hk
    simp only [List.length_cons] at h1 hk
    obtain ⟨k, rfl⟩ : ∃ m, k = m + 1 := ⟨k - 1, by omega⟩
    simp only [impl_Type.l0, impl_Type_parts.f, Option.bind_some]
    have hl : ((pre ++ i :: r).length : Int) = pre.length + 1 + r.length := by simp; omega
    rw [if_pos (by omega), if_pos (by omega), if_pos (by omega), rd_mid]
    by_cases h2 : t.length = 2
    · obtain ⟨a, b, rfl⟩ := two_of h2
      rw [if_pos (by simp), pf_two]
      by_cases hn : i < 0
      · rw [if_pos hn, if_neg (by omega), if_neg (by omega)]; rfl
      · rw [if_neg hn]
        by_cases hb : i > 1
        · rw [if_pos hb, if_neg (by omega), if_neg (by omega)]; rfl
        · rw [if_neg hb, if_pos (by omega), if_pos (by simp; omega), w64 (by omega) (by omega)]
          have ea : pre ++ i :: r = (pre ++ [i]) ++ r := by simp
          have el : (pre.length : Int) + 1 = ((pre ++ [i]).length : Int) := by simp
          rw [el, ea]
          by_cases h0 : i = 0
          · rw [if_pos h0, ih _ _ _ (by simp; omega) (by omega), h0, rd0]
          · rw [if_neg h0, if_pos (by omega), ih _ _ _ (by simp; omega) (by omega), show i = 1 by omega, rd1]
    · rw [if_neg (by omega), pf_odd _ _ _ h2]; rfl
theorem implPart_ev (t : Ty) (p : List Int) (k : Nat) (h : p.length ≤ 4611686018427387904) (hk : p.length + 1 ≤ k) : impl_Type.f k t p = some (at_ (pf p t)) := by
  unfold impl_Type.f
  have := partLoop_ev p [] t k (by simpa using h) hk
  simpa using this
theorem typeCopy_ev : ∀ (n : Nat) (t : Ty) (k : Nat), dp n t = true → n ≤ k → impl_typeCopy.f k t = some t := by
  intro n
  induction n with
  | zero => intro t k h; simp [dp] at h
  | succ n ih =>
    intro t k h hk
    obtain ⟨k, rfl⟩ : ∃ m, k = m + 1 := ⟨k - 1, by omega⟩
    simp only [impl_typeCopy.f]
    rcases Types.shape t with rfl | ⟨a, b, rfl⟩ | ⟨h0, h2⟩
    · rw [if_pos (by simp)]
    · rw [dp_two, Bool.and_eq_true] at h
      rw [if_neg (by simp), if_pos (by simp), if_pos (by simp)]
      simp only [impl_typePair.F, rd0, rd1]
      rw [ih _ _ h.1 (by omega)]; simp only [Option.bind_some]
      rw [ih _ _ h.2 (by omega)]; simp only [Option.bind_some]
      cases a; cases b; rfl
    · rw [dp_odd _ _ h0 h2] at h; cases h
theorem specCopy_ev : ∀ (n : Nat) (t : Ty) (k : Nat), dp n t = true → 4 * n ≤ k → spec_l1Copy.f k t = some t := by
  intro n
  induction n with
  | zero => intro t k h; simp [dp] at h
  | succ n ih =>
    intro t k h hk
    obtain ⟨k, rfl⟩ : ∃ m, k = m + 4 := ⟨k - 4, by omega⟩
    simp only [spec_l1Copy.f]
    rcases Types.shape t with rfl | ⟨a, b, rfl⟩ | ⟨h0, h2⟩
    · simp only [spec_l1Copy.l0]; rw [if_neg (by simp)]
    · rw [dp_two, Bool.and_eq_true] at h
      simp only [spec_l1Copy.l0, w01, w12]
      rw [if_pos (by simp), if_pos (by omega), rd0, ih _ _ h.1 (by omega)]; simp only [Option.bind_some]
      rw [if_pos (by simp), if_pos (by simp), if_pos (by omega), rd1, ih _ _ h.2 (by omega)]; simp only [Option.bind_some]
      rw [if_pos (by simp), if_neg (by simp)]
      cases a; cases b; rfl
    · rw [dp_odd _ _ h0 h2] at h; cases h
def tat (t : Ty) (p : List Int) : Ty × Bool := if dp 4 t = true then at_ (pf p t) else ([], false)
theorem implTypeAt_ev (t : Ty) (p : List Int) (k : Nat) (h : p.length ≤ 4611686018427387904) (hk : p.length + 5 ≤ k) : impl_TypeAt.f k t p = some (tat t p) := by
  unfold impl_TypeAt.f tat
  rw [implOk_ev t k (by omega)]; simp only [Option.bind_some]
  by_cases d : dp 4 t = true
  · rw [if_pos d, if_pos d, implPart_ev t p k h (by omega)]; simp only [Option.bind_some]
    cases e : pf p t with
    | none => rfl
    | some u =>
      simp only [at_, if_true]
      rw [typeCopy_ev 4 u k (dp_pf 4 _ _ _ d e) (by omega)]; rfl
  · rw [if_neg d, if_neg d]
theorem specLoop_ev (n : Nat) : ∀ (r pre : List Int) (t : Ty) (k : Nat), dp n t = true → pre.length + r.length ≤ 4611686018427387904 → r.length + 4 * n + 1 ≤ k →
    spec_TypeAt.l0 k (pre ++ r) (pre.length : Int) t = some (at_ (pf r t)) := by
  intro r
  induction r with
  | nil =>
    intro pre t k d h1 hk
    obtain ⟨k, rfl⟩ : ∃ m, k = m + 1 := ⟨k - 1, by omega⟩
    simp only [List.length_nil] at hk
    simp only [spec_TypeAt.l0]
    rw [if_neg (by simp), specCopy_ev n t k d (by omega), pf_nil]; rfl
  | cons i r ih =>
    intro pre t k d h1 hk
    simp only [List.length_cons] at h1 hk
    obtain ⟨k, rfl⟩ : ∃ m, k = m + 1 := ⟨k - 1, by omega⟩
    simp only [spec_TypeAt.l0, spec_l6In.f]
    have hl : ((pre ++ i :: r).length : Int) = pre.length + 1 + r.length := by simp; omega
    rw [if_pos (by omega), if_pos (by omega), rd_mid]
    rcases Types.shape t with rfl | ⟨a, b, rfl⟩ | ⟨h0, h2⟩
    · rw [pf_odd _ _ _ (by simp), show wrap64 ((([] : Ty).length : Int) - 1) = -1 from w64 (by simp) (by simp)]
      by_cases hn : i ≥ 0
      · rw [if_pos hn]; simp only [Option.bind_some]; rw [if_neg (by simp; omega)]; rfl
      · rw [if_neg hn]; rfl
    · rw [pf_two, show wrap64 ((([a, b] : Ty).length : Int) - 1) = 1 from w64 (by simp) (by simp)]
      cases n with
      | zero => simp [dp] at d
      | succ n =>
        rw [dp_two, Bool.and_eq_true] at d
        by_cases hn : i ≥ 0
        · rw [if_pos hn]; simp only [Option.bind_some]
          by_cases hb : i ≤ 1
          · rw [if_pos (by simpa using hb), if_pos (by omega), if_pos (by simp; omega), w64 (by omega) (by omega)]
            have ea : pre ++ i :: r = (pre ++ [i]) ++ r := by simp
            have el : (pre.length : Int) + 1 = ((pre ++ [i]).length : Int) := by simp
            rw [el, ea]
            by_cases h0 : i = 0
            · rw [if_pos h0, h0, rd0, ih _ _ _ (dp_succ _ _ d.1) (by simp; omega) (by omega)]
            · rw [if_neg h0, if_pos (by omega), show i = 1 by omega, rd1, ih _ _ _ (dp_succ _ _ d.2) (by simp; omega) (by omega)]
          · rw [if_neg (by simpa using hb), if_neg (by omega), if_neg (by omega)]; rfl
        · rw [if_neg hn, if_neg (show ¬ i = 0 by omega), if_neg (show ¬ i = 1 by omega)]; rfl
    · rw [dp_odd _ _ h0 h2] at d; cases d
theorem specTypeAt_ev (t : Ty) (p : List Int) (k : Nat) (h : p.length ≤ 4611686018427387904) (hk : p.length + 30 ≤ k) : spec_TypeAt.f k t p = some (tat t p) := by
  unfold spec_TypeAt.f tat
  rw [specOk_ev t k (by omega)]; simp only [Option.bind_some]
  by_cases d : dp 4 t = true
  · rw [if_pos d, if_pos d]
    have := specLoop_ev 4 p [] t k d (by simpa using h) (by omega)
    simpa using this
  · rw [if_neg d, if_neg d]
theorem tat_ok (t : Ty) (p : List Int) : dp 4 (tat t p).1 = true := by
  unfold tat
  split
  · rename_i d
    cases e : pf p t with
    | none => rfl
    | some u => exact dp_pf 4 _ _ _ d e
  · rfl
theorem rdT_dph (d : Nat) (t : Ty) (h : Dph (d + 1) t) (i : Int) : Dph d (rd_T30 t i).f0 := by
  unfold rd_T30
  rw [List.getD_eq_getElem?_getD]
  cases e : t[i.toNat]? with
  | none => exact dph_nil d
  | some x => exact h x (List.mem_of_getElem? e)
theorem pathLoop_ev (s : List Int) (hs : Bytes s) : ∀ (d : Nat) (t : Ty), d ≤ 1000 → Dph d t → ∀ (p : Int) (pre : List Int), 0 ≤ p → p + 2 * d + 3 ≤ 1099511627776 → pre.length + d ≤ 1000 →
    ∃ r u q, (∀ k, d + 3 ≤ k → spec_l71Path.l0 k pre s p t = some (r, u, q)) ∧ p ≤ q ∧ q ≤ p + 2 * d + 1 ∧ r.length ≤ pre.length + d := by
  intro d
  induction d with
  | zero =>
    intro t _ h p pre hp hp1 hl
    rw [show t = [] from h]
    refine ⟨pre, [], p, fun k hk => ?_, by omega, by omega, by omega⟩
    obtain ⟨k, rfl⟩ : ∃ m, k = m + 1 := ⟨k - 1, by omega⟩
    simp only [spec_l71Path.l0]
    rw [if_neg (by simp)]
  | succ d ih =>
    intro t hd h p pre hp hp1 hl
    by_cases h0 : (t.length : Int) > 0
    · obtain ⟨c, hc, c0, c1⟩ := pick_ev s hs p 3 hp (by omega) (by omega)
      by_cases hcp : c > 0
      · obtain ⟨i, hi, i0, i1⟩ := pick_ev s hs (p + 1) (t.length : Int) (by omega) (by omega) (by omega)
        obtain ⟨r, u, q, hr, hq, hq2, hrl⟩ := ih (rd_T30 t i).f0 (by omega) (rdT_dph _ _ h i) (p + 1 + 1) (pre ++ [i]) (by omega) (by omega) (by simp; omega)
        refine ⟨r, u, q, fun k hk => ?_, by omega, by omega, by simp at hrl; omega⟩
        obtain ⟨k, rfl⟩ : ∃ m, k = m + 1 := ⟨k - 1, by omega⟩
        simp only [spec_l71Path.l0]
        rw [if_pos h0, hc k (by omega)]; simp only [Option.bind_some]
        rw [if_pos hcp, hi k (by omega)]; simp only [Option.bind_some]
        rw [if_pos (by omega), if_pos i0, if_pos i1]
        exact hr k (by omega)
      · refine ⟨pre, t, p + 1, fun k hk => ?_, by omega, by omega, by omega⟩
        obtain ⟨k, rfl⟩ : ∃ m, k = m + 1 := ⟨k - 1, by omega⟩
        simp only [spec_l71Path.l0]
        rw [if_pos h0, hc k (by omega)]; simp only [Option.bind_some]
        rw [if_neg hcp]
    · refine ⟨pre, t, p, fun k hk => ?_, by omega, by omega, by omega⟩
      obtain ⟨k, rfl⟩ : ∃ m, k = m + 1 := ⟨k - 1, by omega⟩
      simp only [spec_l71Path.l0]
      rw [if_neg h0]
theorem any_ev (s : List Int) (hs : Bytes s) (d : Nat) (t : Ty) (hd : d ≤ 900) (h : Dph d t) (p : Int) (hp : 0 ≤ p) (hp1 : p ≤ 1099511620000) :
    ∃ r q, (∀ k, d + 4 ≤ k → spec_l71Any.f k s p t = some (r, q)) ∧ p ≤ q ∧ q ≤ p + 2 * d + 3 ∧ r.length ≤ d + 1 := by
  obtain ⟨r, u, q, hr, hq, hq2, hl⟩ := pathLoop_ev s hs d t (by omega) h p [] hp (by omega) (by simp; omega)
  simp only [List.length_nil] at hl
  obtain ⟨c, hc, c0, c1⟩ := pick_ev s hs q 6 (by omega) (by omega) (by omega)
  have hf : ∀ k, d + 4 ≤ k → spec_l71Path.f k s p t = some (r, u, q) := fun k hk => hr k (by omega)
  by_cases e : c = 0
  · obtain ⟨c', hc', _, _⟩ := pick_ev s hs (q + 1) 4 (by omega) (by omega) (by omega)
    refine ⟨r ++ [wrap64 (c' - 1)], q + 1 + 1, fun k hk => ?_, by omega, by omega, by simp; omega⟩
    unfold spec_l71Any.f
    rw [hf k hk]; simp only [Option.bind_some]
    rw [hc k (by omega)]; simp only [Option.bind_some]
    rw [if_pos e, hc' k (by omega)]; simp only [Option.bind_some]
    rw [if_pos (by omega)]
  · refine ⟨r, q + 1, fun k hk => ?_, by omega, by omega, by omega⟩
    unfold spec_l71Any.f
    rw [hf k hk]; simp only [Option.bind_some]
    rw [hc k (by omega)]; simp only [Option.bind_some]
    rw [if_neg e]
theorem drawOk_ev (l : List Int) (h : ∀ x ∈ l, (Lit.int .u8 x).wf = true) : ∃ r, (∀ k, 20 ≤ k → spec_DrawTypeOk.f k l = some r) ∧ Dph 10 r := by
  obtain ⟨s, ho, hs⟩ := open_ev l h
  obtain ⟨r, q, hr, _, _, hd⟩ := l71Deep_ev s hs 0 (by omega) (by omega)
  refine ⟨r, fun k hk => ?_, hd⟩
  unfold spec_DrawTypeOk.f
  rw [ho]; simp only [Option.bind_some]
  rw [hr k hk]; rfl
theorem drawTypeAt_ev (l : List Int) (h : ∀ x ∈ l, (Lit.int .u8 x).wf = true) : ∃ r p, (∀ k, 20 ≤ k → spec_DrawTypeAt.f k l = some (r, p)) ∧ Dph 10 r ∧ p.length ≤ 11 := by
  obtain ⟨s, ho, hs⟩ := open_ev l h
  obtain ⟨r, q, hr, hq, hq2, hd⟩ := l71Deep_ev s hs 0 (by omega) (by omega)
  obtain ⟨p, q2, hp, _, _, hl⟩ := any_ev s hs 10 r (by omega) hd q (by omega) (by omega)
  refine ⟨r, p, fun k hk => ?_, hd, by omega⟩
  unfold spec_DrawTypeAt.f
  rw [ho]; simp only [Option.bind_some]
  rw [hr k hk]; simp only [Option.bind_some]
  rw [hp k (by omega)]; rfl
end Go.Proofs.Ytjhbhihfifhljaa.Paths
end
section
set_option linter.unusedVariables false
namespace Go.Proofs.Ytjhbhihfifhljaa.Vals
open Go.RowKit Go.Proofs.Ytjhbhihfifhljaa.PA Go.Proofs.YtjhbhihfifhljaaW.PrintWords Go.Proofs.YtjhbhihfifhljaaW.PrintLast Go.Proofs.Ytjhbhihfifhljaa.Draw Go.Proofs.Ytjhbhihfifhljaa.Types Go.Proofs.Ytjhbhihfifhljaa.Paths
abbrev Vl := List S55
theorem rv0 (a : S55) (l : Vl) : rd_T55 (a :: l) 0 = a := rfl
theorem rv1 (a b : S55) (l : Vl) : rd_T55 (a :: b :: l) 1 = b := rfl
theorem shapeV (l : Vl) : l = [] ∨ (∃ a b, l = [a, b]) ∨ (l.length ≠ 0 ∧ l.length ≠ 2) := by
  match l with
  | [] => exact .inl rfl
  | [_] => exact .inr (.inr ⟨by simp, by simp⟩)
  | [a, b] => exact .inr (.inl ⟨a, b, rfl⟩)
  | _ :: _ :: _ :: _ => exact .inr (.inr ⟨by simp, by simp⟩)
def vt : Nat → Int → Vl → Option Ty
  | 0, _, _ => none
  | _ + 1, x, [] => if 0 ≤ x ∧ x ≤ 9999 then some [] else none
  | n + 1, x, [a, b] => if x = 0 then (vt n a.f0 a.f1).bind fun s => (vt n b.f0 b.f1).bind fun t => some [⟨s⟩, ⟨t⟩] else none
  | _ + 1, _, _ => none
theorem vt_nil (n : Nat) (x : Int) : vt (n + 1) x [] = if 0 ≤ x ∧ x ≤ 9999 then some [] else none := rfl
theorem vt_two (n : Nat) (x : Int) (a b : S55) : vt (n + 1) x [a, b] = if x = 0 then (vt n a.f0 a.f1).bind fun s => (vt n b.f0 b.f1).bind fun t => some [⟨s⟩, ⟨t⟩] else none := rfl
theorem vt_odd (n : Nat) (x : Int) (l : Vl) (h0 : l.length ≠ 0) (h2 : l.length ≠ 2) : vt n x l = none := by
  cases n with
  | zero => rfl
  | succ n =>
    match l with
    | [] => simp at h0
    | [_] => rfl
    | [_, _] => simp at h2
    | _ :: _ :: _ :: _ => rfl
theorem vt_cases {n : Nat} {x : Int} {l : Vl} {t : Ty} (h : vt (n + 1) x l = some t) :
    (l = [] ∧ t = [] ∧ 0 ≤ x ∧ x ≤ 9999) ∨ ∃ a b s u, l = [a, b] ∧ x = 0 ∧ t = [⟨s⟩, ⟨u⟩] ∧ vt n a.f0 a.f1 = some s ∧ vt n b.f0 b.f1 = some u := by
  rcases shapeV l with rfl | ⟨a, b, rfl⟩ | ⟨h0, h2⟩
  · rw [vt_nil] at h
    split at h
    · rename_i hx
      cases h
      exact .inl ⟨rfl, rfl, hx.1, hx.2⟩
    · cases h
  · rw [vt_two] at h
    split at h
    · rename_i hx
      cases e1 : vt n a.f0 a.f1 with
      | none => rw [e1] at h; cases h
      | some s =>
        cases e2 : vt n b.f0 b.f1 with
        | none => rw [e1, e2] at h; cases h
        | some u =>
          rw [e1, e2] at h
          cases h
          exact .inr ⟨a, b, s, u, rfl, hx, rfl, e1, e2⟩
    · cases h
  · rw [vt_odd _ _ _ h0 h2] at h; cases h
theorem vt_dp : ∀ (n : Nat) (x : Int) (l : Vl) (t : Ty), vt n x l = some t → dp n t = true := by
  intro n
  induction n with
  | zero => intro x l t h; cases h
  | succ n ih =>
    intro x l t h
    rcases vt_cases h with ⟨_, rfl, _, _⟩ | ⟨a, b, s, u, _, _, rfl, h1, h2⟩
    · rfl
    · rw [dp_two, ih _ _ _ h1, ih _ _ _ h2]; rfl
theorem vt_succ : ∀ (n : Nat) (x : Int) (l : Vl) (t : Ty), vt n x l = some t → vt (n + 1) x l = some t := by
  intro n
  induction n with
  | zero => intro x l t h; cases h
  | succ n ih =>
    intro x l t h
    rcases vt_cases h with ⟨rfl, rfl, h0, h1⟩ | ⟨a, b, s, u, rfl, rfl, rfl, h1, h2⟩
    · rw [vt_nil, if_pos ⟨h0, h1⟩]
    · rw [vt_two, if_pos rfl, ih _ _ _ h1, ih _ _ _ h2]; rfl
theorem valType_ev : ∀ (n : Nat), n ≤ 1000 → ∀ (x : Int) (l : Vl) (k : Nat), 2 * n + 2 ≤ k → impl_valType.f k x l n = some (at_ (vt n x l)) := by
  intro n
  induction n with
  | zero =>
    intro _ x l k hk
    obtain ⟨k, rfl⟩ : ∃ m, k = m + 1 := ⟨k - 1, by omega⟩
    simp only [impl_valType.f]
    rw [if_pos (by omega)]; rfl
  | succ n ih =>
    intro hn x l k hk
    obtain ⟨k, rfl⟩ : ∃ m, k = m + 2 := ⟨k - 2, by omega⟩
    have hp := pred_cast n (by omega)
    simp only [impl_valType.f]
    rw [if_neg (by omega)]
    rcases shapeV l with rfl | ⟨a, b, rfl⟩ | ⟨h0, h2⟩
    · rw [if_pos (by simp), vt_nil]
      by_cases h0 : x ≥ 0
      · rw [if_pos h0]
        by_cases h9 : x ≤ 9999
        · rw [if_pos ⟨h0, h9⟩, decide_eq_true h9]; rfl
        · rw [if_neg (fun h => h9 h.2), decide_eq_false h9]; rfl
      · rw [if_neg h0, if_neg (fun h => h0 h.1)]; rfl
    · rw [if_neg (by simp), if_pos (by simp), vt_two]
      simp only [impl_valType.j0, hp, rv0, rv1]
      by_cases hx : x = 0
      · rw [if_neg (by simp [hx]), if_pos (by simp), if_pos hx, ih (by omega) _ _ _ (by omega)]; simp only [Option.bind_some]
        rw [if_pos (by simp), ih (by omega) _ _ _ (by omega)]; simp only [Option.bind_some]
        cases vt n a.f0 a.f1 with
        | none => rfl
        | some s =>
          cases vt n b.f0 b.f1 with
          | none => rfl
          | some u => rfl
      · rw [if_pos (by simpa using hx), if_neg hx]; rfl
    · rw [if_neg (by omega), if_neg (by omega), vt_odd _ _ _ h0 h2]
      simp only [impl_valType.j0, if_true]; rfl
theorem typed_ev (x : Int) (l : Vl) (k : Nat) (hk : 10 ≤ k) : impl_valTyped.f k x l = some (at_ (vt 4 x l)) := by
  unfold impl_valTyped.f
  rw [show (4 : Int) = ((4 : Nat) : Int) from rfl, valType_ev 4 (by omega) x l k (by omega)]; rfl
theorem same_ev : ∀ (n : Nat) (a b : Ty) (k : Nat), dp n a = true → dp n b = true → 4 * n ≤ k → impl_typeSame.f k a b = some (teq n a b) := by
  intro n
  induction n with
  | zero => intro a b k h; simp [dp] at h
  | succ n ih =>
    intro a b k ha hb hk
    obtain ⟨k, rfl⟩ : ∃ m, k = m + 4 := ⟨k - 4, by omega⟩
    simp only [impl_typeSame.f]
    rcases Types.shape a with rfl | ⟨a1, a2, rfl⟩ | ⟨h0, h2⟩
    · rcases Types.shape b with rfl | ⟨b1, b2, rfl⟩ | ⟨h0, h2⟩
      · rw [if_pos rfl]; simp only [impl_typeSame.l0]; rw [if_neg (by simp)]; rfl
      · rw [if_neg (by simp)]; rfl
      · rw [dp_odd _ _ h0 h2] at hb; cases hb
    · rcases Types.shape b with rfl | ⟨b1, b2, rfl⟩ | ⟨h0, h2⟩
      · rw [if_neg (by simp)]; rfl
      · rw [dp_two, Bool.and_eq_true] at ha hb
        rw [if_pos (by simp)]
        simp only [impl_typeSame.l0, w01, w12]
        rw [if_pos (by simp), if_pos (by omega), if_pos (by simp), if_pos (by simp), rd0, rd0, ih _ _ _ ha.1 hb.1 (by omega)]
        simp only [Option.bind_some]
        have e : teq (n + 1) [a1, a2] [b1, b2] = (teq n a1.f0 b1.f0 && teq n a2.f0 b2.f0) := rfl
        rw [e]
        cases h1 : teq n a1.f0 b1.f0 with
        | false => simp
        | true =>
          rw [if_pos rfl, if_pos (by simp), if_pos (by omega), if_pos (by simp), if_pos (by simp), rd1, rd1, ih _ _ _ ha.2 hb.2 (by omega)]
          simp only [Option.bind_some]
          cases h2 : teq n a2.f0 b2.f0 with
          | false => simp
          | true => rw [if_pos rfl, if_neg (by simp)]; rfl
      · rw [dp_odd _ _ h0 h2] at hb; cases hb
    · rw [dp_odd _ _ h0 h2] at ha; cases ha
def vm (n : Nat) (t : Ty) (x : Int) (l : Vl) : Bool := match vt n x l with | some s => teq n s t | none => false
def vo (t : Ty) (x : Int) (l : Vl) : Bool := dp 4 t && vm 4 t x l
theorem implValOk_ev (t : Ty) (x : Int) (l : Vl) (k : Nat) (hk : 20 ≤ k) : impl_ValOk.f k t x l = some (vo t x l) := by
  unfold impl_ValOk.f vo vm
  rw [implOk_ev t k (by omega)]; simp only [Option.bind_some]
  cases d : dp 4 t with
  | false => rfl
  | true =>
    simp only [if_true, Bool.true_and]
    rw [typed_ev x l k (by omega)]; simp only [Option.bind_some]
    cases e : vt 4 x l with
    | none => rfl
    | some s =>
      simp only [at_, if_true]
      rw [same_ev 4 s t k (vt_dp _ _ _ _ e) d (by omega)]; rfl
theorem vm_two (n : Nat) (x : Int) (a b : S30) (c d : S55) : vm (n + 1) [a, b] x [c, d] = ((x == 0) && (vm n a.f0 c.f0 c.f1 && vm n b.f0 d.f0 d.f1)) := by
  unfold vm
  rw [vt_two]
  by_cases hx : x = 0
  · rw [if_pos hx, beq_iff_eq.2 hx]
    cases vt n c.f0 c.f1 with
    | none => rfl
    | some s =>
      cases vt n d.f0 d.f1 with
      | none => simp
      | some u => rfl
  · rw [if_neg hx, beq_eq_false_iff_ne.2 hx]; rfl
theorem l1Val_ev : ∀ (n : Nat) (t : Ty) (x : Int) (l : Vl) (k : Nat), dp n t = true → 5 * n ≤ k → spec_l1Val.f k t x l = some (vm n t x l) := by
  intro n
  induction n with
  | zero => intro t x l k h; simp [dp] at h
  | succ n ih =>
    intro t x l k h hk
    obtain ⟨k, rfl⟩ : ∃ m, k = m + 5 := ⟨k - 5, by omega⟩
    simp only [spec_l1Val.f, spec_l6In.f]
    have bad : ∀ m t x l, spec_l1Val.j0 (m + 1) true t x l = some false := fun m t x l => by simp only [spec_l1Val.j0, if_true]
    rcases Types.shape t with rfl | ⟨a, b, rfl⟩ | ⟨h0, h2⟩
    · rcases shapeV l with rfl | ⟨c, d, rfl⟩ | ⟨g0, g2⟩
      · rw [if_pos (by simp), if_neg (by simp)]
        simp only [vm, vt_nil]
        by_cases hx : x ≥ 0
        · rw [if_pos hx]; simp only [Option.bind_some]
          by_cases h9 : x ≤ 9999
          · rw [decide_eq_true h9, if_pos ⟨hx, h9⟩]
            simp only [spec_l1Val.j0, spec_l1Val.l0, Bool.not_true]
            rw [if_neg (by simp), if_neg (by simp)]; rfl
          · rw [decide_eq_false h9, if_neg (fun h => h9 h.2)]
            exact bad _ _ _ _
        · rw [if_neg hx, if_neg (fun h => hx h.1)]; simp only [Option.bind_some]
          exact bad _ _ _ _
      · rw [if_neg (by simp), bad]
        simp only [vm]
        cases e : vt (n + 1) x [c, d] with
        | none => rfl
        | some s =>
          rcases vt_cases e with ⟨h, _⟩ | ⟨_, _, s, u, _, _, rfl, _, _⟩
          · cases h
          · rfl
      · rw [if_neg (by simp; simpa using g0), bad]
        simp only [vm, vt_odd _ _ _ g0 g2]
    · rcases shapeV l with rfl | ⟨c, d, rfl⟩ | ⟨g0, g2⟩
      · rw [if_neg (by simp), bad]
        simp only [vm, vt_nil]
        split
        · rename_i h; split at h
          · cases h; rfl
          · cases h
        · rfl
      · rw [if_pos (by simp), if_pos (by simp), vm_two]
        by_cases hx : x = 0
        · rw [if_pos hx, if_pos (by omega)]; simp only [Option.bind_some]
          rw [decide_eq_true (by omega)]
          rw [dp_two, Bool.and_eq_true] at h
          simp only [spec_l1Val.j0, spec_l1Val.l0, Bool.not_true, w01, w12]
          rw [if_neg (by simp), if_pos (by simp), if_pos (by omega), if_pos (by simp), rd0, rv0, ih _ _ _ _ h.1 (by omega)]; simp only [Option.bind_some]
          rw [beq_iff_eq.2 hx, Bool.true_and]
          cases e1 : vm n a.f0 c.f0 c.f1 with
          | false => rw [if_neg (by simp)]; rfl
          | true =>
            rw [if_pos rfl, if_pos (by simp), if_pos (by omega), if_pos (by simp), rd1, rv1, ih _ _ _ _ h.2 (by omega)]; simp only [Option.bind_some]
            cases e2 : vm n b.f0 d.f0 d.f1 with
            | false => rw [if_neg (by simp)]; rfl
            | true => rw [if_pos rfl, if_neg (by simp)]; rfl
        · rw [if_neg hx, bad, beq_eq_false_iff_ne.2 hx]; rfl
      · rw [if_neg (by simp; omega), bad]
        simp only [vm, vt_odd _ _ _ g0 g2]
    · rw [dp_odd _ _ h0 h2] at h; cases h
theorem specValOk_ev (t : Ty) (x : Int) (l : Vl) (k : Nat) (hk : 23 ≤ k) : spec_ValOk.f k t x l = some (vo t x l) := by
  unfold spec_ValOk.f vo
  rw [specOk_ev t k (by omega)]; simp only [Option.bind_some]
  cases d : dp 4 t with
  | false => rfl
  | true =>
    simp only [if_true, Bool.true_and]
    rw [l1Val_ev 4 t x l k d (by omega)]; rfl
theorem teq_self (t u : Ty) (n : Nat) (ht : dp n t = true) (hu : dp n u = true) : teq n t u = teq n u t := by
  cases e : teq n t u with
  | true => rw [teq_eq _ _ _ e, teq_refl _ _ hu]
  | false =>
    cases e2 : teq n u t with
    | true => rw [teq_eq _ _ _ e2, teq_refl _ _ ht] at e; cases e
    | false => rfl
theorem vo_iff (t : Ty) (x : Int) (l : Vl) : vo t x l = true ↔ vt 4 x l = some t := by
  unfold vo vm
  constructor
  · intro h
    rw [Bool.and_eq_true] at h
    cases e : vt 4 x l with
    | none => rw [e] at h; cases h.2
    | some s => rw [e] at h; rw [teq_eq _ _ _ h.2]
  · intro h
    have d := vt_dp _ _ _ _ h
    rw [h, d]
    exact teq_refl 4 t d
def pv : List Int → Int → Vl → Option (Int × Vl)
  | [], x, l => some (x, l)
  | i :: r, _, [a, b] => if i = 0 then pv r a.f0 a.f1 else if i = 1 then pv r b.f0 b.f1 else none
  | _ :: _, _, _ => none
theorem pv_nil (x : Int) (l : Vl) : pv [] x l = some (x, l) := by cases l <;> rfl
theorem pv_two (i : Int) (r : List Int) (x : Int) (a b : S55) : pv (i :: r) x [a, b] = if i = 0 then pv r a.f0 a.f1 else if i = 1 then pv r b.f0 b.f1 else none := rfl
theorem pv_odd (i : Int) (r : List Int) (x : Int) (l : Vl) (h : l.length ≠ 2) : pv (i :: r) x l = none := by
  match l with
  | [] => rfl
  | [_] => rfl
  | [_, _] => simp at h
  | _ :: _ :: _ :: _ => rfl
theorem pv_app (p q : List Int) : ∀ x l, pv (p ++ q) x l = (pv p x l).bind fun r => pv q r.1 r.2 := by
  induction p with
  | nil => intro x l; rw [List.nil_append, pv_nil]; rfl
  | cons i r ih =>
    intro x l
    by_cases h : l.length = 2
    · rcases shapeV l with rfl | ⟨a, b, rfl⟩ | ⟨_, h2⟩
      · simp at h
      · rw [List.cons_append, pv_two, pv_two]
        split
        · exact ih _ _
        · split
          · exact ih _ _
          · rfl
      · exact absurd h h2
    · rw [List.cons_append, pv_odd _ _ _ _ h, pv_odd _ _ _ _ h]; rfl
theorem vt_pv (n : Nat) : ∀ (p : List Int) (x : Int) (l : Vl) (t : Ty), vt n x l = some t →
    (∀ y m, pv p x l = some (y, m) → ∃ u, pf p t = some u ∧ vt n y m = some u) ∧ (pv p x l = none → pf p t = none) := by
  intro p
  induction p with
  | nil =>
    intro x l t h
    rw [pv_nil]
    exact ⟨fun y m e => by cases e; exact ⟨t, pf_nil t, h⟩, fun e => by cases e⟩
  | cons i r ih =>
    intro x l t h
    cases n with
    | zero => cases h
    | succ n =>
      rcases vt_cases h with ⟨rfl, rfl, _, _⟩ | ⟨a, b, s, u, rfl, rfl, rfl, h1, h2⟩
      · exact ⟨fun y m e => (by cases e), fun _ => rfl⟩
      · rw [pv_two, pf_two]
        by_cases h0 : i = 0
        · rw [if_pos h0, if_pos h0]; exact ih _ _ _ (vt_succ _ _ _ _ h1)
        · rw [if_neg h0, if_neg h0]
          by_cases h3 : i = 1
          · rw [if_pos h3, if_pos h3]; exact ih _ _ _ (vt_succ _ _ _ _ h2)
          · rw [if_neg h3, if_neg h3]; exact ⟨fun y m e => (by cases e), fun _ => rfl⟩
def av (o : Option (Int × Vl)) : Int × Vl × Bool := match o with | some r => (r.1, r.2, true) | none => (0, [], false)
theorem valLoop_ev : ∀ (r pre : List Int) (x : Int) (l : Vl) (k : Nat), pre.length + r.length ≤ 4611686018427387904 → r.length + 1 ≤ k →
    impl_Val.l0 k (pre ++ r) ((pre ++ r).length : Int) (pre.length : Int) x l = some (av (pv r x l)) := by
  intro r
  induction r with
  | nil =>
    intro pre x l k h1 hk
    obtain ⟨k, rfl⟩ : ∃ m, k = m + 1 := ⟨k - 1, by simp at hk; omega⟩
    simp only [impl_Val.l0]
    rw [if_neg (by simp), pv_nil]; rfl
  | cons i r ih =>
    intro pre x l k h1 hk
    simp only [List.length_cons] at h1 hk
    obtain ⟨k, rfl⟩ : ∃ m, k = m + 1 := ⟨k - 1, by omega⟩
    simp only [impl_Val.l0, impl_Val_parts.f, Option.bind_some]
    have hl : ((pre ++ i :: r).length : Int) = pre.length + 1 + r.length := by simp; omega
    rw [if_pos (by omega), if_pos (by omega), if_pos (by omega), rd_mid]
    rcases shapeV l with rfl | ⟨a, b, rfl⟩ | ⟨_, h2⟩
    · rw [if_neg (by simp), pv_odd _ _ _ _ (by simp)]; rfl
    · rw [if_pos (by simp), pv_two]
      by_cases hn : i < 0
      · rw [if_pos hn, if_neg (by omega), if_neg (by omega)]; rfl
      · rw [if_neg hn]
        by_cases hb : i > 1
        · rw [if_pos hb, if_neg (by omega), if_neg (by omega)]; rfl
        · rw [if_neg hb, if_pos (by omega), if_pos (by simp; omega), w64 (by omega) (by omega)]
          have ea : pre ++ i :: r = (pre ++ [i]) ++ r := by simp
          have el : (pre.length : Int) + 1 = ((pre ++ [i]).length : Int) := by simp
          rw [el, ea]
          by_cases h0 : i = 0
          · rw [if_pos h0, ih _ _ _ _ (by simp; omega) (by omega), h0, rv0]
          · rw [if_neg h0, if_pos (by omega), ih _ _ _ _ (by simp; omega) (by omega), show i = 1 by omega, rv1]
    · rw [if_neg (by omega), pv_odd _ _ _ _ h2]; rfl
theorem implVal_ev (x : Int) (l : Vl) (p : List Int) (k : Nat) (h : p.length ≤ 4611686018427387904) (hk : p.length + 1 ≤ k) : impl_Val.f k x l p = some (av (pv p x l)) := by
  unfold impl_Val.f
  have := valLoop_ev p [] x l k (by simpa using h) hk
  simpa using this
theorem valCopy_ev : ∀ (n : Nat) (x : Int) (l : Vl) (t : Ty) (k : Nat), vt n x l = some t → n ≤ k → impl_valCopy.f k x l = some (x, l) := by
  intro n
  induction n with
  | zero => intro x l t k h; cases h
  | succ n ih =>
    intro x l t k h hk
    obtain ⟨k, rfl⟩ : ∃ m, k = m + 1 := ⟨k - 1, by omega⟩
    simp only [impl_valCopy.f]
    rcases vt_cases h with ⟨rfl, rfl, _, _⟩ | ⟨a, b, s, u, rfl, rfl, rfl, h1, h2⟩
    · rw [if_pos (by simp)]
    · rw [if_neg (by simp), if_pos (by simp), rv0, ih _ _ _ _ h1 (by omega)]; simp only [Option.bind_some]
      rw [if_pos (by simp), rv1, ih _ _ _ _ h2 (by omega)]; simp only [Option.bind_some]
      cases a; cases b; rfl
def vat (x : Int) (l : Vl) (p : List Int) : Int × Vl × Bool := if (vt 4 x l).isSome = true then av (pv p x l) else (0, [], false)
theorem implValAt_ev (x : Int) (l : Vl) (p : List Int) (k : Nat) (h : p.length ≤ 4611686018427387904) (hk : p.length + 20 ≤ k) : impl_ValAt.f k x l p = some (vat x l p) := by
  unfold impl_ValAt.f vat
  rw [typed_ev x l k (by omega)]; simp only [Option.bind_some]
  cases e : vt 4 x l with
  | none => rfl
  | some t =>
    simp only [at_, if_true, Option.isSome_some]
    rw [implVal_ev x l p k h (by omega)]; simp only [Option.bind_some]
    cases e2 : pv p x l with
    | none => rfl
    | some r =>
      obtain ⟨u, _, hu⟩ := (vt_pv 4 p x l t e).1 r.1 r.2 e2
      simp only [av, if_true]
      rw [valCopy_ev 4 r.1 r.2 u k hu (by omega)]; rfl
theorem type_dp (s : List Int) : ∀ (k d : Nat) (p : Int) (r : Ty) (q : Int), d ≤ 1000 → spec_l71Type.f k s p d = some (r, q) → dp (d + 1) r = true := by
  intro k
  induction k using Nat.strongRecOn with
  | _ k ih =>
    intro d p r q hd h
    match k, ih, h with
    | 0, _, h => simp [spec_l71Type.f] at h
    | 1, _, h =>
      simp only [spec_l71Type.f] at h
      split at h
      · simp [spec_l71Type.j0] at h
      · cases e : spec_l6Rd_pick.f 0 s p 3 with
        | none => rw [e] at h; cases h
        | some c => rw [e] at h; simp [spec_l71Type.j0] at h
    | k + 2, ih, h =>
      simp only [spec_l71Type.f] at h
      split at h
      · simp only [spec_l71Type.j0, if_true] at h
        cases h; rfl
      · rename_i h2
        cases e : spec_l6Rd_pick.f (k + 1) s p 3 with
        | none => rw [e] at h; cases h
        | some c =>
          rw [e] at h
          simp only [Option.bind_some, spec_l71Type.j0] at h
          split at h
          · cases h; rfl
          · obtain ⟨d, rfl⟩ : ∃ m, d = m + 1 := ⟨d - 1, by omega⟩
            have ew : wrap64 (((d + 1 : Nat) : Int) - 1) = (d : Int) := pred_cast d (by omega)
            rw [ew] at h
            cases e1 : spec_l71Type.f k s c.2 d with
            | none => rw [e1] at h; cases h
            | some a =>
              rw [e1] at h
              simp only [Option.bind_some] at h
              cases e2 : spec_l71Type.f k s a.2 d with
              | none => rw [e2] at h; cases h
              | some b =>
                rw [e2] at h
                cases h
                rw [dp_two, ih k (by omega) d _ a.1 a.2 (by omega) e1, ih k (by omega) d _ b.1 b.2 (by omega) e2]; rfl
theorem val_ev (s : List Int) (hs : Bytes s) : ∀ (n : Nat) (t : Ty) (p : Int), dp n t = true → 0 ≤ p → p + 2 ^ n ≤ 1099511000000 →
    ∃ x l q, (∀ k, n + 3 ≤ k → spec_l71Val.f k s p t = some (x, l, q)) ∧ p ≤ q ∧ q ≤ p + 2 ^ n ∧ l.length ≤ 2 := by
  intro n
  induction n with
  | zero => intro t p h; simp [dp] at h
  | succ n ih =>
    intro t p h hp hp1
    have hpow : (2 : Int) ^ (n + 1) = 2 ^ n + 2 ^ n := by rw [Int.pow_succ]; omega
    have hpos : (1 : Int) ≤ 2 ^ n := by have := Int.pow_pos (n := 2) (m := n) (by decide); omega
    rw [hpow] at hp1 ⊢
    generalize (2 : Int) ^ n = e at *
    rcases Types.shape t with rfl | ⟨a, b, rfl⟩ | ⟨h0, h2⟩
    · obtain ⟨c, hc, c0, c1⟩ := pick_ev s hs p 7 hp (by omega) (by omega)
      refine ⟨rd [0, 1, 2, 3, 7, 50, 9999] c, [], p + 1, fun k hk => ?_, by omega, by omega, by simp⟩
      obtain ⟨k, rfl⟩ : ∃ m, k = m + 1 := ⟨k - 1, by omega⟩
      simp only [spec_l71Val.f]
      rw [if_pos (by simp)]; simp only [Option.bind_some]
      rw [hc k (by omega)]; simp only [Option.bind_some]
      rw [if_pos c0, if_pos (by simp; omega)]
    · rw [dp_two, Bool.and_eq_true] at h
      obtain ⟨x1, l1, q1, h1, g1, g2, _⟩ := ih a.f0 p h.1 hp (by omega)
      obtain ⟨x2, l2, q2, h3, g3, g4, _⟩ := ih b.f0 q1 h.2 (by omega) (by omega)
      refine ⟨0, [⟨x1, l1⟩, ⟨x2, l2⟩], q2, fun k hk => ?_, by omega, by omega, by simp⟩
      obtain ⟨k, rfl⟩ : ∃ m, k = m + 1 := ⟨k - 1, by omega⟩
      simp only [spec_l71Val.f]
      rw [if_neg (by simp), if_pos (by simp), rd0, h1 k (by omega)]; simp only [Option.bind_some]
      rw [if_pos (by simp), rd1, h3 k (by omega)]; rfl
    · rw [dp_odd _ _ h0 h2] at h; cases h
theorem badLoop_ev (s : List Int) (p : Int) : ∀ (d i : Nat), i + d = 5 → ∀ (x : Int) (l : Vl), ∃ y m, ∀ k, d + 1 ≤ k → spec_l71Bad.l0 k i s p x l = some (y, m, p) := by
  intro d
  induction d with
  | zero =>
    intro i hi x l
    refine ⟨x, l, fun k hk => ?_⟩
    obtain ⟨k, rfl⟩ : ∃ m, k = m + 1 := ⟨k - 1, by omega⟩
    simp only [spec_l71Bad.l0]
    rw [if_neg (by omega)]
  | succ d ih =>
    intro i hi x l
    obtain ⟨y, m, h⟩ := ih (i + 1) (by omega) 0 [⟨x, l⟩, ⟨0, []⟩]
    refine ⟨y, m, fun k hk => ?_⟩
    obtain ⟨k, rfl⟩ : ∃ m, k = m + 1 := ⟨k - 1, by omega⟩
    simp only [spec_l71Bad.l0]
    rw [if_pos (by omega), w64 (by omega) (by omega)]
    exact h k (by omega)
theorem pow20 (n : Nat) (hn : n ≤ 20) : (2 : Int) ^ n ≤ 1048576 := by
  have h : (2 : Nat) ^ n ≤ 2 ^ 20 := Nat.pow_le_pow_right (by decide) hn
  have e : (2 : Nat) ^ 20 = 1048576 := rfl
  rw [e] at h
  have := Int.ofNat_le.2 h
  rwa [Int.natCast_pow] at this
theorem bad_ev (s : List Int) (hs : Bytes s) (n : Nat) (hn : n ≤ 20) (t : Ty) (d : dp n t = true) (p : Int) (hp : 0 ≤ p) (hp1 : p ≤ 1099500000000) :
    ∃ x l q, (∀ k, n + 12 ≤ k → spec_l71Bad.f k s p t = some (x, l, q)) ∧ p ≤ q ∧ q ≤ p + 1048578 := by
  have hmax := pow20 n hn
  obtain ⟨x, l, q, hv, g1, g2, hl⟩ := val_ev s hs n t p d hp (by omega)
  generalize (2 : Int) ^ n = e at *
  obtain ⟨c, hc, c0, c1⟩ := pick_ev s hs q 12 (by omega) (by omega) (by omega)
  by_cases e0 : c = 0
  · obtain ⟨c', hc', c0', c1'⟩ := pick_ev s hs (q + 1) 4 (by omega) (by omega) (by omega)
    refine ⟨rd [(-1), 1, 9999, 10000] c', l, q + 1 + 1, fun k hk => ?_, by omega, by omega⟩
    unfold spec_l71Bad.f
    rw [hv k (by omega)]; simp only [Option.bind_some]
    rw [hc k (by omega)]; simp only [Option.bind_some]
    rw [if_pos e0, hc' k (by omega)]; simp only [Option.bind_some]
    rw [if_pos c0', if_pos (by simp; omega)]
  · by_cases e1 : c = 1
    · refine ⟨x, l ++ [⟨0, []⟩], q + 1, fun k hk => ?_, by omega, by omega⟩
      unfold spec_l71Bad.f
      rw [hv k (by omega)]; simp only [Option.bind_some]
      rw [hc k (by omega)]; simp only [Option.bind_some]
      rw [if_neg e0, if_pos e1, if_pos (by omega)]
    · by_cases e2 : c = 2
      · obtain ⟨y, m, hm⟩ := badLoop_ev s (q + 1) 5 0 rfl x l
        refine ⟨y, m, q + 1, fun k hk => ?_, by omega, by omega⟩
        unfold spec_l71Bad.f
        rw [hv k (by omega)]; simp only [Option.bind_some]
        rw [hc k (by omega)]; simp only [Option.bind_some]
        rw [if_neg e0, if_neg e1, if_pos e2]
        exact hm k (by omega)
      · refine ⟨x, l, q + 1, fun k hk => ?_, by omega, by omega⟩
        unfold spec_l71Bad.f
        rw [hv k (by omega)]; simp only [Option.bind_some]
        rw [hc k (by omega)]; simp only [Option.bind_some]
        rw [if_neg e0, if_neg e1, if_neg e2]
theorem typeN_ev (s : List Int) (hs : Bytes s) (d : Nat) (hd : d ≤ 20) (p : Int) (hp : 0 ≤ p) (hp1 : p ≤ 1099500000000) :
    ∃ r q, (∀ k, 3 * d + 4 ≤ k → spec_l71Type.f k s p d = some (r, q)) ∧ p ≤ q ∧ q ≤ p + 1048576 ∧ dp (d + 1) r = true := by
  have hmax := pow20 d hd
  obtain ⟨r, q, hr, _, h1, h2, _⟩ := type_ev s hs d (by omega) p hp (by omega)
  exact ⟨r, q, hr, h1, by omega, type_dp s _ d p r q (by omega) (hr (3 * d + 4) (Nat.le_refl _))⟩
theorem drawVal_ev (l : List Int) (h : ∀ x ∈ l, (Lit.int .u8 x).wf = true) : ∃ t x v, ∀ k, 60 ≤ k → spec_DrawValOk.f k l = some (t, x, v) := by
  obtain ⟨s, ho, hs⟩ := open_ev l h
  obtain ⟨c, hc, c0, c1⟩ := pick_ev s hs 0 4 (by omega) (by omega) (by omega)
  obtain ⟨cn, rfl⟩ := Int.eq_ofNat_of_zero_le c0
  have ew : wrap64 (1 + (cn : Int)) = ((1 + cn : Nat) : Int) := by rw [w64 (by omega) (by omega)]; omega
  obtain ⟨t, q1, ht, g1, g2, d1⟩ := typeN_ev s hs (1 + cn) (by omega) (0 + 1) (by omega) (by omega)
  obtain ⟨c', hc', c0', c1'⟩ := pick_ev s hs q1 5 (by omega) (by omega) (by omega)
  by_cases e : c' = 0
  · obtain ⟨t2, q2, ht2, g3, g4, d2⟩ := typeN_ev s hs 3 (by omega) (q1 + 1) (by omega) (by omega)
    obtain ⟨x, v, q3, hx, _, _⟩ := bad_ev s hs 4 (by omega) t2 d2 q2 (by omega) (by omega)
    refine ⟨t, x, v, fun k hk => ?_⟩
    unfold spec_DrawValOk.f
    rw [ho]; simp only [Option.bind_some]
    rw [hc k (by omega)]; simp only [Option.bind_some]
    rw [ew, ht k (by omega)]; simp only [Option.bind_some]
    rw [hc' k (by omega)]; simp only [Option.bind_some]
    rw [if_pos e, show (3 : Int) = ((3 : Nat) : Int) from rfl, ht2 k (by omega)]; simp only [Option.bind_some]
    rw [hx k (by omega)]; rfl
  · obtain ⟨x, v, q3, hx, _, _⟩ := bad_ev s hs (1 + cn + 1) (by omega) t d1 (q1 + 1) (by omega) (by omega)
    refine ⟨t, x, v, fun k hk => ?_⟩
    unfold spec_DrawValOk.f
    rw [ho]; simp only [Option.bind_some]
    rw [hc k (by omega)]; simp only [Option.bind_some]
    rw [ew, ht k (by omega)]; simp only [Option.bind_some]
    rw [hc' k (by omega)]; simp only [Option.bind_some]
    rw [if_neg e, hx k (by omega)]; rfl
end Go.Proofs.Ytjhbhihfifhljaa.Vals
end
section
set_option linter.unusedSimpArgs false
set_option linter.unusedVariables false
namespace Go.Proofs.Ytjhbhihfifhljaa.Pure
open Go.RowKit Go.Proofs.Ytjhbhihfifhljaa.PA Go.Proofs.YtjhbhihfifhljaaW.PrintWords Go.Proofs.YtjhbhihfifhljaaW.PrintLast Go.Proofs.Ytjhbhihfifhljaa.Draw Go.Proofs.Ytjhbhihfifhljaa.Types Go.Proofs.Ytjhbhihfifhljaa.Paths Go.Proofs.Ytjhbhihfifhljaa.Vals
theorem FnValParts : laws_FnValParts.Pure := by
  intro l0 l1 _ _ h0 _ _ h1
  obtain ⟨t, x, v, ht⟩ := drawVal_ev l0 h0
  refine ⟨80, ?_⟩
  have key : laws_FnValParts.j0 80 l0 l1 false = some true := by
    simp only [laws_FnValParts.j0]
    rw [if_neg (by simp), ht 79 (by omega)]; simp only [Option.bind_some]
    rw [implValOk_ev t x v 79 (by omega)]; simp only [Option.bind_some]
    rw [specValOk_ev t x v 79 (by omega)]; simp only [Option.bind_some]
    rw [if_neg (by simp)]
    cases e : vo t x v with
    | false =>
      rw [if_neg (by simp)]
      simp only [laws_FnValParts.j1, if_true]
      rw [specValOk_ev t x v 78 (by omega), e]; rfl
    | true =>
      rw [if_pos rfl]
      have e4 := (vo_iff t x v).1 e
      have dt := vt_dp _ _ _ _ e4
      rcases vt_cases e4 with ⟨rfl, rfl, _, _⟩ | ⟨a, b, s, u, rfl, rfl, rfl, e1, e2⟩
      · simp only [laws_FnValParts.j1]
        rw [if_pos (by simp), specValOk_ev _ _ _ 78 (by omega), e]; rfl
      · simp only [laws_FnValParts.j1]
        rw [if_neg (by simp)]; simp only [Option.bind_some]
        rw [implTypeAt_ev _ _ 78 (by simp) (by simp)]; simp only [Option.bind_some]
        rw [implValAt_ev _ _ _ 78 (by simp) (by simp)]; simp only [Option.bind_some]
        have m0 := Int.emod_nonneg (l1.length : Int) (show (2 : Int) ≠ 0 by omega)
        have m1 := Int.emod_lt_of_pos (l1.length : Int) (show (0 : Int) < 2 by omega)
        generalize (l1.length : Int) % 2 = m at *
        unfold tat vat
        rw [if_pos dt, e4, pf_two, pv_two]
        by_cases hm : m = 0
        · rw [if_pos hm, if_pos hm, pf_nil, pv_nil]
          simp only [Option.isSome_some, if_true, at_, av]
          rw [implValOk_ev _ _ _ 78 (by omega), (vo_iff s a.f0 a.f1).2 (vt_succ _ _ _ _ e1)]; rfl
        · rw [if_neg hm, if_neg hm, if_pos (show m = 1 by omega), if_pos (show m = 1 by omega), pf_nil, pv_nil]
          simp only [Option.isSome_some, if_true, at_, av]
          rw [implValOk_ev _ _ _ 78 (by omega), (vo_iff u b.f0 b.f1).2 (vt_succ _ _ _ _ e2)]; rfl
  have big : laws_FnValParts.j0 80 l0 l1 true = some true := by simp only [laws_FnValParts.j0, if_true]
  unfold laws_FnValParts.f
  by_cases c : (l0.length : Int) > 1048576
  · rw [if_pos c]; exact big
  · rw [if_neg c]
    by_cases c2 : (l1.length : Int) > 1048576
    · rw [show decide ((l1.length : Int) > 1048576) = true from decide_eq_true c2]; exact big
    · rw [show decide ((l1.length : Int) > 1048576) = false from decide_eq_false c2]; exact key
end Go.Proofs.Ytjhbhihfifhljaa.Pure
end
section
namespace Go.Proofs.YtjhbhihfifhljaaW.PrintWords
open Go.ChangeShapes Go.WideShapes
theorem sized_ints {H : Type} {enc : TypeId × Value → H} {P : Program} {W : World} {base : Nat} {spare : Nat → Bool} {held : Bool} {t e : TypeId} {k : IntKind} {a : Option Addr} {len cap : Nat} {d : DataW H} {ps : List MemPlace} {ts : List TypeId} {ds : List (DataW H)} {j : Nat}
    (hsz : (DataW.weightsEach P ts ds).all (· ≤ reachBytes) = true) (ht : ts[j]? = some t) (hd : ds[j]? = some d) (hu : P.underlying t = some (.slice e)) (he : P.underlying e = some (.int k)) (hc : P.cellsOf e = 1) {B : Nat} (hB : P.bytesOf e = B)
    (h : DataW.Trod enc P W base spare held t (.slice a len cap) d ps) : len * B ≤ 140737488351232 := by
  obtain ⟨fuel, hf⟩ := h
  rcases open_ints hu he hc hf with ⟨hcs, _⟩ | ⟨x, l, c, zs, hcs, _, hl, _, hz, hx, _, _⟩
  · simp [Value.cells] at hcs
    obtain ⟨rfl, rfl, rfl⟩ := hcs
    simp
  · simp [Value.cells] at hcs
    obtain ⟨rfl, rfl, rfl⟩ := hcs
    obtain ⟨hx, _⟩ := Prod.mk.inj hx
    subst hx
    have z := sized_slice hsz ht hd hu
    rw [hB] at z
    have hl2 : len ≤ zs.length := by
      rw [hz]
      split
      · exact hl
      · exact Nat.le_refl _
    have h1 : (lits (H := H) k (zs.take len)).length + (lits (H := H) k (zs.drop len)).length = zs.length := by
      simp [lits]
      omega
    rw [h1] at z
    exact Nat.le_trans (Nat.mul_le_mul_right _ hl2) z
end Go.Proofs.YtjhbhihfifhljaaW.PrintWords
end
section
namespace Go.Proofs.Ytjhbhihfifhljaa.fnValParts
open Go.ChangeShapes Go.WideShapes Go.ChangeAt Go.RowKit
open Go.ChangeMaps (open_string shut_string)
set_option linter.unusedVariables false
theorem own : ownKnob Try.prog.godebug = none := by kernel_rfl
theorem laidOut : laidOutB Try.prog = true := by kernel_rfl
def IsRow (k : IntKind) (w : World) (a : Option Addr) (len cap : Nat) (zs : List Int) : Prop :=
  (a = none ∧ len = 0 ∧ cap = 0 ∧ zs = []) ∨
  ∃ x, a = some x ∧ len ≤ cap ∧ cap ≤ maxLen ∧ zs.length = cap ∧ (∀ i, i < zs.length → w.cell? (x.add i) = some (.int k (zs.getD i 0))) ∧ ∀ n ∈ zs, (Lit.int k n).wf = true
set_option maxRecDepth 100000 in
theorem lifted (os : Os) (started : os.Started) (H : Type) (enc : TypeId × Value → H) :
    ReturnsInHanded {} Try.checked os 13 .any (Rows.fnValPartsSpec.pre6 enc Try.prog Try.f13 Rows.fnValPartsRow.domain false) (Rows.fnValPartsSpec.post enc Try.prog Try.f13 false true false false) := by
  refine returnsInHanded_of_change_sized (C := Try.checked) own started (by kernel_rfl) Try.func13
    (ChangeSpec.witness6 (enc := enc) (C := Try.checked) false ⟨#[], #[.slice none 0 0, .slice none 0 0], []⟩ 8 (by kernel_rfl) (by kernel_rfl) (by kernel_rfl) (by kernel_rfl)) ?_
  intro W base args ds gs before hval0 hW hcnd hsz0 _
  have hsz : (DataW.weightsEach Try.prog (Try.f13.params.toList ++ Rows.fnValPartsSpec.plain.varTypes Try.prog) (ds ++ gs)).all (· ≤ reachBytes) = true := hsz0
  have hval : ∀ (j : Nat) t v, Try.f13.params[j]? = some t → args[j]? = some v → Value.okWide Try.prog W .any base t v := hval0
  have hW' := hW
  obtain ⟨p, q, hA0, hV, rfl, hfz, hnd⟩ := hW
  have hA : DataW.TrodAll enc Try.prog W 0 (fun _ => true) true Try.f13.params.toList args.toList ds p := hA0
  rw [Try.params13] at hA hval hsz
  obtain ⟨v0, vs0, d0, ds0, p0, q0, hargs, rfl, rfl, h0, r0⟩ := trodAll_cons hA
  obtain ⟨v1, vs1, d1, ds1, p1, q1, rfl, rfl, rfl, h1, r1⟩ := trodAll_cons r0
  obtain ⟨rfl, rfl, rfl⟩ := trodAll_nil r1
  obtain rfl : args = #[v0, v1] := by cases args; simp_all
  obtain ⟨rfl, rfl⟩ := trodVars_none hV
  obtain ⟨a0, len0, cap0, rfl⟩ := okWide_slice Try.underlying34 (hval 0 34 v0 rfl rfl)
  have k0 := h0
  have lt0 : ∀ x ∈ p0, x.block < W.heap.size := by obtain ⟨m, hm⟩ := k0; exact DataW.trod_lt m _ _ _ hm
  obtain ⟨z0, w0⟩ : ∃ zs, IsRow .u8 W a0 len0 cap0 zs := by
    obtain ⟨fuel, hf⟩ := h0
    rcases open_ints Try.underlying34 Try.underlying5 (by kernel_rfl) hf with ⟨hcs, _⟩ | ⟨x, l, c, zs, hcs, _, hl, hm, hz, _, hcell, hwz⟩
    · simp [Value.cells] at hcs
      obtain ⟨rfl, rfl, rfl⟩ := hcs
      exact ⟨[], .inl ⟨rfl, rfl, rfl, rfl⟩⟩
    · simp [Value.cells] at hcs
      obtain ⟨rfl, rfl, rfl⟩ := hcs
      exact ⟨zs, .inr ⟨_, rfl, hl, hm, by simpa using hz, hcell, hwz⟩⟩
  have y0 : len0 * 1 ≤ 140737488351232 := Go.Proofs.YtjhbhihfifhljaaW.PrintWords.sized_ints hsz (j := 0) (t := 34) rfl rfl Try.underlying34 Try.underlying5 (by kernel_rfl) (by kernel_rfl) h0
  obtain ⟨a1, len1, cap1, rfl⟩ := okWide_slice Try.underlying34 (hval 1 34 v1 rfl rfl)
  have k1 := h1
  have lt1 : ∀ x ∈ p1, x.block < W.heap.size := by obtain ⟨m, hm⟩ := k1; exact DataW.trod_lt m _ _ _ hm
  obtain ⟨z1, w1⟩ : ∃ zs, IsRow .u8 W a1 len1 cap1 zs := by
    obtain ⟨fuel, hf⟩ := h1
    rcases open_ints Try.underlying34 Try.underlying5 (by kernel_rfl) hf with ⟨hcs, _⟩ | ⟨x, l, c, zs, hcs, _, hl, hm, hz, _, hcell, hwz⟩
    · simp [Value.cells] at hcs
      obtain ⟨rfl, rfl, rfl⟩ := hcs
      exact ⟨[], .inl ⟨rfl, rfl, rfl, rfl⟩⟩
    · simp [Value.cells] at hcs
      obtain ⟨rfl, rfl, rfl⟩ := hcs
      exact ⟨zs, .inr ⟨_, rfl, hl, hm, by simpa using hz, hcell, hwz⟩⟩
  have y1 : len1 * 1 ≤ 140737488351232 := Go.Proofs.YtjhbhihfifhljaaW.PrintWords.sized_ints hsz (j := 1) (t := 34) rfl rfl Try.underlying34 Try.underlying5 (by kernel_rfl) (by kernel_rfl) h1
  clear hA0 hval0 hsz0 hsz
  refine (PA.laws_FnValParts.walk Pure.FnValParts a0 len0 cap0 z0 a1 len1 cap1 z1 W w0 y0 w1 y1).mono fun e W' ⟨he, bel⟩ => ?_
  subst he
  exact ⟨_, rfl, _, _, _, [], _, [], hW', trodAll_mk1 (shut_bool Try.underlying4 _), (trodAll_cons_mk (Below.trod laidOut (by kernel_rfl) (of_decide_eq_true (by kernel_rfl)) k0 bel lt0) (trodAll_cons_mk (Below.trod laidOut (by kernel_rfl) (of_decide_eq_true (by kernel_rfl)) k1 bel lt1) trodAll_mk0)), rfl, bel.frame _, fun h => by cases h⟩
theorem over : Rows.fnValPartsRow.holds Try.pinned (OpenSpec.ofChange Rows.fnValPartsSpec) :=
  OpenClaim.holds_of_wide 13 Try.f13 rfl rfl rfl rfl rfl rfl rfl ⟨rfl, rfl, rfl, rfl, rfl⟩ rfl rfl rfl rfl rfl (by kernel_rfl) Try.func13 (by kernel_rfl)
    (of_decide_eq_true (by kernel_rfl)) (by unfold Func.isWrapper; first | (rw [if_pos (by decide +kernel)]; kernel_rfl) | (rw [if_neg (by decide +kernel)]; exact ⟨rfl, rfl⟩))
    (fun os started H enc _ => lifted os started H enc)
theorem proved : Rows.FnValPartsSaid := over
#print axioms proved
end Go.Proofs.Ytjhbhihfifhljaa.fnValParts
namespace Go.Proofs.Ytjhbhihfifhljaa
theorem fnValParts_holds : Rows.FnValPartsSaid := fnValParts.proved
end Go.Proofs.Ytjhbhihfifhljaa
end
