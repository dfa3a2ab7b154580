-- Ythfflieeifakdaa's texts for the statement FnValSame, one behind the other (merge.py).
import Derived.Test.YthfflieeifakdaaQFnValSame0
import Derived.Test.YthfflieeifakdaaQFnValSame1
import Derived.Test.YthfflieeifakdaaQFnValSame3
import Derived.Test.YthfflieeifakdaaQFnValSame2
section
namespace Go.Proofs.Ythfflieeifakdaa.PA
open Go.RowKit Go.Proofs.YthfflieeifakdaaW.PrintWords Go.Proofs.YthfflieeifakdaaW.PrintLast Go.Proofs.YthfflieeifakdaaW.PrintMore
attribute [local go_sem] max2_int min2_int max_two min_two max_three min_three max_four min_four
set_option linter.unusedVariables false
set_option linter.unusedSimpArgs false
def spec_TypeAt.l0 : Nat → List Int → Int → List (S50) → Option ((List (S50)) × Bool)
 | 0, _, _, _ => none
 | k + 1, x1, x6, x585000 => if x6 < (x1.length : Int) then (if 0 ≤ x6 then ((spec_l6In.f (rd x1 x6) 0 (wrap64 ((x585000.length : Int) - 1))).bind fun t588 => (if t588 = true then (if 0 ≤ (rd x1 x6) then (if (rd x1 x6) < (x585000.length : Int) then (spec_TypeAt.l0 k x1 (wrap64 (x6 + 1)) ((rd_T50 x585000 (rd x1 x6)).f0)) else (none)) else (none)) else (some (([] : List (S50)), false)))) else (none)) else ((spec_l1Copy.f k x585000).bind fun t591 => (some (t591, true)))
def spec_TypeAt.f (k : Nat) (l0_0 : List (S50)) (l1 : List Int) : Option ((List (S50)) × Bool) := (spec_TypeOk.f k l0_0).bind fun t586 => (if t586 = true then (spec_TypeAt.l0 k l1 0 l0_0) else (some (([] : List (S50)), false)))
theorem spec_TypeAt.mono_l : ∀ k, (∀ y0 y1 y2, LeO (spec_TypeAt.l0 k y0 y1 y2) (spec_TypeAt.l0 (k + 1) y0 y1 y2))
 | 0 => fun _ _ _ r h => by simp [spec_TypeAt.l0] at h
 | k + 1 => by
  have ih0 := spec_TypeAt.mono_l k
  ·intro y0 y1 y2
   unfold spec_TypeAt.l0
   repeat' first
   | (with_reducible exact ih0 _ _ _)
   | (with_reducible exact spec_TypeOk.mono _ _)
   | (with_reducible exact spec_l1Copy.mono _ _)
   | (with_reducible exact LeO.refl _)
   | (with_reducible exact LeO.none _)
   | (with_reducible refine LeO.ite ?_ ?_)
   | (with_reducible refine LeO.bind ?_ (fun _ => ?_))
   | exact ih0 _ _ _
   | exact spec_TypeOk.mono _ _
   | exact spec_l1Copy.mono _ _
   | exact LeO.none _
   | refine LeO.ite ?_ ?_
   | refine LeO.bind ?_ (fun _ => ?_)
theorem spec_TypeAt.mono : ∀ a0 a1 k, LeO (spec_TypeAt.f k a0 a1) (spec_TypeAt.f (k + 1) a0 a1) := by
 intro a0 a1 k
 have ih0 := spec_TypeAt.mono_l k
 unfold spec_TypeAt.f
 repeat' first
   | (with_reducible exact ih0 _ _ _)
   | (with_reducible exact spec_TypeOk.mono _ _)
   | (with_reducible exact spec_l1Copy.mono _ _)
   | (with_reducible exact LeO.refl _)
   | (with_reducible exact LeO.none _)
   | (with_reducible refine LeO.ite ?_ ?_)
   | (with_reducible refine LeO.bind ?_ (fun _ => ?_))
   | exact ih0 _ _ _
   | exact spec_TypeOk.mono _ _
   | exact spec_l1Copy.mono _ _
   | exact LeO.none _
   | refine LeO.ite ?_ ?_
   | refine LeO.bind ?_ (fun _ => ?_)
def spec_TypeAt.T6 : Bool × List (List Nat × List Nat) := (true, [([], []), ([], []), ([0, 1], [0, 1]), ([2], [2]), ([], []), ([4], [4]), ([5], [5]), ([6], [6]), ([3, 7], [3, 7]), ([8], [8])])
def spec_TypeAt.B6 : List Nat := [0, 0, 3, 7, 0, 16, 48, 112, 255, 511]
theorem spec_TypeAt.tab6 : rtab .any (opsOf Try.f48 6) = spec_TypeAt.T6 := by kernel_rfl
theorem spec_TypeAt.bits6 : waitsOk spec_TypeAt.T6.2 spec_TypeAt.B6 = true := by kernel_rfl
def spec_TypeAt.T8 : Bool × List (List Nat × List Nat) := (true, [([], []), ([0], [0]), ([], []), ([], []), ([2, 3], [2, 3]), ([4], [4]), ([1, 5], [1, 5]), ([6], [6]), ([7, 0, 1, 2, 3, 4, 5, 6, 7], [7])])
def spec_TypeAt.B8 : List Nat := [0, 1, 0, 0, 12, 28, 63, 127, 255]
theorem spec_TypeAt.tab8 : rtab .any (opsOf Try.f48 8) = spec_TypeAt.T8 := by kernel_rfl
theorem spec_TypeAt.bits8 : waitsOk spec_TypeAt.T8.2 spec_TypeAt.B8 = true := by kernel_rfl
set_option maxHeartbeats 8000000 in
set_option maxRecDepth 100000 in
theorem spec_TypeAt.calls (k : Nat) (P0_0_ : Nat → Prop) (A0_0 : Option Addr) (c0_0 : Nat) (l0_0 : List (S50)) (A1 : Option Addr) (c1 : Nat) (l1 : List Int) (r1 : List (S50)) (r2 : Bool) (w : World) (hs0_0 : Kd.V k50 50 w w.heap.size (fun k_ => P0_0_ k_) (.slice A0_0 l0_0.length c0_0) l0_0) (hr1 : Kd.C (Kd.int .i64) w A1 l1.length l1) (hc1 : l1.length ≤ c1) (h : spec_TypeAt.f k l0_0 l1 = some (r1, r2)) :
  Calls Try.prog 48 #[.agg #[.slice A0_0 l0_0.length c0_0], .slice A1 l1.length c1] w fun e w' => ∃ v0_ : Value, e = .returned (.tuple #[.agg #[v0_], .bool r2]) ∧ Kd.R k50 50 w' w.heap.size (fun k_ => (w.heap.size ≤ k_)) v0_ r1 ∧ Below w.heap.size w w' := by
 have hu50 := Try.underlying50
 have HO0_0 := Aside0.mk (show Kd.V k50 50 w w.heap.size (fun k_ => (P0_0_ k_ ∨ w.heap.size ≤ k_)) (.slice A0_0 l0_0.length c0_0) l0_0 from Kd.V_mono hs0_0 (fun k_ hk => .inl hk))
 have HR1 := Aside0.mk hr1
 have HC1 := Aside0.mk hc1
 clear hr1 hc1
 have HB := Aside0.mk (Below.refl w.heap.size w)
 have H : ((spec_TypeOk.f k l0_0).bind fun t586 => (if t586 = true then (spec_TypeAt.l0 k l1 0 l0_0) else (some (([] : List (S50)), false)))) = some (r1, r2) := h
 clear h
 obtain ⟨t586, A30, H⟩ := ob H
 have A3 := Aside0.mk A30
 clear A30
 by_cases c4 : t586 = true
 ·subst c4
  rw [if_pos rfl] at H
  have H' := Aside0.mk H
  clear H
  go_enter Try.func48, Try.ntmps48
  go_wp2_with (first | ((with_reducible refine gate_dst (N := 2) rfl ?_); refine zbx 2 #[.slice A0_0 l0_0.length c0_0] 50 ?_; intro gb584 hg w5 hbox hb; replace HO0_0 := Aside0.mk (Kd.V_below (Kd.V_elderB (y10 HO0_0.out) gb584 (Nat.le_of_eq hg.symm)) hb); have BK584 := Aside0.mk hbox; have GW584 := Aside0.mk ((y9 hg HB.out : w.heap.size ≤ gb584)); have GE584 := Aside0.mk ((y9 hg HB.out : w.heap.size ≤ gb584)); replace HB := Aside0.mk (below_step (y5 HB.out) hb); clear hb hbox hg) | ((with_reducible refine gate_dst (N := 4) rfl ?_); refine zbx 4 #[.slice none 0 0] 50 ?_; intro gb585 hg w6 hbox hb; replace HO0_0 := Aside0.mk (Kd.V_below (Kd.V_elderB (y10 HO0_0.out) gb585 (Nat.le_of_eq hg.symm)) hb); have BK585 := Aside0.mk hbox; have GW585 := Aside0.mk ((y11 hg HB.out GE584.out : w.heap.size ≤ gb585)); have GE585 := Aside0.mk ((y11 hg HB.out GE584.out : w.heap.size ≤ gb585)); replace HB := Aside0.mk (below_step (y6 HB.out GE584.out) hb); have NB584_585 := zltn hg BK584; have NB585_584 := zgtn hg BK584; replace BK584 := zbb BK584 hb; clear hb hbox hg; have hnb7 := NB584_585.out; have hnc7 := NB585_584.out; have hcz8_0 := zh BK584; have hfz8_0 := zfr BK584 0) | ((with_reducible refine gate_callee (f := 53) rfl ?_); refine goesL_ (some 8) rfl rfl Try.func53 (by kernel_rfl) rfl #[.agg #[.slice A0_0 l0_0.length c0_0]] rfl y8 ?_; (with_reducible refine (spec_TypeOk.calls k _ _ l0_0 true _ ?side1 ?side2 A3.out).mono ?_); (case side1 => exact y35 HO0_0.out); (case side2 => exact (Kd.V_reads' HO0_0.out).2.1); rintro e w9 ⟨rfl, hb⟩; refine ⟨_, rfl, ?_⟩; replace HO0_0 := Aside0.mk (Kd.V_below (y10 HO0_0.out) hb); replace BK584 := zbb BK584 hb; replace BK585 := zbb BK585 hb; replace HB := Aside0.mk (below_step (y2 HB.out GE584.out GE585.out) hb); (try clear hb); (try clear hb2); (try clear hk); (try clear hi)))
  go_loopg [6] k (fun kq v6 w' => ∃ (x6_1 : Int) (x585000_1 : List (S50)) (u585000 : Value), v6 = .int .i64 x6_1 ∧ Aside0 (spec_TypeAt.l0 kq l1 x6_1 x585000_1 = some (r1, r2)) ∧ Aside0 (kq ≤ k) ∧ Aside0 (Kd.V k50 50 w' w.heap.size (fun k_ => (P0_0_ k_ ∨ w.heap.size ≤ k_) ∧ k_ ≠ gb584 ∧ k_ ≠ gb585) u585000 x585000_1) ∧ Aside0 (w'.heap[gb584]? = some (.cells #[u585000] 50 (0, 0))) ∧ Aside0 (w'.heap[gb585]? = some (.cells #[(.slice none 0 0)] 50 (0, 0))) ∧ Aside0 (Below w.heap.size w w'))
  case atStart => exact ⟨(0), (l0_0), (.slice A0_0 l0_0.length c0_0), y34, H', ⟨Nat.le_refl _⟩, ⟨(y74 HO0_0.out)⟩, ⟨(y0 BK584.out)⟩, ⟨(y0 BK585.out)⟩, ⟨(y2 HB.out GE584.out GE585.out)⟩⟩
  case round =>
   clear H'
   try clear c1
   try clear p2
   try clear c4
   try clear c5
   try clear c7
   try clear hcz8_0
   try clear hfz8_0
   (try clear BK584); (try clear BK585)
   obtain ⟨x6_1, x585000_1, u585000, rfl, HA, HK1, HO_585000, BK584, BK585, HB⟩ := hrel
   cases gk with
   | zero => exact absurd HA.out (by simp [spec_TypeAt.l0])
   | succ k1 =>
    have H := HA.out
    clear HA
    simp only [spec_TypeAt.l0] at H
    by_cases c10 : x6_1 < (l1.length : Int)
    ·rw [if_pos c10] at H
     have c10b0 : decide (x6_1 < (l1.length : Int)) = true := decide_eq_true c10
     clear c10
     by_cases c11 : 0 ≤ x6_1
     ·rw [if_pos c11] at H
      have c11b0 : decide (0 ≤ x6_1) = true := decide_eq_true c11
      clear c11
      obtain ⟨t588, A120, H⟩ := ob H
      have A12 := Aside0.mk A120
      clear A120
      by_cases c13 : t588 = true
      ·subst c13
       rw [if_pos rfl] at H
       by_cases c14 : 0 ≤ (rd l1 x6_1)
       ·rw [if_pos c14] at H
        have c14b0 : decide (0 ≤ (rd l1 x6_1)) = true := decide_eq_true c14
        clear c14
        by_cases c15 : (rd l1 x6_1) < (x585000_1.length : Int)
        ·rw [if_pos c15] at H
         have c15b0 : decide ((rd l1 x6_1) < (x585000_1.length : Int)) = true := decide_eq_true c15
         clear c15
         have H' := Aside0.mk H
         clear H
         try go_wp2
         replace HO_585000 := Aside0.mk (Kd.V_drew HO_585000.out)
         replace BK584 := Aside0.mk (blk_drew BK584.out)
         replace BK585 := Aside0.mk (blk_drew BK585.out)
         replace HB := Aside0.mk (below_drew1 HB.out)
         have p587 : 0 ≤ (x6_1 : Int) := of_decide_eq_true y23
         have q587 : x6_1 < (l1.length : Int) := of_decide_eq_true y23
         obtain ⟨ad587, e587, hx587_0⟩ := Kd.at_int HR1.out x6_1 p587 q587
         have hw587_0 := hx587_0
         cases e587
         replace hx587_0 := (HB.out.cell (World.block_lt_of_cell? w _ hx587_0)).trans hx587_0
         replace p587 := eq_true p587
         replace q587 := eq_true q587
         obtain ⟨Ao17, co17, eo17⟩ := Kd.V_slice HO_585000.out
         (first | subst eo17 | (injection eo17 with f1_ f2_ f3_; have f4_ := f1_.symm; have f5_ := f3_.symm; clear f1_ f2_ f3_; subst f4_; subst f5_))
         refine start_ (n := 10) (S := fun w' => w'.cell? ⟨gb584, 0, none⟩ = some (.slice Ao17 x585000_1.length co17) ∧ w'.cell? (ad587.add (x6_1).toNat) = some (.int .i64 (rd l1 x6_1))) (ds := []) #[false, false, false, false, false, false, false, false, false, false] (by kernel_rfl) rfl rfl ⟨(blk_cell BK584.out 0).trans rfl, ((HB.out.cell (World.block_lt_of_cell? w _ hw587_0)).trans hw587_0)⟩ (fun hHeld => ?_); refine with_tabW spec_TypeAt.tab6 spec_TypeAt.bits6 (fun HT_ HW_ => ?_)
         generalize wr.drew = w16 at HO_585000 BK584 BK585 HB hx587_0 hHeld ⊢
         refine zp 0 (some 17) HT_ ?_
         refine zp 1 (some 18) HT_ ?_
         refine zp 2 (some 19) HT_ ?_
         refine zp 4 (some 21) HT_ ?_
         refine zt2 3 (some 20) HT_ HW_ hHeld ?_
         refine zt2 5 (some 22) HT_ HW_ hHeld ?_
         refine zp 6 (some 23) HT_ ?_
         refine zp 7 (some 24) HT_ ?_
         refine one_ (i := 8) (N := some 25) #[true, true, true, true, true, true, true, true, true, false] rfl rfl (one_of HT_.out (by kernel_rfl)) (by decide) (fun K hK => ?_)
         refine goes_ Try.func36 (by kernel_rfl) rfl #[.int .i64 (rd l1 x6_1), .int .i64 0, .int .i64 (wrap64 ((x585000_1.length : Int) - 1))] (by rfl) rfl rfl y8 ?_
         with_reducible refine (spec_l6In.calls (rd l1 x6_1) 0 (wrap64 ((x585000_1.length : Int) - 1)) true _ A12.out).mono ?_
         rintro e w' ⟨rfl, ⟨nd, rfl⟩⟩
         refine ⟨_, rfl, ?_⟩
         refine hK.out _ _ ⟨(blk_cell BK584.out 0).trans rfl, ((HB.out.cell (World.block_lt_of_cell? w _ hw587_0)).trans hw587_0)⟩ (fun hHeld => ?_)
         clear hK K
         refine norm_ (a' := ?_) ?_ ?_
         rotate_left
         ·show Act.put _ (some 25) _ = _
          simp only [Act.put, List.setIfInBounds_toArray, List.set_cons_zero, List.set_cons_succ, i64_w, i32_w]
          rfl
         refine zp 9 (some 26) HT_ ?_
         refine done_ (done_of HT_.out (by kernel_rfl)) ?_
         try go_wp2
         (try (rw [drewN_self w16]; generalize hq_ : World.drewN w16 _ = w16; have n0_ : Aside0 (Kd.V k50 50 w16 w.heap.size (fun k_ => (P0_0_ k_ ∨ w.heap.size ≤ k_) ∧ k_ ≠ gb584 ∧ k_ ≠ gb585) (.slice Ao17 x585000_1.length co17) x585000_1) := ⟨(by rw [← hq_]; exact (y10 HO_585000.out))⟩; have n1_ : Aside0 (w16.heap[gb584]? = some (.cells #[.slice Ao17 x585000_1.length co17] 50 (0, 0))) := ⟨(by rw [← hq_]; exact (y0 BK584.out))⟩; have n2_ : Aside0 (w16.heap[gb585]? = some (.cells #[.slice none 0 0] 50 (0, 0))) := ⟨(by rw [← hq_]; exact (y0 BK585.out))⟩; have n3_ : Aside0 (Below w.heap.size w w16) := ⟨(by rw [← hq_]; exact (y2 HB.out GE584.out GE585.out))⟩; clear HO_585000 BK584 BK585 HB hq_; have HO_585000 := n0_; have BK584 := n1_; have BK585 := n2_; have HB := n3_; clear n0_ n1_ n2_ n3_))
         replace HO_585000 := Aside0.mk (Kd.V_drew HO_585000.out)
         replace BK584 := Aside0.mk (blk_drew BK584.out)
         replace BK585 := Aside0.mk (blk_drew BK585.out)
         replace HB := Aside0.mk (below_drew1 HB.out)
         have p589 : 0 ≤ (x6_1 : Int) := of_decide_eq_true y23
         have q589 : x6_1 < (l1.length : Int) := of_decide_eq_true y23
         obtain ⟨ad589, e589, hx589_0⟩ := Kd.at_int HR1.out x6_1 p589 q589
         have hw589_0 := hx589_0
         obtain rfl : ad587 = ad589 := (by injection e589)
         replace hx589_0 := (HB.out.cell (World.block_lt_of_cell? w _ hx589_0)).trans hx589_0
         replace p589 := eq_true p589
         replace q589 := eq_true q589
         have p590 : 0 ≤ ((rd l1 x6_1) : Int) := of_decide_eq_true y23
         have q590 : (rd l1 x6_1) < (x585000_1.length : Int) := of_decide_eq_true y23
         obtain ⟨ad590, A590_0, c590_0, e590, hx590_0, hl590_0, hi590_0⟩ := at_T50 (Kd.V_reads' HO_585000.out).2.2 (rd l1 x6_1) p590 q590
         cases e590
         obtain ⟨ce590, hce590, hMe590, hcc590⟩ := Kd.V_get HO_585000.out z50 (rd l1 x6_1) p590 (by first | exact q590 | exact of_decide_eq_true y23 | (have e_ := (Kd.V_reads' HO_585000.out).1; omega))
         obtain ⟨ua590_0, uc590_0, rfl, ul590_0, ge590_0⟩ := k50_openF hMe590
         have hv590_0 := hcc590 0 _ rfl
         rw [Nat.add_zero, show (k50).sz = 1 from rfl, Nat.mul_one] at hv590_0
         replace hv590_0 := Option.some.inj (hv590_0.symm.trans hx590_0)
         injection hv590_0 with hva_ hvn_ hvc_
         rw [hva_] at ge590_0
         rw [hvc_] at ul590_0
         have HL590_0 := Aside0.mk (show Kd.V k50 50 _ w.heap.size _ _ ((rd_T50 x585000_1 (rd l1 x6_1)).f0) from Kd.V_mk ul590_0 ge590_0)
         clear hva_ hvn_ hvc_ ge590_0 ul590_0
         clear hcc590 hce590
         have HR590_0 := Aside0.mk hi590_0
         have HC590_0 := Aside0.mk hl590_0
         clear hi590_0 hl590_0
         replace p590 := eq_true p590
         replace q590 := eq_true q590
         refine start_ (n := 9) (S := fun w' => w'.cell? ⟨gb584, 0, none⟩ = some (.slice (some ad590) x585000_1.length co17) ∧ w'.cell? (ad587.add (x6_1).toNat) = some (.int .i64 (rd l1 x6_1)) ∧ w'.cell? (ad590.add ((rd l1 x6_1)).toNat) = some (.slice A590_0 ((rd_T50 x585000_1 (rd l1 x6_1)).f0).length c590_0)) (ds := [8]) #[false, false, false, false, false, false, false, false, false] (by kernel_rfl) rfl rfl ⟨(blk_cell BK584.out 0).trans rfl, ((HB.out.cell (World.block_lt_of_cell? w _ hw589_0)).trans hw589_0), hx590_0⟩ (fun hHeld => ?_); refine with_tabW spec_TypeAt.tab8 spec_TypeAt.bits8 (fun HT_ HW_ => ?_)
         generalize w16.drew = w18 at HO_585000 BK584 BK585 HB HL590_0 HR590_0 hx589_0 hx590_0 hHeld ⊢
         refine zp 0 (some 28) HT_ ?_
         refine zp 2 (some 30) HT_ ?_
         refine zp 3 (some 31) HT_ ?_
         refine zp 4 (some 32) HT_ ?_
         refine zt3 1 (some 29) HT_ HW_ hHeld ?_
         refine zt3 5 (some 33) HT_ HW_ hHeld ?_
         refine zp 6 (some 34) HT_ ?_
         refine zt3 7 (some 35) HT_ HW_ hHeld ?_
         refine last_ (i := 8) (N := none) #[true, true, true, true, true, true, true, true, true] rfl rfl (one_of HT_.out (by kernel_rfl)) (by decide) (fun K hK => ?_)
         have hs19 : w18.cell? ⟨gb584, 0, none⟩ = some (.slice (some ad590) x585000_1.length co17) := (blk_cell BK584.out 0).trans rfl
         have hfs19 := zfr BK584 0
         have hns19_1 := NB585_584.out
         have hms19_1 := NB584_585.out
         refine skip_ (w1 := ?_) (by rfl) rfl ?_ ?_
         rotate_left
         ·go_simp
          rfl
         refine hK.out _ _ ?_
         clear hK K
         refine done_ (done_of HT_.out (by kernel_rfl)) ?_
         try go_wp2
         go_roundg k1
         case measure => have := HK1.out; omega
         case rel => exact ⟨(wrap64 (x6_1 + 1)), ((rd_T50 x585000_1 (rd l1 x6_1)).f0), (.slice A590_0 ((rd_T50 x585000_1 (rd l1 x6_1)).f0).length c590_0), y34, H', ⟨(y57 HK1.out)⟩, ⟨(by (with_reducible repeat (first | apply Kd.V_alloc | apply Kd.V_drewN | apply Kd.V_drew)); exact Kd.V_mono (Kd.V_far (p := ⟨gb584, 0, none⟩) (Kd.V_mono HL590_0.out (fun k_ hk => (⟨hk, hk.2.1⟩ : _ ∧ k_ ≠ gb584))) (fun _ hk => hk.2) (.slice A590_0 ((rd_T50 x585000_1 (rd l1 x6_1)).f0).length c590_0)) (fun _ hk => ⟨hk.1.1, ⟨hk.1.2.1, hk.1.2.2⟩⟩))⟩, ⟨(by (with_reducible repeat (first | refine blk_drewN ?_ _ | refine blk_drew ?_ | refine blk_alloc ?_ _)); refine blk_put (cs := #[.slice (some ad590) x585000_1.length co17]) ?_ 0 _ rfl; (with_reducible repeat (first | refine blk_drewN ?_ _ | refine blk_drew ?_ | refine blk_alloc ?_ _)); exact BK584.out)⟩, ⟨(y13 NB585_584.out BK585.out)⟩, ⟨(y2 HB.out GE584.out GE585.out)⟩⟩
        ·rw [if_neg c15] at H
         exact absurd H (by simp)
       ·rw [if_neg c14] at H
        exact absurd H (by simp)
      ·replace c13 := Bool.eq_false_iff.mpr c13
       subst c13
       rw [if_neg (show ¬ (false = true) by decide)] at H
       simp only [Option.some.injEq, Prod.mk.injEq] at H
       obtain ⟨rfl, rfl⟩ := H
       try go_wp2
       replace HO_585000 := Aside0.mk (Kd.V_drew HO_585000.out)
       replace BK584 := Aside0.mk (blk_drew BK584.out)
       replace BK585 := Aside0.mk (blk_drew BK585.out)
       replace HB := Aside0.mk (below_drew1 HB.out)
       have p587 : 0 ≤ (x6_1 : Int) := of_decide_eq_true y23
       have q587 : x6_1 < (l1.length : Int) := of_decide_eq_true y23
       obtain ⟨ad587, e587, hx587_0⟩ := Kd.at_int HR1.out x6_1 p587 q587
       have hw587_0 := hx587_0
       cases e587
       replace hx587_0 := (HB.out.cell (World.block_lt_of_cell? w _ hx587_0)).trans hx587_0
       replace p587 := eq_true p587
       replace q587 := eq_true q587
       obtain ⟨Ao21, co21, eo21⟩ := Kd.V_slice HO_585000.out
       (first | subst eo21 | (injection eo21 with f1_ f2_ f3_; have f4_ := f1_.symm; have f5_ := f3_.symm; clear f1_ f2_ f3_; subst f4_; subst f5_))
       refine start_ (n := 10) (S := fun w' => w'.cell? ⟨gb584, 0, none⟩ = some (.slice Ao21 x585000_1.length co21) ∧ w'.cell? (ad587.add (x6_1).toNat) = some (.int .i64 (rd l1 x6_1))) (ds := []) #[false, false, false, false, false, false, false, false, false, false] (by kernel_rfl) rfl rfl ⟨(blk_cell BK584.out 0).trans rfl, ((HB.out.cell (World.block_lt_of_cell? w _ hw587_0)).trans hw587_0)⟩ (fun hHeld => ?_); refine with_tabW spec_TypeAt.tab6 spec_TypeAt.bits6 (fun HT_ HW_ => ?_)
       generalize wr.drew = w20 at HO_585000 BK584 BK585 HB hx587_0 hHeld ⊢
       refine zp 0 (some 17) HT_ ?_
       refine zp 1 (some 18) HT_ ?_
       refine zp 2 (some 19) HT_ ?_
       refine zp 4 (some 21) HT_ ?_
       refine zt2 3 (some 20) HT_ HW_ hHeld ?_
       refine zt2 5 (some 22) HT_ HW_ hHeld ?_
       refine zp 6 (some 23) HT_ ?_
       refine zp 7 (some 24) HT_ ?_
       refine one_ (i := 8) (N := some 25) #[true, true, true, true, true, true, true, true, true, false] rfl rfl (one_of HT_.out (by kernel_rfl)) (by decide) (fun K hK => ?_)
       refine goes_ Try.func36 (by kernel_rfl) rfl #[.int .i64 (rd l1 x6_1), .int .i64 0, .int .i64 (wrap64 ((x585000_1.length : Int) - 1))] (by rfl) rfl rfl y8 ?_
       with_reducible refine (spec_l6In.calls (rd l1 x6_1) 0 (wrap64 ((x585000_1.length : Int) - 1)) false _ A12.out).mono ?_
       rintro e w' ⟨rfl, ⟨nd, rfl⟩⟩
       refine ⟨_, rfl, ?_⟩
       refine hK.out _ _ ⟨(blk_cell BK584.out 0).trans rfl, ((HB.out.cell (World.block_lt_of_cell? w _ hw587_0)).trans hw587_0)⟩ (fun hHeld => ?_)
       clear hK K
       refine norm_ (a' := ?_) ?_ ?_
       rotate_left
       ·show Act.put _ (some 25) _ = _
        simp only [Act.put, List.setIfInBounds_toArray, List.set_cons_zero, List.set_cons_succ, i64_w, i32_w]
        rfl
       refine zp 9 (some 26) HT_ ?_
       refine done_ (done_of HT_.out (by kernel_rfl)) ?_
       have hnb22 := NB585_584.out
       have hnc22 := NB584_585.out
       have hcz23_0 := zh BK585
       have hfz23_0 := zfr BK585 0
       try go_wp2
       refine bodyPost_ret (results_ct rfl _ _ gb585 50 #[.slice none 0 0] (0, 0) _ rfl (by (with_reducible repeat (first | refine blk_drewN ?_ _ | refine blk_drew ?_ | refine blk_alloc ?_ _)); apply blk_put (i := 0); (case h => exact y0 BK585.out); (case e => rfl)) Try.underlying50 rfl (by kernel_rfl)) rfl ?_
       exact ⟨_, y19, y37, (y2 HB.out GE584.out GE585.out)⟩
     ·rw [if_neg c11] at H
      exact absurd H (by simp)
    ·rw [if_neg c10] at H
     have c10b0 : decide (x6_1 < (l1.length : Int)) = false := decide_eq_false c10
     clear c10
     obtain ⟨t591, A240, H⟩ := ob H
     have A24 := Aside0.mk A240
     clear A240
     simp only [Option.some.injEq, Prod.mk.injEq] at H
     obtain ⟨rfl, rfl⟩ := H
     have hnb25 := NB584_585.out
     have hnc25 := NB585_584.out
     have hcz26_0 := zh BK584
     have hfz26_0 := zfr BK584 0
     obtain ⟨Ao27, co27, eo27⟩ := Kd.V_slice HO_585000.out
     subst eo27
     go_wp2_with (first | ((with_reducible refine gate_callee (f := 58) rfl ?_); refine goesL_ (some 37) rfl rfl Try.func58 (by kernel_rfl) rfl #[.agg #[.slice Ao27 x585000_1.length co27]] rfl y8 ?_; (with_reducible refine (spec_l1Copy.calls k1 _ _ x585000_1 t591 _ ?side1 ?side2 A24.out).mono ?_); (case side1 => exact y35 HO_585000.out); (case side2 => exact (Kd.V_reads' HO_585000.out).2.1); rintro e w28 ⟨v592, rfl, ho0, hb⟩; refine ⟨_, rfl, ?_⟩; replace HO_585000 := Aside0.mk (Kd.V_elder' (y10 HO_585000.out) (Kd.R_base ho0) hb); have HO593 := Aside0.mk (Kd.R_lower (Kd.R_newB (Kd.R_newB (Kd.R_newM (M := fun k_ => (w.heap.size ≤ k_)) ho0 (below_size (y2 HB.out GE584.out GE585.out)) (fun k_ h_ => h_)) (g := gb584) (o := .cells #[.slice Ao27 x585000_1.length co27] 50 (0, 0)) (y0 BK584.out)) (g := gb585) (o := .cells #[.slice none 0 0] 50 (0, 0)) (y0 BK585.out)) (below_size (y2 HB.out GE584.out GE585.out))); replace BK584 := zbb BK584 hb; replace BK585 := zbb BK585 hb; replace HB := Aside0.mk (below_step (y2 HB.out GE584.out GE585.out) hb); (try clear hb); (try clear hb2); (try clear hk); (try clear hi); (try clear ho0); obtain ⟨Ao29, co29, eo29⟩ := Kd.R_slice HO593.out; subst eo29; have hcz30_0 := zh BK585; have hfz30_0 := zfr BK585 0))
     refine bodyPost_ret (results_ct rfl _ _ gb585 50 #[.slice Ao29 t591.length co29] (0, 0) _ rfl (by (with_reducible repeat (first | refine blk_drewN ?_ _ | refine blk_drew ?_ | refine blk_alloc ?_ _)); apply blk_put (i := 0); (case h => exact y0 BK585.out); (case e => rfl)) Try.underlying50 rfl (by kernel_rfl)) rfl ?_
     exact ⟨_, y19, (by (with_reducible repeat (first | apply Kd.R_alloc | apply Kd.R_drewN | apply Kd.R_drew)); exact Kd.R_mono (Kd.R_far (p := ⟨gb585, 0, none⟩) (Kd.R_mono HO593.out (fun k_ hk => (⟨hk, hk.2⟩ : _ ∧ k_ ≠ gb585))) (fun _ hk => hk.2) (.slice Ao29 t591.length co29)) (fun _ hk => hk.1.1.1.1)), (y2 HB.out GE584.out GE585.out)⟩
 ·replace c4 := Bool.eq_false_iff.mpr c4
  subst c4
  rw [if_neg (show ¬ (false = true) by decide)] at H
  simp only [Option.some.injEq, Prod.mk.injEq] at H
  obtain ⟨rfl, rfl⟩ := H
  go_enter Try.func48, Try.ntmps48
  go_wp2_with (first | ((with_reducible refine gate_dst (N := 2) rfl ?_); refine zbx 2 #[.slice A0_0 l0_0.length c0_0] 50 ?_; intro gb584 hg w31 hbox hb; replace HO0_0 := Aside0.mk (Kd.V_below (Kd.V_elderB (y10 HO0_0.out) gb584 (Nat.le_of_eq hg.symm)) hb); have BK584 := Aside0.mk hbox; have GW584 := Aside0.mk ((y9 hg HB.out : w.heap.size ≤ gb584)); have GE584 := Aside0.mk ((y9 hg HB.out : w.heap.size ≤ gb584)); replace HB := Aside0.mk (below_step (y5 HB.out) hb); clear hb hbox hg) | ((with_reducible refine gate_dst (N := 4) rfl ?_); refine zbx 4 #[.slice none 0 0] 50 ?_; intro gb585 hg w32 hbox hb; replace HO0_0 := Aside0.mk (Kd.V_below (Kd.V_elderB (y10 HO0_0.out) gb585 (Nat.le_of_eq hg.symm)) hb); have BK585 := Aside0.mk hbox; have GW585 := Aside0.mk ((y11 hg HB.out GE584.out : w.heap.size ≤ gb585)); have GE585 := Aside0.mk ((y11 hg HB.out GE584.out : w.heap.size ≤ gb585)); replace HB := Aside0.mk (below_step (y6 HB.out GE584.out) hb); have NB584_585 := zltn hg BK584; have NB585_584 := zgtn hg BK584; replace BK584 := zbb BK584 hb; clear hb hbox hg; have hnb33 := NB584_585.out; have hnc33 := NB585_584.out; have hcz34_0 := zh BK584; have hfz34_0 := zfr BK584 0) | ((with_reducible refine gate_callee (f := 53) rfl ?_); refine goesL_ (some 8) rfl rfl Try.func53 (by kernel_rfl) rfl #[.agg #[.slice A0_0 l0_0.length c0_0]] rfl y8 ?_; (with_reducible refine (spec_TypeOk.calls k _ _ l0_0 false _ ?side1 ?side2 A3.out).mono ?_); (case side1 => exact y35 HO0_0.out); (case side2 => exact (Kd.V_reads' HO0_0.out).2.1); rintro e w35 ⟨rfl, hb⟩; refine ⟨_, rfl, ?_⟩; replace HO0_0 := Aside0.mk (Kd.V_below (y10 HO0_0.out) hb); replace BK584 := zbb BK584 hb; replace BK585 := zbb BK585 hb; replace HB := Aside0.mk (below_step (y2 HB.out GE584.out GE585.out) hb); (try clear hb); (try clear hb2); (try clear hk); (try clear hi); have hcz36_0 := zh BK585; have hfz36_0 := zfr BK585 0))
  refine bodyPost_ret (results_ct rfl _ _ gb585 50 #[.slice none 0 0] (0, 0) _ rfl (by (with_reducible repeat (first | refine blk_drewN ?_ _ | refine blk_drew ?_ | refine blk_alloc ?_ _)); apply blk_put (i := 0); (case h => exact y0 BK585.out); (case e => rfl)) Try.underlying50 rfl (by kernel_rfl)) rfl ?_
  exact ⟨_, y19, y37, (y2 HB.out GE584.out GE585.out)⟩
end Go.Proofs.Ythfflieeifakdaa.PA
end
section
namespace Go.Proofs.Ythfflieeifakdaa.Paths
open Go.RowKit Go.Proofs.Ythfflieeifakdaa.PA Go.Proofs.YthfflieeifakdaaW.PrintWords Go.Proofs.YthfflieeifakdaaW.PrintLast Go.Proofs.Ythfflieeifakdaa.Draw Go.Proofs.Ythfflieeifakdaa.Types
def pf : List Int → Ty → Option Ty
  | [], t => some t
  | i :: r, [a, b] => if i = 0 then pf r a.f0 else if i = 1 then pf r b.f0 else none
  | _ :: _, _ => none
theorem pf_nil (t : Ty) : pf [] t = some t := by cases t <;> rfl
theorem pf_two (i : Int) (r : List Int) (a b : S50) : pf (i :: r) [a, b] = if i = 0 then pf r a.f0 else if i = 1 then pf r b.f0 else none := rfl
theorem pf_odd (i : Int) (r : List Int) (t : Ty) (h : t.length ≠ 2) : pf (i :: r) t = none := by
  match t with
  | [] => rfl
  | [_] => rfl
  | [_, _] => simp at h
  | _ :: _ :: _ :: _ => rfl
theorem pf_app (p q : List Int) : ∀ t, pf (p ++ q) t = (pf p t).bind (pf q) := by
  induction p with
  | nil => intro t; rw [List.nil_append, pf_nil]; rfl
  | cons i r ih =>
    intro t
    by_cases h : t.length = 2
    · obtain ⟨a, b, rfl⟩ := two_of h
      rw [List.cons_append, pf_two, pf_two]
      split
      · exact ih _
      · split
        · exact ih _
        · rfl
    · rw [List.cons_append, pf_odd _ _ _ h, pf_odd _ _ _ h]; rfl
theorem dp_succ : ∀ (n : Nat) (t : Ty), dp n t = true → dp (n + 1) t = true := by
  intro n
  induction n with
  | zero => intro t h; simp [dp] at h
  | succ n ih =>
    intro t h
    rcases Types.shape t with rfl | ⟨a, b, rfl⟩ | ⟨h0, h2⟩
    · rfl
    · rw [dp_two, Bool.and_eq_true] at h ⊢
      exact ⟨ih _ h.1, ih _ h.2⟩
    · rw [dp_odd _ _ h0 h2] at h; cases h
theorem dp_pf (n : Nat) : ∀ (p : List Int) (t u : Ty), dp n t = true → pf p t = some u → dp n u = true := by
  intro p
  induction p with
  | nil => intro t u h e; rw [pf_nil] at e; cases e; exact h
  | cons i r ih =>
    intro t u h e
    by_cases h2 : t.length = 2
    · obtain ⟨a, b, rfl⟩ := two_of h2
      cases n with
      | zero => simp [dp] at h
      | succ n =>
        rw [dp_two, Bool.and_eq_true] at h
        rw [pf_two] at e
        split at e
        · exact ih _ _ (dp_succ _ _ h.1) e
        · split at e
          · exact ih _ _ (dp_succ _ _ h.2) e
          · cases e
    · rw [pf_odd _ _ _ h2] at e; cases e
theorem rd_mid (pre r : List Int) (i : Int) : rd (pre ++ i :: r) (pre.length : Int) = i := by
  unfold rd
  rw [Int.toNat_natCast, List.getD_eq_getElem?_getD, List.getElem?_append_right (Nat.le_refl _)]
  simp
def at_ (o : Option Ty) : Ty × Bool := match o with | some u => (u, true) | none => ([], false)
theorem specCopy_ev : ∀ (n : Nat) (t : Ty) (k : Nat), dp n t = true → 4 * n ≤ k → spec_l1Copy.f k t = some t := by
  intro n
  induction n with
  | zero => intro t k h; simp [dp] at h
  | succ n ih =>
    intro t k h hk
    obtain ⟨k, rfl⟩ : ∃ m, k = m + 4 := ⟨k - 4, by omega⟩
    simp only [spec_l1Copy.f]
    rcases Types.shape t with rfl | ⟨a, b, rfl⟩ | ⟨h0, h2⟩
    · simp only [spec_l1Copy.l0]; rw [if_neg (by simp)]
    · rw [dp_two, Bool.and_eq_true] at h
      simp only [spec_l1Copy.l0, w01, w12]
      rw [if_pos (by simp), if_pos (by omega), rd0, ih _ _ h.1 (by omega)]; simp only [Option.bind_some]
      rw [if_pos (by simp), if_pos (by simp), if_pos (by omega), rd1, ih _ _ h.2 (by omega)]; simp only [Option.bind_some]
      rw [if_pos (by simp), if_neg (by simp)]
      cases a; cases b; rfl
    · rw [dp_odd _ _ h0 h2] at h; cases h
def tat (t : Ty) (p : List Int) : Ty × Bool := if dp 4 t = true then at_ (pf p t) else ([], false)
theorem specLoop_ev (n : Nat) : ∀ (r pre : List Int) (t : Ty) (k : Nat), dp n t = true → pre.length + r.length ≤ 4611686018427387904 → r.length + 4 * n + 1 ≤ k →
    spec_TypeAt.l0 k (pre ++ r) (pre.length : Int) t = some (at_ (pf r t)) := by
  intro r
  induction r with
  | nil =>
    intro pre t k d h1 hk
    obtain ⟨k, rfl⟩ : ∃ m, k = m + 1 := ⟨k - 1, by omega⟩
    simp only [List.length_nil] at hk
    simp only [spec_TypeAt.l0]
    rw [if_neg (by simp), specCopy_ev n t k d (by omega), pf_nil]; rfl
  | cons i r ih =>
    intro pre t k d h1 hk
    simp only [List.length_cons] at h1 hk
    obtain ⟨k, rfl⟩ : ∃ m, k = m + 1 := ⟨k - 1, by omega⟩
    simp only [spec_TypeAt.l0, spec_l6In.f]
    have hl : ((pre ++ i :: r).length : Int) = pre.length + 1 + r.length := by simp; omega
    rw [if_pos (by omega), if_pos (by omega), rd_mid]
    rcases Types.shape t with rfl | ⟨a, b, rfl⟩ | ⟨h0, h2⟩
    · rw [pf_odd _ _ _ (by simp), show wrap64 ((([] : Ty).length : Int) - 1) = -1 from w64 (by simp) (by simp)]
      by_cases hn : i ≥ 0
      · rw [if_pos hn]; simp only [Option.bind_some]; rw [if_neg (by simp; omega)]; rfl
      · rw [if_neg hn]; rfl
    · rw [pf_two, show wrap64 ((([a, b] : Ty).length : Int) - 1) = 1 from w64 (by simp) (by simp)]
      cases n with
      | zero => simp [dp] at d
      | succ n =>
        rw [dp_two, Bool.and_eq_true] at d
        by_cases hn : i ≥ 0
        · rw [if_pos hn]; simp only [Option.bind_some]
          by_cases hb : i ≤ 1
          · rw [if_pos (by simpa using hb), if_pos (by omega), if_pos (by simp; omega), w64 (by omega) (by omega)]
            have ea : pre ++ i :: r = (pre ++ [i]) ++ r := by simp
            have el : (pre.length : Int) + 1 = ((pre ++ [i]).length : Int) := by simp
            rw [el, ea]
            by_cases h0 : i = 0
            · rw [if_pos h0, h0, rd0, ih _ _ _ (dp_succ _ _ d.1) (by simp; omega) (by omega)]
            · rw [if_neg h0, if_pos (by omega), show i = 1 by omega, rd1, ih _ _ _ (dp_succ _ _ d.2) (by simp; omega) (by omega)]
          · rw [if_neg (by simpa using hb), if_neg (by omega), if_neg (by omega)]; rfl
        · rw [if_neg hn, if_neg (show ¬ i = 0 by omega), if_neg (show ¬ i = 1 by omega)]; rfl
    · rw [dp_odd _ _ h0 h2] at d; cases d
theorem specTypeAt_ev (t : Ty) (p : List Int) (k : Nat) (h : p.length ≤ 4611686018427387904) (hk : p.length + 30 ≤ k) : spec_TypeAt.f k t p = some (tat t p) := by
  unfold spec_TypeAt.f tat
  rw [specOk_ev t k (by omega)]; simp only [Option.bind_some]
  by_cases d : dp 4 t = true
  · rw [if_pos d, if_pos d]
    have := specLoop_ev 4 p [] t k d (by simpa using h) (by omega)
    simpa using this
  · rw [if_neg d, if_neg d]
theorem tat_ok (t : Ty) (p : List Int) : dp 4 (tat t p).1 = true := by
  unfold tat
  split
  · rename_i d
    cases e : pf p t with
    | none => rfl
    | some u => exact dp_pf 4 _ _ _ d e
  · rfl
theorem rdT_dph (d : Nat) (t : Ty) (h : Dph (d + 1) t) (i : Int) : Dph d (rd_T50 t i).f0 := by
  unfold rd_T50
  rw [List.getD_eq_getElem?_getD]
  cases e : t[i.toNat]? with
  | none => exact dph_nil d
  | some x => exact h x (List.mem_of_getElem? e)
theorem pathLoop_ev (s : List Int) (hs : Bytes s) : ∀ (d : Nat) (t : Ty), d ≤ 1000 → Dph d t → ∀ (p : Int) (pre : List Int), 0 ≤ p → p + 2 * d + 3 ≤ 1099511627776 → pre.length + d ≤ 1000 →
    ∃ r u q, (∀ k, d + 3 ≤ k → spec_l71Path.l0 k pre s p t = some (r, u, q)) ∧ p ≤ q ∧ q ≤ p + 2 * d + 1 ∧ r.length ≤ pre.length + d := by
  intro d
  induction d with
  | zero =>
    intro t _ h p pre hp hp1 hl
    rw [show t = [] from h]
    refine ⟨pre, [], p, fun k hk => ?_, by omega, by omega, by omega⟩
    obtain ⟨k, rfl⟩ : ∃ m, k = m + 1 := ⟨k - 1, by omega⟩
    simp only [spec_l71Path.l0]
    rw [if_neg (by simp)]
  | succ d ih =>
    intro t hd h p pre hp hp1 hl
    by_cases h0 : (t.length : Int) > 0
    · obtain ⟨c, hc, c0, c1⟩ := pick_ev s hs p 3 hp (by omega) (by omega)
      by_cases hcp : c > 0
      · obtain ⟨i, hi, i0, i1⟩ := pick_ev s hs (p + 1) (t.length : Int) (by omega) (by omega) (by omega)
        obtain ⟨r, u, q, hr, hq, hq2, hrl⟩ := ih (rd_T50 t i).f0 (by omega) (rdT_dph _ _ h i) (p + 1 + 1) (pre ++ [i]) (by omega) (by omega) (by simp; omega)
        refine ⟨r, u, q, fun k hk => ?_, by omega, by omega, by simp at hrl; omega⟩
        obtain ⟨k, rfl⟩ : ∃ m, k = m + 1 := ⟨k - 1, by omega⟩
        simp only [spec_l71Path.l0]
        rw [if_pos h0, hc k (by omega)]; simp only [Option.bind_some]
        rw [if_pos hcp, hi k (by omega)]; simp only [Option.bind_some]
        rw [if_pos (by omega), if_pos i0, if_pos i1]
        exact hr k (by omega)
      · refine ⟨pre, t, p + 1, fun k hk => ?_, by omega, by omega, by omega⟩
        obtain ⟨k, rfl⟩ : ∃ m, k = m + 1 := ⟨k - 1, by omega⟩
        simp only [spec_l71Path.l0]
        rw [if_pos h0, hc k (by omega)]; simp only [Option.bind_some]
        rw [if_neg hcp]
    · refine ⟨pre, t, p, fun k hk => ?_, by omega, by omega, by omega⟩
      obtain ⟨k, rfl⟩ : ∃ m, k = m + 1 := ⟨k - 1, by omega⟩
      simp only [spec_l71Path.l0]
      rw [if_neg h0]
theorem any_ev (s : List Int) (hs : Bytes s) (d : Nat) (t : Ty) (hd : d ≤ 900) (h : Dph d t) (p : Int) (hp : 0 ≤ p) (hp1 : p ≤ 1099511620000) :
    ∃ r q, (∀ k, d + 4 ≤ k → spec_l71Any.f k s p t = some (r, q)) ∧ p ≤ q ∧ q ≤ p + 2 * d + 3 ∧ r.length ≤ d + 1 := by
  obtain ⟨r, u, q, hr, hq, hq2, hl⟩ := pathLoop_ev s hs d t (by omega) h p [] hp (by omega) (by simp; omega)
  simp only [List.length_nil] at hl
  obtain ⟨c, hc, c0, c1⟩ := pick_ev s hs q 6 (by omega) (by omega) (by omega)
  have hf : ∀ k, d + 4 ≤ k → spec_l71Path.f k s p t = some (r, u, q) := fun k hk => hr k (by omega)
  by_cases e : c = 0
  · obtain ⟨c', hc', _, _⟩ := pick_ev s hs (q + 1) 4 (by omega) (by omega) (by omega)
    refine ⟨r ++ [wrap64 (c' - 1)], q + 1 + 1, fun k hk => ?_, by omega, by omega, by simp; omega⟩
    unfold spec_l71Any.f
    rw [hf k hk]; simp only [Option.bind_some]
    rw [hc k (by omega)]; simp only [Option.bind_some]
    rw [if_pos e, hc' k (by omega)]; simp only [Option.bind_some]
    rw [if_pos (by omega)]
  · refine ⟨r, q + 1, fun k hk => ?_, by omega, by omega, by omega⟩
    unfold spec_l71Any.f
    rw [hf k hk]; simp only [Option.bind_some]
    rw [hc k (by omega)]; simp only [Option.bind_some]
    rw [if_neg e]
end Go.Proofs.Ythfflieeifakdaa.Paths
end
section
namespace Go.Proofs.Ythfflieeifakdaa.PA
open Go.RowKit Go.Proofs.YthfflieeifakdaaW.PrintWords Go.Proofs.YthfflieeifakdaaW.PrintLast Go.Proofs.YthfflieeifakdaaW.PrintMore
attribute [local go_sem] max2_int min2_int max_two min_two max_three min_three max_four min_four
set_option linter.unusedVariables false
set_option linter.unusedSimpArgs false
def spec_DrawValOk.f (k : Nat) (l0 : List Int) : Option ((List (S50)) × Int × (List (S25))) := (spec_l6Open.f l0).bind fun bt940 => ((spec_l6Rd_pick.f k bt940.1 bt940.2 4).bind fun bt943 => ((spec_l71Type.f k bt940.1 bt943.2 (wrap64 (1 + bt943.1))).bind fun bt945 => ((spec_l6Rd_pick.f k bt940.1 bt945.2 5).bind fun bt950 => (if bt950.1 = 0 then ((spec_l71Type.f k bt940.1 bt950.2 3).bind fun bt952 => ((spec_l71Bad.f k bt940.1 bt952.2 bt952.1).bind fun bt956 => (some (bt945.1, bt956.1, bt956.2.1)))) else ((spec_l71Bad.f k bt940.1 bt950.2 bt945.1).bind fun bt961 => (some (bt945.1, bt961.1, bt961.2.1)))))))
theorem spec_DrawValOk.mono : ∀ a0 k, LeO (spec_DrawValOk.f k a0) (spec_DrawValOk.f (k + 1) a0) := by
 intro a0 k
 unfold spec_DrawValOk.f
 repeat' first
   | (with_reducible exact spec_l6Rd_pick.mono _ _ _ _)
   | (with_reducible exact spec_l71Bad.mono _ _ _ _)
   | (with_reducible exact spec_l71Type.mono _ _ _ _)
   | (with_reducible exact LeO.refl _)
   | (with_reducible exact LeO.none _)
   | (with_reducible refine LeO.ite ?_ ?_)
   | (with_reducible refine LeO.bind ?_ (fun _ => ?_))
   | exact spec_l6Rd_pick.mono _ _ _ _
   | exact spec_l71Bad.mono _ _ _ _
   | exact spec_l71Type.mono _ _ _ _
   | exact LeO.none _
   | refine LeO.ite ?_ ?_
   | refine LeO.bind ?_ (fun _ => ?_)
set_option maxHeartbeats 8000000 in
set_option maxRecDepth 100000 in
theorem spec_DrawValOk.calls (k : Nat) (A0 : Option Addr) (c0 : Nat) (l0 : List Int) (r1 : List (S50)) (r2 : Int) (r3 : List (S25)) (w : World) (hr0 : Kd.C (Kd.int .u8) w A0 l0.length l0) (hc0 : l0.length ≤ c0) (h : spec_DrawValOk.f k l0 = some (r1, r2, r3)) :
  Calls Try.prog 27 #[.slice A0 l0.length c0] w fun e w' => ∃ v0_ v2_ : Value, e = .returned (.tuple #[.agg #[v0_], .agg #[.int .i64 r2, v2_]]) ∧ Kd.V k50 50 w' w.heap.size (fun k_ => (w.heap.size ≤ k_)) v0_ r1 ∧ Kd.V k25 25 w' w.heap.size (fun k_ => (w.heap.size ≤ k_)) v2_ r3 ∧ Below w.heap.size w w' := by
 have hu50 := Try.underlying50
 have hu25 := Try.underlying25
 have HR0 := Aside0.mk hr0
 have HC0 := Aside0.mk hc0
 clear hr0 hc0
 have HB := Aside0.mk (Below.refl w.heap.size w)
 have H : ((spec_l6Open.f l0).bind fun bt940 => ((spec_l6Rd_pick.f k bt940.1 bt940.2 4).bind fun bt943 => ((spec_l71Type.f k bt940.1 bt943.2 (wrap64 (1 + bt943.1))).bind fun bt945 => ((spec_l6Rd_pick.f k bt940.1 bt945.2 5).bind fun bt950 => (if bt950.1 = 0 then ((spec_l71Type.f k bt940.1 bt950.2 3).bind fun bt952 => ((spec_l71Bad.f k bt940.1 bt952.2 bt952.1).bind fun bt956 => (some (bt945.1, bt956.1, bt956.2.1)))) else ((spec_l71Bad.f k bt940.1 bt950.2 bt945.1).bind fun bt961 => (some (bt945.1, bt961.1, bt961.2.1)))))))) = some (r1, r2, r3) := h
 clear h
 obtain ⟨⟨t940, t941⟩, A20, H⟩ := ob H
 have A2 := Aside0.mk A20
 clear A20
 obtain ⟨⟨t943, t944⟩, A30, H⟩ := ob H
 have A3 := Aside0.mk A30
 clear A30
 obtain ⟨⟨t945, t948⟩, A40, H⟩ := ob H
 have A4 := Aside0.mk A40
 clear A40
 obtain ⟨⟨t950, t951⟩, A50, H⟩ := ob H
 have A5 := Aside0.mk A50
 clear A50
 by_cases c6 : t950 = 0
 ·rw [if_pos c6] at H
  have c6b0 : (t950 == 0) = true := beq_iff_eq.mpr c6
  have c6b1 : (t950 != 0) = false := bne_eq_false_iff_eq.mpr c6
  clear c6
  obtain ⟨⟨t952, t955⟩, A70, H⟩ := ob H
  have A7 := Aside0.mk A70
  clear A70
  obtain ⟨⟨t956, t957, t960⟩, A80, H⟩ := ob H
  have A8 := Aside0.mk A80
  clear A80
  simp only [Option.some.injEq, Prod.mk.injEq] at H
  obtain ⟨rfl, rfl, rfl⟩ := H
  go_enter Try.func27, Try.ntmps27
  try go_wp2_with (first | ((with_reducible refine gate_dst (N := 2) rfl ?_); refine zbx 2 #[.slice none 0 0] 50 ?_; intro gb938 hg w9 hbox hb; have BK938 := Aside0.mk hbox; have GW938 := Aside0.mk ((y9 hg HB.out : w.heap.size ≤ gb938)); have GE938 := Aside0.mk ((y9 hg HB.out : w.heap.size ≤ gb938)); replace HB := Aside0.mk (below_step (y5 HB.out) hb); clear hb hbox hg) | ((with_reducible refine gate_dst (N := 3) rfl ?_); refine zbx 3 #[.int .i64 0, .slice none 0 0] 25 ?_; intro gb939 hg w10 hbox hb; have BK939 := Aside0.mk hbox; have GW939 := Aside0.mk ((y11 hg HB.out GE938.out : w.heap.size ≤ gb939)); have GE939 := Aside0.mk ((y11 hg HB.out GE938.out : w.heap.size ≤ gb939)); replace HB := Aside0.mk (below_step (y6 HB.out GE938.out) hb); have NB938_939 := zltn hg BK938; have NB939_938 := zgtn hg BK938; replace BK938 := zbb BK938 hb; clear hb hbox hg) | ((with_reducible refine gate_callee (f := 30) rfl ?_); refine goesL_ (some 7) rfl rfl Try.func30 (by kernel_rfl) rfl #[.slice A0 l0.length c0] rfl y8 ?_; (with_reducible refine (spec_l6Open.calls _ _ l0 t940 t941 w _ ?side1 ?side2 ?side3 A2.out).mono ?_); (case side1 => exact y2 HB.out GE938.out GE939.out); (case side2 => exact HR0.out); (case side3 => exact HC0.out); rintro e w11 ⟨g942, rfl, hi, hb, hb2⟩; refine ⟨_, rfl, ?_⟩; replace HB := Aside0.mk (hb); have HI942 := Aside0.mk (hi); have NB942_938 := Aside0.mk (IsS75.ne_blk hi (blk_below (g := gb938) (o := .cells #[.slice none 0 0] 50 (0, 0)) (y0 BK938.out) hb2) (by decide)); have NB938_942 := Aside0.mk (Ne.symm (IsS75.ne_blk hi (blk_below (g := gb938) (o := .cells #[.slice none 0 0] 50 (0, 0)) (y0 BK938.out) hb2) (by decide))); replace BK938 := Aside0.mk (blk_below (g := gb938) (o := .cells #[.slice none 0 0] 50 (0, 0)) (y0 BK938.out) hb2); have NB942_939 := Aside0.mk (IsS75.ne_blk hi (blk_below (g := gb939) (o := .cells #[.int .i64 0, .slice none 0 0] 25 (0, 0)) (y0 BK939.out) hb2) (by decide)); have NB939_942 := Aside0.mk (Ne.symm (IsS75.ne_blk hi (blk_below (g := gb939) (o := .cells #[.int .i64 0, .slice none 0 0] 25 (0, 0)) (y0 BK939.out) hb2) (by decide))); replace BK939 := Aside0.mk (blk_below (g := gb939) (o := .cells #[.int .i64 0, .slice none 0 0] 25 (0, 0)) (y0 BK939.out) hb2); (try clear hb); (try clear hb2); (try clear hk); (try clear hi)) | ((with_reducible refine gate_callee (f := 32) rfl ?_); refine goesL_ (some 10) rfl rfl Try.func32 (by kernel_rfl) rfl #[.pointer (some ⟨g942, 0, none⟩), .int .i64 4] rfl y8 ?_; (with_reducible refine (spec_l6Rd_pick.calls k g942 t940 t941 4 t943 t944 w _ ?side1 ?side2 A3.out).mono ?_); (case side1 => exact y21 HI942.out NB942_938.out NB942_939.out); (case side2 => exact y17 HB.out HI942.out GE938.out GE939.out); rintro e w12 ⟨rfl, hi, hb, hk⟩; refine ⟨_, rfl, ?_⟩; replace BK938 := Aside0.mk (KeepBut.blk hk (g' := gb938) (o := .cells #[.slice none 0 0] 50 (0, 0)) (y0 BK938.out) NB938_942.out (by simp)); replace BK939 := Aside0.mk (KeepBut.blk hk (g' := gb939) (o := .cells #[.int .i64 0, .slice none 0 0] 25 (0, 0)) (y0 BK939.out) NB939_942.out (by simp)); replace HB := Aside0.mk (hb); replace HI942 := Aside0.mk (hi); (try clear hb); (try clear hb2); (try clear hk); (try clear hi)) | ((with_reducible refine gate_callee (f := 31) rfl ?_); refine goesL_ (some 12) rfl rfl Try.func31 (by kernel_rfl) rfl #[.pointer (some ⟨g942, 0, none⟩), .int .i64 (wrap64 (1 + t943))] rfl y8 ?_; (with_reducible refine (spec_l71Type.calls k g942 t940 t944 (wrap64 (1 + t943)) t945 t948 w _ ?side1 ?side2 A4.out).mono ?_); (case side1 => exact y21 HI942.out NB942_938.out NB942_939.out); (case side2 => exact y17 HB.out HI942.out GE938.out GE939.out); rintro e w13 ⟨v946, rfl, ho0, hi, hb, hk⟩; refine ⟨_, rfl, ?_⟩; have HO947 := Aside0.mk (Kd.N_lower (Kd.N_mono (ok' := fun k_ => (w.heap.size ≤ k_) ∧ k_ ≠ gb938 ∧ k_ ≠ gb939 ∧ k_ ≠ g942) ho0 (fun k_ hk_ => ⟨(Nat.le_trans (below_size (y17 HB.out HI942.out GE938.out GE939.out)) hk_), (Kd.freshB (g := gb938) (o := .cells #[.slice none 0 0] 50 (0, 0)) (y0 BK938.out) k_ hk_), (Kd.freshB (g := gb939) (o := .cells #[.int .i64 0, .slice none 0 0] 25 (0, 0)) (y0 BK939.out) k_ hk_), (IsS75.fresh (y21 HI942.out NB942_938.out NB942_939.out) k_ hk_)⟩)) (below_size (y17 HB.out HI942.out GE938.out GE939.out))); replace BK938 := Aside0.mk (KeepBut.blk hk (g' := gb938) (o := .cells #[.slice none 0 0] 50 (0, 0)) (y0 BK938.out) NB938_942.out (by simp)); replace BK939 := Aside0.mk (KeepBut.blk hk (g' := gb939) (o := .cells #[.int .i64 0, .slice none 0 0] 25 (0, 0)) (y0 BK939.out) NB939_942.out (by simp)); replace HB := Aside0.mk (hb); replace HI942 := Aside0.mk (hi); (try clear hb); (try clear hb2); (try clear hk); (try clear hi); (try clear ho0)) | ((with_reducible refine gate_dst (N := 5) rfl ?_); refine zbx 5 #[.slice none 0 0] 50 ?_; intro gb949 hg w14 hbox hb; replace HO947 := Aside0.mk (Kd.N_below (Kd.N_elderB (y3 HO947.out) gb949 (Nat.le_of_eq hg.symm)) hb); have BK949 := Aside0.mk hbox; have GW949 := Aside0.mk ((y45 hg HB.out HI942.out GE938.out GE939.out : w.heap.size ≤ gb949)); have GE949 := Aside0.mk ((y45 hg HB.out HI942.out GE938.out GE939.out : w.heap.size ≤ gb949)); replace HB := Aside0.mk (below_step (y17 HB.out HI942.out GE938.out GE939.out) hb); have NB938_949 := zltn hg BK938; have NB949_938 := zgtn hg BK938; replace BK938 := zbb BK938 hb; have NB939_949 := zltn hg BK939; have NB949_939 := zgtn hg BK939; replace BK939 := zbb BK939 hb; have NB942_949 := Aside0.mk ((by rw [hg]; exact Nat.ne_of_lt (IsS75.lt (show IsS75 w _ g942 t940 t948 from by repeat (first | (with_reducible first | exact HI942.out | apply IsS75.alloc | apply IsS75.drewN | apply IsS75.drew | apply IsS75.set_1 | refine IsS75.far ?_ NB942_938.out _ | refine IsS75.far ?_ NB942_939.out _) | exact HI942.out))) : g942 ≠ gb949)); have NB949_942 := Aside0.mk ((by rw [hg]; exact Nat.ne_of_gt (IsS75.lt (show IsS75 w _ g942 t940 t948 from by repeat (first | (with_reducible first | exact HI942.out | apply IsS75.alloc | apply IsS75.drewN | apply IsS75.drew | apply IsS75.set_1 | refine IsS75.far ?_ NB942_938.out _ | refine IsS75.far ?_ NB942_939.out _) | exact HI942.out))) : gb949 ≠ g942)); replace HI942 := Aside0.mk (IsS75.below (y21 HI942.out NB942_938.out NB942_939.out) hb); clear hb hbox hg; obtain ⟨Ao15, co15, eo15⟩ := Kd.N_slice HO947.out; subst eo15; have hnb16 := NB949_938.out; have hnc16 := NB938_949.out; have hnb17 := NB949_939.out; have hnc17 := NB939_949.out; have hnb18 := NB949_942.out; have hnc18 := NB942_949.out; have hcz19_0 := zh BK949; have hfz19_0 := zfr BK949 0) | ((with_reducible refine gate_callee (f := 32) rfl ?_); refine goesL_ (some 14) rfl rfl Try.func32 (by kernel_rfl) rfl #[.pointer (some ⟨g942, 0, none⟩), .int .i64 5] rfl y8 ?_; (with_reducible refine (spec_l6Rd_pick.calls k g942 t940 t948 5 t950 t951 w _ ?side1 ?side2 A5.out).mono ?_); (case side1 => exact y26 HI942.out NB942_938.out NB942_939.out NB942_949.out); (case side2 => exact y24 HB.out HI942.out GE938.out GE939.out GE949.out); rintro e w20 ⟨rfl, hi, hb, hk⟩; refine ⟨_, rfl, ?_⟩; replace BK938 := Aside0.mk (KeepBut.blk hk (g' := gb938) (o := .cells #[.slice none 0 0] 50 (0, 0)) (y13 NB938_949.out BK938.out) NB938_942.out (by simp)); replace BK939 := Aside0.mk (KeepBut.blk hk (g' := gb939) (o := .cells #[.int .i64 0, .slice none 0 0] 25 (0, 0)) (y13 NB939_949.out BK939.out) NB939_942.out (by simp)); replace HO947 := Aside0.mk (Kd.N_mono (Kd.N_keep (Kd.N_mono (ok := fun k_ => ((((w.heap.size ≤ k_)) ∧ (k_ ≠ gb938 ∧ (k_ ≠ gb939 ∧ k_ ≠ g942))) ∧ k_ ≠ gb949)) (by (with_reducible repeat (first | apply Kd.N_alloc | apply Kd.N_drewN | apply Kd.N_drew)); exact (Kd.N_mono (Kd.N_far (p := ⟨gb949, 0, none⟩) (Kd.N_mono HO947.out (fun k_ hk => (⟨hk, hk.2⟩ : _ ∧ k_ ≠ gb949))) (fun _ hk => hk.2) (.slice Ao15 t945.length co15)) (fun _ h_ => h_.1))) (fun k_ hk_ => (⟨hk_, hk_.1.2.2.2⟩ : _ ∧ k_ ≠ g942))) hk (fun _ h => h.2)) (fun _ h => h.1)); replace BK949 := Aside0.mk (KeepBut.blk hk (g' := gb949) (o := .cells #[.slice Ao15 t945.length co15] 50 (0, 0)) (by (with_reducible repeat (first | refine blk_drewN ?_ _ | refine blk_drew ?_ | refine blk_alloc ?_ _)); apply blk_put (i := 0); (case h => exact y0 BK949.out); (case e => rfl)) NB949_942.out (by simp)); replace HB := Aside0.mk (hb); replace HI942 := Aside0.mk (hi); (try clear hb); (try clear hb2); (try clear hk); (try clear hi)))
  replace HO947 := Aside0.mk (Kd.N_drew HO947.out)
  replace BK938 := Aside0.mk (blk_drew BK938.out)
  replace BK939 := Aside0.mk (blk_drew BK939.out)
  replace BK949 := Aside0.mk (blk_drew BK949.out)
  replace HI942 := Aside0.mk (IsS75.drew HI942.out)
  replace HB := Aside0.mk (below_drew1 HB.out)
  refine start_ (n := 7) (S := fun w' => w'.cell? ⟨gb949, 0, none⟩ = some (.slice Ao15 t945.length co15)) (ds := []) #[false, false, false, false, false, false, false] (by kernel_rfl) rfl rfl ((blk_cell BK949.out 0).trans rfl) (fun hHeld => ?_)
  generalize w20.drew = w21 at HO947 BK938 BK939 BK949 HI942 HB hHeld ⊢
  refine pure_ (i := 1) (N := some 17) (v := ?_) (a' := ?_) #[false, true, false, false, false, false, false] rfl rfl (by kernel_rfl) (fun _ _ _ h => h) (Or.inl ⟨(by rfl), ?_⟩) ?_ ?_
  rotate_left
  ·intro w'
   go_simp
   with_reducible rfl
  rotate_left
  ·simp only [Act.put, List.setIfInBounds_toArray, List.set_cons_zero, List.set_cons_succ, i64_w, i32_w]
   rfl
  refine pure_ (i := 2) (N := some 18) (v := ?_) (a' := ?_) #[false, true, true, false, false, false, false] rfl rfl (by kernel_rfl) (fun _ _ _ h => h) (Or.inl ⟨(by rfl), ?_⟩) ?_ ?_
  rotate_left
  ·intro w'
   go_simp
   with_reducible rfl
  rotate_left
  ·simp only [Act.put, List.setIfInBounds_toArray, List.set_cons_zero, List.set_cons_succ, i64_w, i32_w]
   rfl
  refine take_ (i := 0) (N := some 16) (v := ?_) (a' := ?_) #[true, true, true, false, false, false, false] rfl rfl (by kernel_rfl) (fun _ _ _ h => h) (Or.inl ⟨(by rfl), ?_⟩) hHeld ?_ ?_
  rotate_left
  ·intro w' s0
   go_simp
   with_reducible rfl
  rotate_left
  ·simp only [Act.put, List.setIfInBounds_toArray, List.set_cons_zero, List.set_cons_succ, i64_w, i32_w]
   rfl
  refine one_ (i := 3) (N := some 19) #[true, true, true, true, false, false, false] rfl rfl (by kernel_rfl) (by decide) (fun K hK => ?_)
  refine goes_ Try.func31 (by kernel_rfl) rfl #[.pointer (some ⟨g942, 0, none⟩), .int .i64 3] (by rfl) rfl rfl y8 ?_
  with_reducible refine (spec_l71Type.calls k g942 t940 t951 3 t952 t955 w _ ?side1 ?side2 A7.out).mono ?_
  (case side1 => exact y26 HI942.out NB942_938.out NB942_939.out NB942_949.out)
  (case side2 => exact y24 HB.out HI942.out GE938.out GE939.out GE949.out)
  rintro e w22 ⟨v953, rfl, ho0, hi, hb, hk⟩
  refine ⟨_, rfl, ?_⟩
  have HO954 := Aside0.mk (Kd.N_lower (Kd.N_mono (ok' := fun k_ => (w.heap.size ≤ k_) ∧ some k_ ≠ (.slice Ao15 t945.length co15 : Value).ownBlock ∧ k_ ≠ gb938 ∧ k_ ≠ gb939 ∧ k_ ≠ gb949 ∧ k_ ≠ g942) ho0 (fun k_ hk_ => ⟨(Nat.le_trans (below_size (y24 HB.out HI942.out GE938.out GE939.out GE949.out)) hk_), (Kd.fresh' (Kd.N_lt (y3 HO947.out)) k_ hk_), (Kd.freshB (g := gb938) (o := .cells #[.slice none 0 0] 50 (0, 0)) (y0 BK938.out) k_ hk_), (Kd.freshB (g := gb939) (o := .cells #[.int .i64 0, .slice none 0 0] 25 (0, 0)) (y0 BK939.out) k_ hk_), (Kd.freshB (g := gb949) (o := .cells #[.slice Ao15 t945.length co15] 50 (0, 0)) (y0 BK949.out) k_ hk_), (IsS75.fresh (y26 HI942.out NB942_938.out NB942_939.out NB942_949.out) k_ hk_)⟩)) (below_size (y24 HB.out HI942.out GE938.out GE939.out GE949.out)))
  replace BK938 := Aside0.mk (KeepBut.blk hk (g' := gb938) (o := .cells #[.slice none 0 0] 50 (0, 0)) (y0 BK938.out) NB938_942.out (by simp))
  replace BK939 := Aside0.mk (KeepBut.blk hk (g' := gb939) (o := .cells #[.int .i64 0, .slice none 0 0] 25 (0, 0)) (y0 BK939.out) NB939_942.out (by simp))
  replace HO947 := Aside0.mk (Kd.N_mono (Kd.N_told (Kd.N_oldK (Kd.N_mono (ok := fun k_ => ((((w.heap.size ≤ k_)) ∧ (k_ ≠ gb938 ∧ (k_ ≠ gb939 ∧ k_ ≠ g942))) ∧ k_ ≠ gb949)) (y3 HO947.out) (fun k_ hk_ => (⟨hk_, hk_.1.2.2.2⟩ : _ ∧ k_ ≠ g942))) hk) (Kd.N_base ho0)) (fun _ h_ => h_.1))
  replace BK949 := Aside0.mk (KeepBut.blk hk (g' := gb949) (o := .cells #[.slice Ao15 t945.length co15] 50 (0, 0)) (y0 BK949.out) NB949_942.out (by simp))
  replace HB := Aside0.mk (hb)
  replace HI942 := Aside0.mk (hi)
  (try clear hb)
  (try clear hb2)
  (try clear hk)
  (try clear hi)
  (try clear ho0)
  obtain ⟨Ao23, co23, eo23⟩ := Kd.N_slice HO954.out
  (first | subst eo23 | (injection eo23 with f1_ f2_ f3_; have f4_ := f1_.symm; have f5_ := f3_.symm; clear f1_ f2_ f3_; subst f4_; subst f5_))
  refine hK.out _ _ ((blk_cell BK949.out 0).trans rfl) (fun hHeld => ?_)
  clear hK K
  refine norm_ (a' := ?_) ?_ ?_
  rotate_left
  ·show Act.put _ (some 19) _ = _
   simp only [Act.put, List.setIfInBounds_toArray, List.set_cons_zero, List.set_cons_succ, i64_w, i32_w]
   rfl
  refine one_ (i := 4) (N := some 20) #[true, true, true, true, true, false, false] rfl rfl (by kernel_rfl) (by decide) (fun K hK => ?_)
  refine goes_ Try.func33 (by kernel_rfl) rfl #[.pointer (some ⟨g942, 0, none⟩), .agg #[.slice Ao23 t952.length co23]] (by rfl) rfl rfl y8 ?_
  with_reducible refine (spec_l71Bad.calls k g942 t940 t955 (fun k_ => ((w.heap.size ≤ k_) ∧ (some k_ ≠ (.slice Ao15 t945.length co15 : Value).ownBlock ∧ (k_ ≠ gb938 ∧ (k_ ≠ gb939 ∧ (k_ ≠ gb949 ∧ k_ ≠ g942)))))) _ _ t952 t956 t957 t960 w _ ?side1 ?side2 ?side3 A8.out).mono ?_
  (case side1 => exact y26 HI942.out NB942_938.out NB942_939.out NB942_949.out)
  (case side2 => exact y24 HB.out HI942.out GE938.out GE939.out GE949.out)
  (case side3 => exact Kd.V_mono (Kd.N_V (HO954.out)) (fun k_ hk_ => ⟨hk_, hk_.2.2.2.2.2⟩))
  rintro e w24 ⟨v958, rfl, ho0, hi, hb, hk⟩
  refine ⟨_, rfl, ?_⟩
  replace HO954 := Aside0.mk (Kd.N_mono (Kd.N_told (Kd.N_oldK (Kd.N_mono (ok := fun k_ => (((w.heap.size ≤ k_)) ∧ (some k_ ≠ (.slice Ao15 t945.length co15 : Value).ownBlock ∧ (k_ ≠ gb938 ∧ (k_ ≠ gb939 ∧ (k_ ≠ gb949 ∧ k_ ≠ g942)))))) (y3 HO954.out) (fun k_ hk_ => (⟨hk_, hk_.2.2.2.2.2⟩ : _ ∧ k_ ≠ g942))) hk) (Kd.N_base ho0)) (fun _ h_ => h_.1))
  have HO959 := Aside0.mk (Kd.N_lower (Kd.N_mono (ok' := fun k_ => (w.heap.size ≤ k_) ∧ some k_ ≠ (.slice Ao15 t945.length co15 : Value).ownBlock ∧ k_ ≠ gb938 ∧ k_ ≠ gb939 ∧ k_ ≠ gb949 ∧ k_ ≠ g942) ho0 (fun k_ hk_ => ⟨Or.elim hk_ (fun hs_ => hs_.1) (fun hn_ => (Nat.le_trans (below_size (y24 HB.out HI942.out GE938.out GE939.out GE949.out)) hn_)), Or.elim hk_ (fun hs_ => hs_.2.1) (fun hn_ => (Kd.fresh' (Kd.N_lt (y3 HO947.out)) k_ hn_)), Or.elim hk_ (fun hs_ => hs_.2.2.1) (fun hn_ => (Kd.freshB (g := gb938) (o := .cells #[.slice none 0 0] 50 (0, 0)) (y0 BK938.out) k_ hn_)), Or.elim hk_ (fun hs_ => hs_.2.2.2.1) (fun hn_ => (Kd.freshB (g := gb939) (o := .cells #[.int .i64 0, .slice none 0 0] 25 (0, 0)) (y0 BK939.out) k_ hn_)), Or.elim hk_ (fun hs_ => hs_.2.2.2.2.1) (fun hn_ => (Kd.freshB (g := gb949) (o := .cells #[.slice Ao15 t945.length co15] 50 (0, 0)) (y0 BK949.out) k_ hn_)), Or.elim hk_ (fun hs_ => hs_.2.2.2.2.2) (fun hn_ => (IsS75.fresh (y26 HI942.out NB942_938.out NB942_939.out NB942_949.out) k_ hn_))⟩)) (below_size (y24 HB.out HI942.out GE938.out GE939.out GE949.out)))
  replace BK938 := Aside0.mk (KeepBut.blk hk (g' := gb938) (o := .cells #[.slice none 0 0] 50 (0, 0)) (y0 BK938.out) NB938_942.out (by simp))
  replace BK939 := Aside0.mk (KeepBut.blk hk (g' := gb939) (o := .cells #[.int .i64 0, .slice none 0 0] 25 (0, 0)) (y0 BK939.out) NB939_942.out (by simp))
  replace HO947 := Aside0.mk (Kd.N_mono (Kd.N_told (Kd.N_oldK (Kd.N_mono (ok := fun k_ => (((((w.heap.size ≤ k_)) ∧ (k_ ≠ gb938 ∧ (k_ ≠ gb939 ∧ k_ ≠ g942))) ∧ k_ ≠ gb949) ∧ some k_ ≠ (.slice Ao23 t952.length co23 : Value).ownBlock)) (y3 HO947.out) (fun k_ hk_ => (⟨hk_, hk_.1.1.2.2.2⟩ : _ ∧ k_ ≠ g942))) hk) (Kd.N_base ho0)) (fun _ h_ => h_.1))
  replace BK949 := Aside0.mk (KeepBut.blk hk (g' := gb949) (o := .cells #[.slice Ao15 t945.length co15] 50 (0, 0)) (y0 BK949.out) NB949_942.out (by simp))
  replace HB := Aside0.mk (hb)
  replace HI942 := Aside0.mk (hi)
  (try clear hb)
  (try clear hb2)
  (try clear hk)
  (try clear hi)
  (try clear ho0)
  obtain ⟨Ao27, co27, eo27⟩ := Kd.N_slice HO959.out
  (first | subst eo27 | (injection eo27 with f1_ f2_ f3_; have f4_ := f1_.symm; have f5_ := f3_.symm; clear f1_ f2_ f3_; subst f4_; subst f5_))
  refine hK.out _ _ ((blk_cell BK949.out 0).trans rfl) (fun hHeld => ?_)
  clear hK K
  refine norm_ (a' := ?_) ?_ ?_
  rotate_left
  ·show Act.put _ (some 20) _ = _
   simp only [Act.put, List.setIfInBounds_toArray, List.set_cons_zero, List.set_cons_succ, i64_w, i32_w]
   rfl
  refine one_ (i := 5) (N := none) #[true, true, true, true, true, true, false] rfl rfl (by kernel_rfl) (by decide) (fun K hK => ?_)
  have hs25 : w24.cell? ⟨gb938, 0, none⟩ = some (.slice none 0 0) := (blk_cell BK938.out 0).trans rfl
  have hfs25 := zfr BK938 0
  have hns25_1 := NB939_938.out
  have hns25_2 := NB949_938.out
  have hms25_1 := NB938_939.out
  have hms25_2 := NB938_949.out
  refine skip_ (w1 := ?_) (by rfl) rfl ?_ ?_
  rotate_left
  ·go_simp
   rfl
  refine hK.out _ _ (((cell_far (p := ⟨gb938, _, none⟩) NB949_938.out _).trans (hHeld))) (fun hHeld => ?_)
  clear hK K
  refine one_ (i := 6) (N := none) #[true, true, true, true, true, true, true] rfl rfl (by kernel_rfl) (by decide) (fun K hK => ?_)
  have hs26 : w24.cell? ⟨gb939, 0, none⟩ = some (.int .i64 0) := (blk_cell BK939.out 0).trans rfl
  have hfs26 := zfr BK939 0
  have hns26_0 := NB938_939.out
  have hns26_2 := NB949_939.out
  have hms26_0 := NB939_938.out
  have hms26_2 := NB939_949.out
  have hs28 : w24.cell? ⟨gb939, 1, none⟩ = some (.slice none 0 0) := (blk_cell BK939.out 1).trans rfl
  have hfs28 := zfr BK939 1
  have hns28_0 := NB938_939.out
  have hns28_2 := NB949_939.out
  have hms28_0 := NB939_938.out
  have hms28_2 := NB939_949.out
  refine skip_ (w1 := ?_) (by rfl) rfl ?_ ?_
  rotate_left
  ·go_simp
   rfl
  refine hK.out _ _ (((cell_far (p := ⟨gb939, _, none⟩) NB949_939.out _).trans (((cell_far (p := ⟨gb939, _, none⟩) NB949_939.out _).trans (hHeld))))) (fun hHeld => ?_)
  clear hK K
  refine done_ (by kernel_rfl) ?_
  try go_wp2
  refine bodyPost_ret (results_cc rfl _ _ gb938 gb939 50 25 #[.slice Ao15 t945.length co15] #[.int .i64 t956, .slice Ao27 t957.length co27] (0, 0) (0, 0) _ _ rfl (by (with_reducible repeat (first | refine blk_drewN ?_ _ | refine blk_drew ?_ | refine blk_alloc ?_ _)); refine blk_far ?_ NB938_939.out _; (with_reducible repeat (first | refine blk_drewN ?_ _ | refine blk_drew ?_ | refine blk_alloc ?_ _)); refine blk_far ?_ NB938_939.out _; (with_reducible repeat (first | refine blk_drewN ?_ _ | refine blk_drew ?_ | refine blk_alloc ?_ _)); apply blk_put (i := 0); (case h => exact y0 BK938.out); (case e => rfl)) Try.underlying50 rfl (by kernel_rfl) rfl (by (with_reducible repeat (first | refine blk_drewN ?_ _ | refine blk_drew ?_ | refine blk_alloc ?_ _)); refine blk_put (cs := #[.int .i64 t956, .slice none 0 0]) ?_ 1 _ rfl; (with_reducible repeat (first | refine blk_drewN ?_ _ | refine blk_drew ?_ | refine blk_alloc ?_ _)); refine blk_put (cs := #[.int .i64 0, .slice none 0 0]) ?_ 0 _ rfl; (with_reducible repeat (first | refine blk_drewN ?_ _ | refine blk_drew ?_ | refine blk_alloc ?_ _)); refine blk_far ?_ NB939_938.out _; (with_reducible repeat (first | refine blk_drewN ?_ _ | refine blk_drew ?_ | refine blk_alloc ?_ _)); exact BK939.out) Try.underlying25 rfl (by kernel_rfl)) rfl ?_
  exact ⟨_, _, y19, Kd.N_V (by (with_reducible repeat (first | apply Kd.N_alloc | apply Kd.N_drewN | apply Kd.N_drew)); exact Kd.N_mono (Kd.N_far (p := ⟨gb939, 1, none⟩) (Kd.N_far (p := ⟨gb939, 0, none⟩) (Kd.N_far (p := ⟨gb938, 0, none⟩) (Kd.N_mono (Kd.N_mono HO947.out (fun k_ hk => (⟨hk, hk.1.1.1.2.1⟩ : _ ∧ k_ ≠ gb938))) (fun k_ hk => (⟨hk, hk.1.1.1.1.2.2.1⟩ : _ ∧ k_ ≠ gb939))) (fun _ hk => hk.1.2) (.slice Ao15 t945.length co15)) (fun _ hk => hk.2) (.int .i64 t956)) (fun _ hk => hk.2) (.slice Ao27 t957.length co27)) (fun _ hk => hk.1.1.1.1.1.1)), Kd.N_V (by (with_reducible repeat (first | apply Kd.N_alloc | apply Kd.N_drewN | apply Kd.N_drew)); exact Kd.N_mono (Kd.N_far (p := ⟨gb939, 1, none⟩) (Kd.N_far (p := ⟨gb939, 0, none⟩) (Kd.N_far (p := ⟨gb938, 0, none⟩) (Kd.N_mono (Kd.N_mono HO959.out (fun k_ hk => (⟨hk, hk.2.2.1⟩ : _ ∧ k_ ≠ gb938))) (fun k_ hk => (⟨hk, hk.1.2.2.2.1⟩ : _ ∧ k_ ≠ gb939))) (fun _ hk => hk.1.2) (.slice Ao15 t945.length co15)) (fun _ hk => hk.2) (.int .i64 t956)) (fun _ hk => hk.2) (.slice Ao27 t957.length co27)) (fun _ hk => hk.1.1.1)), (y24 HB.out HI942.out GE938.out GE939.out GE949.out)⟩
 ·rw [if_neg c6] at H
  have c6b0 : (t950 == 0) = false := beq_eq_false_iff_ne.mpr c6
  have c6b1 : (t950 != 0) = true := bne_iff_ne.mpr c6
  obtain ⟨⟨t961, t962, t965⟩, A290, H⟩ := ob H
  have A29 := Aside0.mk A290
  clear A290
  simp only [Option.some.injEq, Prod.mk.injEq] at H
  obtain ⟨rfl, rfl, rfl⟩ := H
  go_enter Try.func27, Try.ntmps27
  try go_wp2_with (first | ((with_reducible refine gate_dst (N := 2) rfl ?_); refine zbx 2 #[.slice none 0 0] 50 ?_; intro gb938 hg w30 hbox hb; have BK938 := Aside0.mk hbox; have GW938 := Aside0.mk ((y9 hg HB.out : w.heap.size ≤ gb938)); have GE938 := Aside0.mk ((y9 hg HB.out : w.heap.size ≤ gb938)); replace HB := Aside0.mk (below_step (y5 HB.out) hb); clear hb hbox hg) | ((with_reducible refine gate_dst (N := 3) rfl ?_); refine zbx 3 #[.int .i64 0, .slice none 0 0] 25 ?_; intro gb939 hg w31 hbox hb; have BK939 := Aside0.mk hbox; have GW939 := Aside0.mk ((y11 hg HB.out GE938.out : w.heap.size ≤ gb939)); have GE939 := Aside0.mk ((y11 hg HB.out GE938.out : w.heap.size ≤ gb939)); replace HB := Aside0.mk (below_step (y6 HB.out GE938.out) hb); have NB938_939 := zltn hg BK938; have NB939_938 := zgtn hg BK938; replace BK938 := zbb BK938 hb; clear hb hbox hg) | ((with_reducible refine gate_callee (f := 30) rfl ?_); refine goesL_ (some 7) rfl rfl Try.func30 (by kernel_rfl) rfl #[.slice A0 l0.length c0] rfl y8 ?_; (with_reducible refine (spec_l6Open.calls _ _ l0 t940 t941 w _ ?side1 ?side2 ?side3 A2.out).mono ?_); (case side1 => exact y2 HB.out GE938.out GE939.out); (case side2 => exact HR0.out); (case side3 => exact HC0.out); rintro e w32 ⟨g942, rfl, hi, hb, hb2⟩; refine ⟨_, rfl, ?_⟩; replace HB := Aside0.mk (hb); have HI942 := Aside0.mk (hi); have NB942_938 := Aside0.mk (IsS75.ne_blk hi (blk_below (g := gb938) (o := .cells #[.slice none 0 0] 50 (0, 0)) (y0 BK938.out) hb2) (by decide)); have NB938_942 := Aside0.mk (Ne.symm (IsS75.ne_blk hi (blk_below (g := gb938) (o := .cells #[.slice none 0 0] 50 (0, 0)) (y0 BK938.out) hb2) (by decide))); replace BK938 := Aside0.mk (blk_below (g := gb938) (o := .cells #[.slice none 0 0] 50 (0, 0)) (y0 BK938.out) hb2); have NB942_939 := Aside0.mk (IsS75.ne_blk hi (blk_below (g := gb939) (o := .cells #[.int .i64 0, .slice none 0 0] 25 (0, 0)) (y0 BK939.out) hb2) (by decide)); have NB939_942 := Aside0.mk (Ne.symm (IsS75.ne_blk hi (blk_below (g := gb939) (o := .cells #[.int .i64 0, .slice none 0 0] 25 (0, 0)) (y0 BK939.out) hb2) (by decide))); replace BK939 := Aside0.mk (blk_below (g := gb939) (o := .cells #[.int .i64 0, .slice none 0 0] 25 (0, 0)) (y0 BK939.out) hb2); (try clear hb); (try clear hb2); (try clear hk); (try clear hi)) | ((with_reducible refine gate_callee (f := 32) rfl ?_); refine goesL_ (some 10) rfl rfl Try.func32 (by kernel_rfl) rfl #[.pointer (some ⟨g942, 0, none⟩), .int .i64 4] rfl y8 ?_; (with_reducible refine (spec_l6Rd_pick.calls k g942 t940 t941 4 t943 t944 w _ ?side1 ?side2 A3.out).mono ?_); (case side1 => exact y21 HI942.out NB942_938.out NB942_939.out); (case side2 => exact y17 HB.out HI942.out GE938.out GE939.out); rintro e w33 ⟨rfl, hi, hb, hk⟩; refine ⟨_, rfl, ?_⟩; replace BK938 := Aside0.mk (KeepBut.blk hk (g' := gb938) (o := .cells #[.slice none 0 0] 50 (0, 0)) (y0 BK938.out) NB938_942.out (by simp)); replace BK939 := Aside0.mk (KeepBut.blk hk (g' := gb939) (o := .cells #[.int .i64 0, .slice none 0 0] 25 (0, 0)) (y0 BK939.out) NB939_942.out (by simp)); replace HB := Aside0.mk (hb); replace HI942 := Aside0.mk (hi); (try clear hb); (try clear hb2); (try clear hk); (try clear hi)) | ((with_reducible refine gate_callee (f := 31) rfl ?_); refine goesL_ (some 12) rfl rfl Try.func31 (by kernel_rfl) rfl #[.pointer (some ⟨g942, 0, none⟩), .int .i64 (wrap64 (1 + t943))] rfl y8 ?_; (with_reducible refine (spec_l71Type.calls k g942 t940 t944 (wrap64 (1 + t943)) t945 t948 w _ ?side1 ?side2 A4.out).mono ?_); (case side1 => exact y21 HI942.out NB942_938.out NB942_939.out); (case side2 => exact y17 HB.out HI942.out GE938.out GE939.out); rintro e w34 ⟨v946, rfl, ho0, hi, hb, hk⟩; refine ⟨_, rfl, ?_⟩; have HO947 := Aside0.mk (Kd.N_lower (Kd.N_mono (ok' := fun k_ => (w.heap.size ≤ k_) ∧ k_ ≠ gb938 ∧ k_ ≠ gb939 ∧ k_ ≠ g942) ho0 (fun k_ hk_ => ⟨(Nat.le_trans (below_size (y17 HB.out HI942.out GE938.out GE939.out)) hk_), (Kd.freshB (g := gb938) (o := .cells #[.slice none 0 0] 50 (0, 0)) (y0 BK938.out) k_ hk_), (Kd.freshB (g := gb939) (o := .cells #[.int .i64 0, .slice none 0 0] 25 (0, 0)) (y0 BK939.out) k_ hk_), (IsS75.fresh (y21 HI942.out NB942_938.out NB942_939.out) k_ hk_)⟩)) (below_size (y17 HB.out HI942.out GE938.out GE939.out))); replace BK938 := Aside0.mk (KeepBut.blk hk (g' := gb938) (o := .cells #[.slice none 0 0] 50 (0, 0)) (y0 BK938.out) NB938_942.out (by simp)); replace BK939 := Aside0.mk (KeepBut.blk hk (g' := gb939) (o := .cells #[.int .i64 0, .slice none 0 0] 25 (0, 0)) (y0 BK939.out) NB939_942.out (by simp)); replace HB := Aside0.mk (hb); replace HI942 := Aside0.mk (hi); (try clear hb); (try clear hb2); (try clear hk); (try clear hi); (try clear ho0)) | ((with_reducible refine gate_dst (N := 5) rfl ?_); refine zbx 5 #[.slice none 0 0] 50 ?_; intro gb949 hg w35 hbox hb; replace HO947 := Aside0.mk (Kd.N_below (Kd.N_elderB (y3 HO947.out) gb949 (Nat.le_of_eq hg.symm)) hb); have BK949 := Aside0.mk hbox; have GW949 := Aside0.mk ((y45 hg HB.out HI942.out GE938.out GE939.out : w.heap.size ≤ gb949)); have GE949 := Aside0.mk ((y45 hg HB.out HI942.out GE938.out GE939.out : w.heap.size ≤ gb949)); replace HB := Aside0.mk (below_step (y17 HB.out HI942.out GE938.out GE939.out) hb); have NB938_949 := zltn hg BK938; have NB949_938 := zgtn hg BK938; replace BK938 := zbb BK938 hb; have NB939_949 := zltn hg BK939; have NB949_939 := zgtn hg BK939; replace BK939 := zbb BK939 hb; have NB942_949 := Aside0.mk ((by rw [hg]; exact Nat.ne_of_lt (IsS75.lt (show IsS75 w _ g942 t940 t948 from by repeat (first | (with_reducible first | exact HI942.out | apply IsS75.alloc | apply IsS75.drewN | apply IsS75.drew | apply IsS75.set_1 | refine IsS75.far ?_ NB942_938.out _ | refine IsS75.far ?_ NB942_939.out _) | exact HI942.out))) : g942 ≠ gb949)); have NB949_942 := Aside0.mk ((by rw [hg]; exact Nat.ne_of_gt (IsS75.lt (show IsS75 w _ g942 t940 t948 from by repeat (first | (with_reducible first | exact HI942.out | apply IsS75.alloc | apply IsS75.drewN | apply IsS75.drew | apply IsS75.set_1 | refine IsS75.far ?_ NB942_938.out _ | refine IsS75.far ?_ NB942_939.out _) | exact HI942.out))) : gb949 ≠ g942)); replace HI942 := Aside0.mk (IsS75.below (y21 HI942.out NB942_938.out NB942_939.out) hb); clear hb hbox hg; obtain ⟨Ao36, co36, eo36⟩ := Kd.N_slice HO947.out; subst eo36; have hnb37 := NB949_938.out; have hnc37 := NB938_949.out; have hnb38 := NB949_939.out; have hnc38 := NB939_949.out; have hnb39 := NB949_942.out; have hnc39 := NB942_949.out; have hcz40_0 := zh BK949; have hfz40_0 := zfr BK949 0) | ((with_reducible refine gate_callee (f := 32) rfl ?_); refine goesL_ (some 14) rfl rfl Try.func32 (by kernel_rfl) rfl #[.pointer (some ⟨g942, 0, none⟩), .int .i64 5] rfl y8 ?_; (with_reducible refine (spec_l6Rd_pick.calls k g942 t940 t948 5 t950 t951 w _ ?side1 ?side2 A5.out).mono ?_); (case side1 => exact y26 HI942.out NB942_938.out NB942_939.out NB942_949.out); (case side2 => exact y24 HB.out HI942.out GE938.out GE939.out GE949.out); rintro e w41 ⟨rfl, hi, hb, hk⟩; refine ⟨_, rfl, ?_⟩; replace BK938 := Aside0.mk (KeepBut.blk hk (g' := gb938) (o := .cells #[.slice none 0 0] 50 (0, 0)) (y13 NB938_949.out BK938.out) NB938_942.out (by simp)); replace BK939 := Aside0.mk (KeepBut.blk hk (g' := gb939) (o := .cells #[.int .i64 0, .slice none 0 0] 25 (0, 0)) (y13 NB939_949.out BK939.out) NB939_942.out (by simp)); replace HO947 := Aside0.mk (Kd.N_mono (Kd.N_keep (Kd.N_mono (ok := fun k_ => ((((w.heap.size ≤ k_)) ∧ (k_ ≠ gb938 ∧ (k_ ≠ gb939 ∧ k_ ≠ g942))) ∧ k_ ≠ gb949)) (by (with_reducible repeat (first | apply Kd.N_alloc | apply Kd.N_drewN | apply Kd.N_drew)); exact (Kd.N_mono (Kd.N_far (p := ⟨gb949, 0, none⟩) (Kd.N_mono HO947.out (fun k_ hk => (⟨hk, hk.2⟩ : _ ∧ k_ ≠ gb949))) (fun _ hk => hk.2) (.slice Ao36 t945.length co36)) (fun _ h_ => h_.1))) (fun k_ hk_ => (⟨hk_, hk_.1.2.2.2⟩ : _ ∧ k_ ≠ g942))) hk (fun _ h => h.2)) (fun _ h => h.1)); replace BK949 := Aside0.mk (KeepBut.blk hk (g' := gb949) (o := .cells #[.slice Ao36 t945.length co36] 50 (0, 0)) (by (with_reducible repeat (first | refine blk_drewN ?_ _ | refine blk_drew ?_ | refine blk_alloc ?_ _)); apply blk_put (i := 0); (case h => exact y0 BK949.out); (case e => rfl)) NB949_942.out (by simp)); replace HB := Aside0.mk (hb); replace HI942 := Aside0.mk (hi); (try clear hb); (try clear hb2); (try clear hk); (try clear hi)))
  replace HO947 := Aside0.mk (Kd.N_drew HO947.out)
  replace BK938 := Aside0.mk (blk_drew BK938.out)
  replace BK939 := Aside0.mk (blk_drew BK939.out)
  replace BK949 := Aside0.mk (blk_drew BK949.out)
  replace HI942 := Aside0.mk (IsS75.drew HI942.out)
  replace HB := Aside0.mk (below_drew1 HB.out)
  refine start_ (n := 6) (S := fun w' => w'.cell? ⟨gb949, 0, none⟩ = some (.slice Ao36 t945.length co36)) (ds := []) #[false, false, false, false, false, false] (by kernel_rfl) rfl rfl ((blk_cell BK949.out 0).trans rfl) (fun hHeld => ?_)
  generalize w41.drew = w42 at HO947 BK938 BK939 BK949 HI942 HB hHeld ⊢
  refine pure_ (i := 1) (N := some 22) (v := ?_) (a' := ?_) #[false, true, false, false, false, false] rfl rfl (by kernel_rfl) (fun _ _ _ h => h) (Or.inl ⟨(by rfl), ?_⟩) ?_ ?_
  rotate_left
  ·intro w'
   go_simp
   with_reducible rfl
  rotate_left
  ·simp only [Act.put, List.setIfInBounds_toArray, List.set_cons_zero, List.set_cons_succ, i64_w, i32_w]
   rfl
  refine take_ (i := 0) (N := some 21) (v := ?_) (a' := ?_) #[true, true, false, false, false, false] rfl rfl (by kernel_rfl) (fun _ _ _ h => h) (Or.inl ⟨(by rfl), ?_⟩) hHeld ?_ ?_
  rotate_left
  ·intro w' s0
   go_simp
   with_reducible rfl
  rotate_left
  ·simp only [Act.put, List.setIfInBounds_toArray, List.set_cons_zero, List.set_cons_succ, i64_w, i32_w]
   rfl
  refine take_ (i := 2) (N := some 23) (v := ?_) (a' := ?_) #[true, true, true, false, false, false] rfl rfl (by kernel_rfl) (fun _ _ _ h => h) (Or.inl ⟨(by rfl), ?_⟩) hHeld ?_ ?_
  rotate_left
  ·intro w' s0
   go_simp
   with_reducible rfl
  rotate_left
  ·simp only [Act.put, List.setIfInBounds_toArray, List.set_cons_zero, List.set_cons_succ, i64_w, i32_w]
   rfl
  refine one_ (i := 3) (N := some 24) #[true, true, true, true, false, false] rfl rfl (by kernel_rfl) (by decide) (fun K hK => ?_)
  refine goes_ Try.func33 (by kernel_rfl) rfl #[.pointer (some ⟨g942, 0, none⟩), .agg #[.slice Ao36 t945.length co36]] (by rfl) rfl rfl y8 ?_
  with_reducible refine (spec_l71Bad.calls k g942 t940 t951 (fun k_ => (((w.heap.size ≤ k_) ∧ (k_ ≠ gb938 ∧ (k_ ≠ gb939 ∧ k_ ≠ g942))) ∧ k_ ≠ gb949)) _ _ t945 t961 t962 t965 w _ ?side1 ?side2 ?side3 A29.out).mono ?_
  (case side1 => exact y26 HI942.out NB942_938.out NB942_939.out NB942_949.out)
  (case side2 => exact y24 HB.out HI942.out GE938.out GE939.out GE949.out)
  (case side3 => exact Kd.V_mono (Kd.N_V (HO947.out)) (fun k_ hk_ => ⟨hk_, hk_.1.2.2.2⟩))
  rintro e w43 ⟨v963, rfl, ho0, hi, hb, hk⟩
  refine ⟨_, rfl, ?_⟩
  replace HO947 := Aside0.mk (Kd.N_mono (Kd.N_told (Kd.N_oldK (Kd.N_mono (ok := fun k_ => ((((w.heap.size ≤ k_)) ∧ (k_ ≠ gb938 ∧ (k_ ≠ gb939 ∧ k_ ≠ g942))) ∧ k_ ≠ gb949)) (y3 HO947.out) (fun k_ hk_ => (⟨hk_, hk_.1.2.2.2⟩ : _ ∧ k_ ≠ g942))) hk) (Kd.N_base ho0)) (fun _ h_ => h_.1))
  have HO964 := Aside0.mk (Kd.N_lower (Kd.N_mono (ok' := fun k_ => (w.heap.size ≤ k_) ∧ k_ ≠ gb938 ∧ k_ ≠ gb939 ∧ k_ ≠ gb949 ∧ k_ ≠ g942) ho0 (fun k_ hk_ => ⟨Or.elim hk_ (fun hs_ => hs_.1.1) (fun hn_ => (Nat.le_trans (below_size (y24 HB.out HI942.out GE938.out GE939.out GE949.out)) hn_)), Or.elim hk_ (fun hs_ => hs_.1.2.1) (fun hn_ => (Kd.freshB (g := gb938) (o := .cells #[.slice none 0 0] 50 (0, 0)) (y0 BK938.out) k_ hn_)), Or.elim hk_ (fun hs_ => hs_.1.2.2.1) (fun hn_ => (Kd.freshB (g := gb939) (o := .cells #[.int .i64 0, .slice none 0 0] 25 (0, 0)) (y0 BK939.out) k_ hn_)), Or.elim hk_ (fun hs_ => hs_.2) (fun hn_ => (Kd.freshB (g := gb949) (o := .cells #[.slice Ao36 t945.length co36] 50 (0, 0)) (y0 BK949.out) k_ hn_)), Or.elim hk_ (fun hs_ => hs_.1.2.2.2) (fun hn_ => (IsS75.fresh (y26 HI942.out NB942_938.out NB942_939.out NB942_949.out) k_ hn_))⟩)) (below_size (y24 HB.out HI942.out GE938.out GE939.out GE949.out)))
  replace BK938 := Aside0.mk (KeepBut.blk hk (g' := gb938) (o := .cells #[.slice none 0 0] 50 (0, 0)) (y0 BK938.out) NB938_942.out (by simp))
  replace BK939 := Aside0.mk (KeepBut.blk hk (g' := gb939) (o := .cells #[.int .i64 0, .slice none 0 0] 25 (0, 0)) (y0 BK939.out) NB939_942.out (by simp))
  replace BK949 := Aside0.mk (KeepBut.blk hk (g' := gb949) (o := .cells #[.slice Ao36 t945.length co36] 50 (0, 0)) (y0 BK949.out) NB949_942.out (by simp))
  replace HB := Aside0.mk (hb)
  replace HI942 := Aside0.mk (hi)
  (try clear hb)
  (try clear hb2)
  (try clear hk)
  (try clear hi)
  (try clear ho0)
  obtain ⟨Ao46, co46, eo46⟩ := Kd.N_slice HO964.out
  (first | subst eo46 | (injection eo46 with f1_ f2_ f3_; have f4_ := f1_.symm; have f5_ := f3_.symm; clear f1_ f2_ f3_; subst f4_; subst f5_))
  refine hK.out _ _ ((blk_cell BK949.out 0).trans rfl) (fun hHeld => ?_)
  clear hK K
  refine norm_ (a' := ?_) ?_ ?_
  rotate_left
  ·show Act.put _ (some 24) _ = _
   simp only [Act.put, List.setIfInBounds_toArray, List.set_cons_zero, List.set_cons_succ, i64_w, i32_w]
   rfl
  refine one_ (i := 4) (N := none) #[true, true, true, true, true, false] rfl rfl (by kernel_rfl) (by decide) (fun K hK => ?_)
  have hs44 : w43.cell? ⟨gb938, 0, none⟩ = some (.slice none 0 0) := (blk_cell BK938.out 0).trans rfl
  have hfs44 := zfr BK938 0
  have hns44_1 := NB939_938.out
  have hns44_2 := NB949_938.out
  have hms44_1 := NB938_939.out
  have hms44_2 := NB938_949.out
  refine skip_ (w1 := ?_) (by rfl) rfl ?_ ?_
  rotate_left
  ·go_simp
   rfl
  refine hK.out _ _ (((cell_far (p := ⟨gb938, _, none⟩) NB949_938.out _).trans (hHeld))) (fun hHeld => ?_)
  clear hK K
  refine one_ (i := 5) (N := none) #[true, true, true, true, true, true] rfl rfl (by kernel_rfl) (by decide) (fun K hK => ?_)
  have hs45 : w43.cell? ⟨gb939, 0, none⟩ = some (.int .i64 0) := (blk_cell BK939.out 0).trans rfl
  have hfs45 := zfr BK939 0
  have hns45_0 := NB938_939.out
  have hns45_2 := NB949_939.out
  have hms45_0 := NB939_938.out
  have hms45_2 := NB939_949.out
  have hs47 : w43.cell? ⟨gb939, 1, none⟩ = some (.slice none 0 0) := (blk_cell BK939.out 1).trans rfl
  have hfs47 := zfr BK939 1
  have hns47_0 := NB938_939.out
  have hns47_2 := NB949_939.out
  have hms47_0 := NB939_938.out
  have hms47_2 := NB939_949.out
  refine skip_ (w1 := ?_) (by rfl) rfl ?_ ?_
  rotate_left
  ·go_simp
   rfl
  refine hK.out _ _ (((cell_far (p := ⟨gb939, _, none⟩) NB949_939.out _).trans (((cell_far (p := ⟨gb939, _, none⟩) NB949_939.out _).trans (hHeld))))) (fun hHeld => ?_)
  clear hK K
  refine done_ (by kernel_rfl) ?_
  try go_wp2
  refine bodyPost_ret (results_cc rfl _ _ gb938 gb939 50 25 #[.slice Ao36 t945.length co36] #[.int .i64 t961, .slice Ao46 t962.length co46] (0, 0) (0, 0) _ _ rfl (by (with_reducible repeat (first | refine blk_drewN ?_ _ | refine blk_drew ?_ | refine blk_alloc ?_ _)); refine blk_far ?_ NB938_939.out _; (with_reducible repeat (first | refine blk_drewN ?_ _ | refine blk_drew ?_ | refine blk_alloc ?_ _)); refine blk_far ?_ NB938_939.out _; (with_reducible repeat (first | refine blk_drewN ?_ _ | refine blk_drew ?_ | refine blk_alloc ?_ _)); apply blk_put (i := 0); (case h => exact y0 BK938.out); (case e => rfl)) Try.underlying50 rfl (by kernel_rfl) rfl (by (with_reducible repeat (first | refine blk_drewN ?_ _ | refine blk_drew ?_ | refine blk_alloc ?_ _)); refine blk_put (cs := #[.int .i64 t961, .slice none 0 0]) ?_ 1 _ rfl; (with_reducible repeat (first | refine blk_drewN ?_ _ | refine blk_drew ?_ | refine blk_alloc ?_ _)); refine blk_put (cs := #[.int .i64 0, .slice none 0 0]) ?_ 0 _ rfl; (with_reducible repeat (first | refine blk_drewN ?_ _ | refine blk_drew ?_ | refine blk_alloc ?_ _)); refine blk_far ?_ NB939_938.out _; (with_reducible repeat (first | refine blk_drewN ?_ _ | refine blk_drew ?_ | refine blk_alloc ?_ _)); exact BK939.out) Try.underlying25 rfl (by kernel_rfl)) rfl ?_
  exact ⟨_, _, y19, Kd.N_V (by (with_reducible repeat (first | apply Kd.N_alloc | apply Kd.N_drewN | apply Kd.N_drew)); exact Kd.N_mono (Kd.N_far (p := ⟨gb939, 1, none⟩) (Kd.N_far (p := ⟨gb939, 0, none⟩) (Kd.N_far (p := ⟨gb938, 0, none⟩) (Kd.N_mono (Kd.N_mono HO947.out (fun k_ hk => (⟨hk, hk.1.1.2.1⟩ : _ ∧ k_ ≠ gb938))) (fun k_ hk => (⟨hk, hk.1.1.1.2.2.1⟩ : _ ∧ k_ ≠ gb939))) (fun _ hk => hk.1.2) (.slice Ao36 t945.length co36)) (fun _ hk => hk.2) (.int .i64 t961)) (fun _ hk => hk.2) (.slice Ao46 t962.length co46)) (fun _ hk => hk.1.1.1.1.1)), Kd.N_V (by (with_reducible repeat (first | apply Kd.N_alloc | apply Kd.N_drewN | apply Kd.N_drew)); exact Kd.N_mono (Kd.N_far (p := ⟨gb939, 1, none⟩) (Kd.N_far (p := ⟨gb939, 0, none⟩) (Kd.N_far (p := ⟨gb938, 0, none⟩) (Kd.N_mono (Kd.N_mono HO964.out (fun k_ hk => (⟨hk, hk.2.1⟩ : _ ∧ k_ ≠ gb938))) (fun k_ hk => (⟨hk, hk.1.2.2.1⟩ : _ ∧ k_ ≠ gb939))) (fun _ hk => hk.1.2) (.slice Ao36 t945.length co36)) (fun _ hk => hk.2) (.int .i64 t961)) (fun _ hk => hk.2) (.slice Ao46 t962.length co46)) (fun _ hk => hk.1.1.1)), (y24 HB.out HI942.out GE938.out GE939.out GE949.out)⟩
end Go.Proofs.Ythfflieeifakdaa.PA
end
section
namespace Go.Proofs.Ythfflieeifakdaa.PA
open Go.RowKit Go.Proofs.YthfflieeifakdaaW.PrintWords Go.Proofs.YthfflieeifakdaaW.PrintLast Go.Proofs.YthfflieeifakdaaW.PrintMore
attribute [local go_sem] max2_int min2_int max_two min_two max_three min_three max_four min_four
set_option linter.unusedVariables false
set_option linter.unusedSimpArgs false
def impl_ValOk.f (k : Nat) (l0_0 : List (S50)) (a1_0 : Int) (l1_1 : List (S25)) : Option (Bool) := (impl_TypeOk.f k l0_0).bind fun t975 => (if t975 = true then ((impl_valTyped.f k a1_0 l1_1).bind fun bt976 => (if bt976.2 = true then ((impl_typeSame.f k bt976.1 l0_0).bind fun t981 => (some t981)) else (some false))) else (some false))
theorem impl_ValOk.mono : ∀ a0 a1 a2 k, LeO (impl_ValOk.f k a0 a1 a2) (impl_ValOk.f (k + 1) a0 a1 a2) := by
 intro a0 a1 a2 k
 unfold impl_ValOk.f
 repeat' first
   | (with_reducible exact impl_TypeOk.mono _ _)
   | (with_reducible exact impl_typeSame.mono _ _ _)
   | (with_reducible exact impl_valTyped.mono _ _ _)
   | (with_reducible exact LeO.refl _)
   | (with_reducible exact LeO.none _)
   | (with_reducible refine LeO.ite ?_ ?_)
   | (with_reducible refine LeO.bind ?_ (fun _ => ?_))
   | exact impl_TypeOk.mono _ _
   | exact impl_typeSame.mono _ _ _
   | exact impl_valTyped.mono _ _ _
   | exact LeO.none _
   | refine LeO.ite ?_ ?_
   | refine LeO.bind ?_ (fun _ => ?_)
set_option maxHeartbeats 8000000 in
set_option maxRecDepth 100000 in
theorem impl_ValOk.calls (k : Nat) (A0_0 : Option Addr) (c0_0 : Nat) (l0_0 : List (S50)) (a1_0 : Int) (A1_1 : Option Addr) (c1_1 : Nat) (l1_1 : List (S25)) (r : Bool) (w : World) (hr0_0 : Kd.C k50 w A0_0 l0_0.length l0_0) (hc0_0 : l0_0.length ≤ c0_0) (hr1_1 : Kd.C k25 w A1_1 l1_1.length l1_1) (hc1_1 : l1_1.length ≤ c1_1) (h : impl_ValOk.f k l0_0 a1_0 l1_1 = some r) :
  Calls Try.prog 28 #[.agg #[.slice A0_0 l0_0.length c0_0], .agg #[.int .i64 a1_0, .slice A1_1 l1_1.length c1_1]] w fun e w' => e = .returned (.bool r) ∧ Below w.heap.size w w' := by
 have hu50 := Try.underlying50
 have hu25 := Try.underlying25
 have HR0_0 := Aside0.mk hr0_0
 have HC0_0 := Aside0.mk hc0_0
 clear hr0_0 hc0_0
 have HR1_1 := Aside0.mk hr1_1
 have HC1_1 := Aside0.mk hc1_1
 clear hr1_1 hc1_1
 have HB := Aside0.mk (Below.refl w.heap.size w)
 have H : ((impl_TypeOk.f k l0_0).bind fun t975 => (if t975 = true then ((impl_valTyped.f k a1_0 l1_1).bind fun bt976 => (if bt976.2 = true then ((impl_typeSame.f k bt976.1 l0_0).bind fun t981 => (some t981)) else (some false))) else (some false))) = some r := h
 clear h
 obtain ⟨t975, A30, H⟩ := ob H
 have A3 := Aside0.mk A30
 clear A30
 by_cases c4 : t975 = true
 ·subst c4
  rw [if_pos rfl] at H
  obtain ⟨⟨t976, t979⟩, A50, H⟩ := ob H
  have A5 := Aside0.mk A50
  clear A50
  by_cases c6 : t979 = true
  ·subst c6
   rw [if_pos rfl] at H
   obtain ⟨t981, A70, H⟩ := ob H
   have A7 := Aside0.mk A70
   clear A70
   obtain rfl := Option.some.inj H
   go_enter Try.func28, Try.ntmps28
   go_wp2_with (first | ((with_reducible refine gate_dst (N := 2) rfl ?_); refine zbx 2 #[.slice A0_0 l0_0.length c0_0] 50 ?_; intro gb973 hg w8 hbox hb; have BK973 := Aside0.mk hbox; have GW973 := Aside0.mk ((y9 hg HB.out : w.heap.size ≤ gb973)); have GE973 := Aside0.mk ((y9 hg HB.out : w.heap.size ≤ gb973)); replace HB := Aside0.mk (below_step (y5 HB.out) hb); clear hb hbox hg) | ((with_reducible refine gate_dst (N := 3) rfl ?_); refine zbx 3 #[.int .i64 a1_0, .slice A1_1 l1_1.length c1_1] 25 ?_; intro gb974 hg w9 hbox hb; have BK974 := Aside0.mk hbox; have GW974 := Aside0.mk ((y11 hg HB.out GE973.out : w.heap.size ≤ gb974)); have GE974 := Aside0.mk ((y11 hg HB.out GE973.out : w.heap.size ≤ gb974)); replace HB := Aside0.mk (below_step (y6 HB.out GE973.out) hb); have NB973_974 := zltn hg BK973; have NB974_973 := zgtn hg BK973; replace BK973 := zbb BK973 hb; clear hb hbox hg; have hnb10 := NB973_974.out; have hnc10 := NB974_973.out; have hcz11_0 := zh BK973; have hfz11_0 := zfr BK973 0) | ((with_reducible refine gate_callee (f := 52) rfl ?_); refine goesL_ (some 8) rfl rfl Try.func52 (by kernel_rfl) rfl #[.agg #[.slice A0_0 l0_0.length c0_0]] rfl y8 ?_; (with_reducible refine (impl_TypeOk.calls k _ _ l0_0 true _ ?side1 ?side2 A3.out).mono ?_); (case side1 => exact y15 HR0_0.out HB.out); (case side2 => exact HC0_0.out); rintro e w12 ⟨rfl, hb⟩; refine ⟨_, rfl, ?_⟩; replace BK973 := zbb BK973 hb; replace BK974 := zbb BK974 hb; replace HB := Aside0.mk (below_step (y2 HB.out GE973.out GE974.out) hb); (try clear hb); (try clear hb2); (try clear hk); (try clear hi); have hcz13_0 := zh BK974; have hcz13_1 := zh1 BK974; have hfz13_0 := zfr BK974 0; have hfz13_1 := zfr BK974 1) | ((with_reducible refine gate_callee (f := 38) rfl ?_); refine goesL_ (some 12) rfl rfl Try.func38 (by kernel_rfl) rfl #[.agg #[.int .i64 a1_0, .slice A1_1 l1_1.length c1_1]] rfl y8 ?_; (with_reducible refine (impl_valTyped.calls k a1_0 _ _ l1_1 t976 true _ ?side1 ?side2 A5.out).mono ?_); (case side1 => exact y15 HR1_1.out HB.out); (case side2 => exact HC1_1.out); rintro e w14 ⟨v977, rfl, ho0, hb⟩; refine ⟨_, rfl, ?_⟩; have HO978 := Aside0.mk (Kd.N_lower (Kd.N_mono (ok' := fun k_ => k_ ≠ gb973 ∧ k_ ≠ gb974) ho0 (fun k_ hk_ => ⟨(Kd.freshB (g := gb973) (o := .cells #[.slice A0_0 l0_0.length c0_0] 50 (0, 0)) (y0 BK973.out) k_ hk_), (Kd.freshB (g := gb974) (o := .cells #[.int .i64 a1_0, .slice A1_1 l1_1.length c1_1] 25 (0, 0)) (y0 BK974.out) k_ hk_)⟩)) (below_size (y2 HB.out GE973.out GE974.out))); replace BK973 := zbb BK973 hb; replace BK974 := zbb BK974 hb; replace HB := Aside0.mk (below_step (y2 HB.out GE973.out GE974.out) hb); (try clear hb); (try clear hb2); (try clear hk); (try clear hi); (try clear ho0)) | ((with_reducible refine gate_dst (N := 5) rfl ?_); refine zbx 5 #[.slice none 0 0] 50 ?_; intro gb980 hg w15 hbox hb; replace HO978 := Aside0.mk (Kd.N_below (Kd.N_elderB (y3 HO978.out) gb980 (Nat.le_of_eq hg.symm)) hb); have BK980 := Aside0.mk hbox; have GW980 := Aside0.mk ((y16 hg HB.out GE973.out GE974.out : w.heap.size ≤ gb980)); have GE980 := Aside0.mk ((y16 hg HB.out GE973.out GE974.out : w.heap.size ≤ gb980)); replace HB := Aside0.mk (below_step (y2 HB.out GE973.out GE974.out) hb); have NB973_980 := zltn hg BK973; have NB980_973 := zgtn hg BK973; replace BK973 := zbb BK973 hb; have NB974_980 := zltn hg BK974; have NB980_974 := zgtn hg BK974; replace BK974 := zbb BK974 hb; clear hb hbox hg; obtain ⟨Ao16, co16, eo16⟩ := Kd.N_slice HO978.out; subst eo16; have hnb17 := NB980_973.out; have hnc17 := NB973_980.out; have hnb18 := NB980_974.out; have hnc18 := NB974_980.out; have hcz19_0 := zh BK980; have hfz19_0 := zfr BK980 0; have hcz20_0 := zh BK973; have hfz20_0 := zfr BK973 0) | (go_at_call 46; (with_reducible refine (impl_typeSame.calls k _ _ t976 _ _ l0_0 t981 _ ?side1 ?side2 ?side3 ?side4 A7.out).mono ?_); (case side1 => refine (Kd.N_reads' (e := 50) (base := w.heap.size) (ok := fun k_ => ((k_ ≠ gb973 ∧ k_ ≠ gb974) ∧ k_ ≠ gb980)) (n := t976.length) (c := co16) ?_).2.2; exact (by (with_reducible repeat (first | apply Kd.N_alloc | apply Kd.N_drewN | apply Kd.N_drew)); exact (Kd.N_mono (Kd.N_far (p := ⟨gb980, 0, none⟩) (Kd.N_mono HO978.out (fun k_ hk => (⟨hk, hk.2⟩ : _ ∧ k_ ≠ gb980))) (fun _ hk => hk.2) (.slice Ao16 t976.length co16)) (fun _ h_ => h_.1)))); (case side2 => exact (Kd.N_reads' HO978.out).2.1); (case side3 => exact y47 HR0_0.out HB.out GE973.out GE974.out GE980.out); (case side4 => exact HC0_0.out); rintro e w21 ⟨rfl, hb⟩; replace HO978 := Aside0.mk (Kd.N_below (by (with_reducible repeat (first | apply Kd.N_alloc | apply Kd.N_drewN | apply Kd.N_drew)); exact (Kd.N_mono (Kd.N_far (p := ⟨gb980, 0, none⟩) (Kd.N_mono HO978.out (fun k_ hk => (⟨hk, hk.2⟩ : _ ∧ k_ ≠ gb980))) (fun _ hk => hk.2) (.slice Ao16 t976.length co16)) (fun _ h_ => h_.1))) hb); replace BK973 := zbf BK973 NB973_980 hb; replace BK974 := zbf BK974 NB974_980 hb; replace BK980 := Aside0.mk (blk_below (g := gb980) (o := .cells #[.slice Ao16 t976.length co16] 50 (0, 0)) (by (with_reducible repeat (first | refine blk_drewN ?_ _ | refine blk_drew ?_ | refine blk_alloc ?_ _)); apply blk_put (i := 0); (case h => exact y0 BK980.out); (case e => rfl)) hb); replace HB := Aside0.mk (below_step (y4 HB.out GE973.out GE974.out GE980.out) hb); (try clear hb); (try clear hb2); (try clear hk); (try clear hi)))
   go_ret
   exact ⟨y19, (y4 HB.out GE973.out GE974.out GE980.out)⟩
  ·replace c6 := Bool.eq_false_iff.mpr c6
   subst c6
   rw [if_neg (show ¬ (false = true) by decide)] at H
   obtain rfl := Option.some.inj H
   go_enter Try.func28, Try.ntmps28
   go_wp2_with (first | ((with_reducible refine gate_dst (N := 2) rfl ?_); refine zbx 2 #[.slice A0_0 l0_0.length c0_0] 50 ?_; intro gb973 hg w22 hbox hb; have BK973 := Aside0.mk hbox; have GW973 := Aside0.mk ((y9 hg HB.out : w.heap.size ≤ gb973)); have GE973 := Aside0.mk ((y9 hg HB.out : w.heap.size ≤ gb973)); replace HB := Aside0.mk (below_step (y5 HB.out) hb); clear hb hbox hg) | ((with_reducible refine gate_dst (N := 3) rfl ?_); refine zbx 3 #[.int .i64 a1_0, .slice A1_1 l1_1.length c1_1] 25 ?_; intro gb974 hg w23 hbox hb; have BK974 := Aside0.mk hbox; have GW974 := Aside0.mk ((y11 hg HB.out GE973.out : w.heap.size ≤ gb974)); have GE974 := Aside0.mk ((y11 hg HB.out GE973.out : w.heap.size ≤ gb974)); replace HB := Aside0.mk (below_step (y6 HB.out GE973.out) hb); have NB973_974 := zltn hg BK973; have NB974_973 := zgtn hg BK973; replace BK973 := zbb BK973 hb; clear hb hbox hg; have hnb24 := NB973_974.out; have hnc24 := NB974_973.out; have hcz25_0 := zh BK973; have hfz25_0 := zfr BK973 0) | ((with_reducible refine gate_callee (f := 52) rfl ?_); refine goesL_ (some 8) rfl rfl Try.func52 (by kernel_rfl) rfl #[.agg #[.slice A0_0 l0_0.length c0_0]] rfl y8 ?_; (with_reducible refine (impl_TypeOk.calls k _ _ l0_0 true _ ?side1 ?side2 A3.out).mono ?_); (case side1 => exact y15 HR0_0.out HB.out); (case side2 => exact HC0_0.out); rintro e w26 ⟨rfl, hb⟩; refine ⟨_, rfl, ?_⟩; replace BK973 := zbb BK973 hb; replace BK974 := zbb BK974 hb; replace HB := Aside0.mk (below_step (y2 HB.out GE973.out GE974.out) hb); (try clear hb); (try clear hb2); (try clear hk); (try clear hi); have hcz27_0 := zh BK974; have hcz27_1 := zh1 BK974; have hfz27_0 := zfr BK974 0; have hfz27_1 := zfr BK974 1) | ((with_reducible refine gate_callee (f := 38) rfl ?_); refine goesL_ (some 12) rfl rfl Try.func38 (by kernel_rfl) rfl #[.agg #[.int .i64 a1_0, .slice A1_1 l1_1.length c1_1]] rfl y8 ?_; (with_reducible refine (impl_valTyped.calls k a1_0 _ _ l1_1 t976 false _ ?side1 ?side2 A5.out).mono ?_); (case side1 => exact y15 HR1_1.out HB.out); (case side2 => exact HC1_1.out); rintro e w28 ⟨v977, rfl, ho0, hb⟩; refine ⟨_, rfl, ?_⟩; have HO978 := Aside0.mk (Kd.N_lower (Kd.N_mono (ok' := fun k_ => k_ ≠ gb973 ∧ k_ ≠ gb974) ho0 (fun k_ hk_ => ⟨(Kd.freshB (g := gb973) (o := .cells #[.slice A0_0 l0_0.length c0_0] 50 (0, 0)) (y0 BK973.out) k_ hk_), (Kd.freshB (g := gb974) (o := .cells #[.int .i64 a1_0, .slice A1_1 l1_1.length c1_1] 25 (0, 0)) (y0 BK974.out) k_ hk_)⟩)) (below_size (y2 HB.out GE973.out GE974.out))); replace BK973 := zbb BK973 hb; replace BK974 := zbb BK974 hb; replace HB := Aside0.mk (below_step (y2 HB.out GE973.out GE974.out) hb); (try clear hb); (try clear hb2); (try clear hk); (try clear hi); (try clear ho0)) | ((with_reducible refine gate_dst (N := 5) rfl ?_); refine zbx 5 #[.slice none 0 0] 50 ?_; intro gb980 hg w29 hbox hb; replace HO978 := Aside0.mk (Kd.N_below (Kd.N_elderB (y3 HO978.out) gb980 (Nat.le_of_eq hg.symm)) hb); have BK980 := Aside0.mk hbox; have GW980 := Aside0.mk ((y16 hg HB.out GE973.out GE974.out : w.heap.size ≤ gb980)); have GE980 := Aside0.mk ((y16 hg HB.out GE973.out GE974.out : w.heap.size ≤ gb980)); replace HB := Aside0.mk (below_step (y2 HB.out GE973.out GE974.out) hb); have NB973_980 := zltn hg BK973; have NB980_973 := zgtn hg BK973; replace BK973 := zbb BK973 hb; have NB974_980 := zltn hg BK974; have NB980_974 := zgtn hg BK974; replace BK974 := zbb BK974 hb; clear hb hbox hg; obtain ⟨Ao30, co30, eo30⟩ := Kd.N_slice HO978.out; subst eo30; have hnb31 := NB980_973.out; have hnc31 := NB973_980.out; have hnb32 := NB980_974.out; have hnc32 := NB974_980.out; have hcz33_0 := zh BK980; have hfz33_0 := zfr BK980 0))
   go_ret
   exact ⟨y19, (y4 HB.out GE973.out GE974.out GE980.out)⟩
 ·replace c4 := Bool.eq_false_iff.mpr c4
  subst c4
  rw [if_neg (show ¬ (false = true) by decide)] at H
  obtain rfl := Option.some.inj H
  go_enter Try.func28, Try.ntmps28
  go_wp2_with (first | ((with_reducible refine gate_dst (N := 2) rfl ?_); refine zbx 2 #[.slice A0_0 l0_0.length c0_0] 50 ?_; intro gb973 hg w34 hbox hb; have BK973 := Aside0.mk hbox; have GW973 := Aside0.mk ((y9 hg HB.out : w.heap.size ≤ gb973)); have GE973 := Aside0.mk ((y9 hg HB.out : w.heap.size ≤ gb973)); replace HB := Aside0.mk (below_step (y5 HB.out) hb); clear hb hbox hg) | ((with_reducible refine gate_dst (N := 3) rfl ?_); refine zbx 3 #[.int .i64 a1_0, .slice A1_1 l1_1.length c1_1] 25 ?_; intro gb974 hg w35 hbox hb; have BK974 := Aside0.mk hbox; have GW974 := Aside0.mk ((y11 hg HB.out GE973.out : w.heap.size ≤ gb974)); have GE974 := Aside0.mk ((y11 hg HB.out GE973.out : w.heap.size ≤ gb974)); replace HB := Aside0.mk (below_step (y6 HB.out GE973.out) hb); have NB973_974 := zltn hg BK973; have NB974_973 := zgtn hg BK973; replace BK973 := zbb BK973 hb; clear hb hbox hg; have hnb36 := NB973_974.out; have hnc36 := NB974_973.out; have hcz37_0 := zh BK973; have hfz37_0 := zfr BK973 0) | ((with_reducible refine gate_callee (f := 52) rfl ?_); refine goesL_ (some 8) rfl rfl Try.func52 (by kernel_rfl) rfl #[.agg #[.slice A0_0 l0_0.length c0_0]] rfl y8 ?_; (with_reducible refine (impl_TypeOk.calls k _ _ l0_0 false _ ?side1 ?side2 A3.out).mono ?_); (case side1 => exact y15 HR0_0.out HB.out); (case side2 => exact HC0_0.out); rintro e w38 ⟨rfl, hb⟩; refine ⟨_, rfl, ?_⟩; replace BK973 := zbb BK973 hb; replace BK974 := zbb BK974 hb; replace HB := Aside0.mk (below_step (y2 HB.out GE973.out GE974.out) hb); (try clear hb); (try clear hb2); (try clear hk); (try clear hi)))
  go_ret
  exact ⟨y19, (y2 HB.out GE973.out GE974.out)⟩
end Go.Proofs.Ythfflieeifakdaa.PA
end
section
set_option linter.unusedVariables false
namespace Go.Proofs.Ythfflieeifakdaa.Vals
open Go.RowKit Go.Proofs.Ythfflieeifakdaa.PA Go.Proofs.YthfflieeifakdaaW.PrintWords Go.Proofs.YthfflieeifakdaaW.PrintLast Go.Proofs.Ythfflieeifakdaa.Draw Go.Proofs.Ythfflieeifakdaa.Types Go.Proofs.Ythfflieeifakdaa.Paths
abbrev Vl := List S25
theorem rv0 (a : S25) (l : Vl) : rd_T25 (a :: l) 0 = a := rfl
theorem rv1 (a b : S25) (l : Vl) : rd_T25 (a :: b :: l) 1 = b := rfl
theorem shapeV (l : Vl) : l = [] ∨ (∃ a b, l = [a, b]) ∨ (l.length ≠ 0 ∧ l.length ≠ 2) := by
  match l with
  | [] => exact .inl rfl
  | [_] => exact .inr (.inr ⟨by simp, by simp⟩)
  | [a, b] => exact .inr (.inl ⟨a, b, rfl⟩)
  | _ :: _ :: _ :: _ => exact .inr (.inr ⟨by simp, by simp⟩)
def vt : Nat → Int → Vl → Option Ty
  | 0, _, _ => none
  | _ + 1, x, [] => if 0 ≤ x ∧ x ≤ 9999 then some [] else none
  | n + 1, x, [a, b] => if x = 0 then (vt n a.f0 a.f1).bind fun s => (vt n b.f0 b.f1).bind fun t => some [⟨s⟩, ⟨t⟩] else none
  | _ + 1, _, _ => none
theorem vt_nil (n : Nat) (x : Int) : vt (n + 1) x [] = if 0 ≤ x ∧ x ≤ 9999 then some [] else none := rfl
theorem vt_two (n : Nat) (x : Int) (a b : S25) : vt (n + 1) x [a, b] = if x = 0 then (vt n a.f0 a.f1).bind fun s => (vt n b.f0 b.f1).bind fun t => some [⟨s⟩, ⟨t⟩] else none := rfl
theorem vt_odd (n : Nat) (x : Int) (l : Vl) (h0 : l.length ≠ 0) (h2 : l.length ≠ 2) : vt n x l = none := by
  cases n with
  | zero => rfl
  | succ n =>
    match l with
    | [] => simp at h0
    | [_] => rfl
    | [_, _] => simp at h2
    | _ :: _ :: _ :: _ => rfl
theorem vt_cases {n : Nat} {x : Int} {l : Vl} {t : Ty} (h : vt (n + 1) x l = some t) :
    (l = [] ∧ t = [] ∧ 0 ≤ x ∧ x ≤ 9999) ∨ ∃ a b s u, l = [a, b] ∧ x = 0 ∧ t = [⟨s⟩, ⟨u⟩] ∧ vt n a.f0 a.f1 = some s ∧ vt n b.f0 b.f1 = some u := by
  rcases shapeV l with rfl | ⟨a, b, rfl⟩ | ⟨h0, h2⟩
  · rw [vt_nil] at h
    split at h
    · rename_i hx
      cases h
      exact .inl ⟨rfl, rfl, hx.1, hx.2⟩
    · cases h
  · rw [vt_two] at h
    split at h
    · rename_i hx
      cases e1 : vt n a.f0 a.f1 with
      | none => rw [e1] at h; cases h
      | some s =>
        cases e2 : vt n b.f0 b.f1 with
        | none => rw [e1, e2] at h; cases h
        | some u =>
          rw [e1, e2] at h
          cases h
          exact .inr ⟨a, b, s, u, rfl, hx, rfl, e1, e2⟩
    · cases h
  · rw [vt_odd _ _ _ h0 h2] at h; cases h
theorem vt_dp : ∀ (n : Nat) (x : Int) (l : Vl) (t : Ty), vt n x l = some t → dp n t = true := by
  intro n
  induction n with
  | zero => intro x l t h; cases h
  | succ n ih =>
    intro x l t h
    rcases vt_cases h with ⟨_, rfl, _, _⟩ | ⟨a, b, s, u, _, _, rfl, h1, h2⟩
    · rfl
    · rw [dp_two, ih _ _ _ h1, ih _ _ _ h2]; rfl
theorem vt_succ : ∀ (n : Nat) (x : Int) (l : Vl) (t : Ty), vt n x l = some t → vt (n + 1) x l = some t := by
  intro n
  induction n with
  | zero => intro x l t h; cases h
  | succ n ih =>
    intro x l t h
    rcases vt_cases h with ⟨rfl, rfl, h0, h1⟩ | ⟨a, b, s, u, rfl, rfl, rfl, h1, h2⟩
    · rw [vt_nil, if_pos ⟨h0, h1⟩]
    · rw [vt_two, if_pos rfl, ih _ _ _ h1, ih _ _ _ h2]; rfl
theorem valType_ev : ∀ (n : Nat), n ≤ 1000 → ∀ (x : Int) (l : Vl) (k : Nat), 2 * n + 2 ≤ k → impl_valType.f k x l n = some (at_ (vt n x l)) := by
  intro n
  induction n with
  | zero =>
    intro _ x l k hk
    obtain ⟨k, rfl⟩ : ∃ m, k = m + 1 := ⟨k - 1, by omega⟩
    simp only [impl_valType.f]
    rw [if_pos (by omega)]; rfl
  | succ n ih =>
    intro hn x l k hk
    obtain ⟨k, rfl⟩ : ∃ m, k = m + 2 := ⟨k - 2, by omega⟩
    have hp := pred_cast n (by omega)
    simp only [impl_valType.f]
    rw [if_neg (by omega)]
    rcases shapeV l with rfl | ⟨a, b, rfl⟩ | ⟨h0, h2⟩
    · rw [if_pos (by simp), vt_nil]
      by_cases h0 : x ≥ 0
      · rw [if_pos h0]
        by_cases h9 : x ≤ 9999
        · rw [if_pos ⟨h0, h9⟩, decide_eq_true h9]; rfl
        · rw [if_neg (fun h => h9 h.2), decide_eq_false h9]; rfl
      · rw [if_neg h0, if_neg (fun h => h0 h.1)]; rfl
    · rw [if_neg (by simp), if_pos (by simp), vt_two]
      simp only [impl_valType.j0, hp, rv0, rv1]
      by_cases hx : x = 0
      · rw [if_neg (by simp [hx]), if_pos (by simp), if_pos hx, ih (by omega) _ _ _ (by omega)]; simp only [Option.bind_some]
        rw [if_pos (by simp), ih (by omega) _ _ _ (by omega)]; simp only [Option.bind_some]
        cases vt n a.f0 a.f1 with
        | none => rfl
        | some s =>
          cases vt n b.f0 b.f1 with
          | none => rfl
          | some u => rfl
      · rw [if_pos (by simpa using hx), if_neg hx]; rfl
    · rw [if_neg (by omega), if_neg (by omega), vt_odd _ _ _ h0 h2]
      simp only [impl_valType.j0, if_true]; rfl
theorem typed_ev (x : Int) (l : Vl) (k : Nat) (hk : 10 ≤ k) : impl_valTyped.f k x l = some (at_ (vt 4 x l)) := by
  unfold impl_valTyped.f
  rw [show (4 : Int) = ((4 : Nat) : Int) from rfl, valType_ev 4 (by omega) x l k (by omega)]; rfl
theorem same_ev : ∀ (n : Nat) (a b : Ty) (k : Nat), dp n a = true → dp n b = true → 4 * n ≤ k → impl_typeSame.f k a b = some (teq n a b) := by
  intro n
  induction n with
  | zero => intro a b k h; simp [dp] at h
  | succ n ih =>
    intro a b k ha hb hk
    obtain ⟨k, rfl⟩ : ∃ m, k = m + 4 := ⟨k - 4, by omega⟩
    simp only [impl_typeSame.f]
    rcases Types.shape a with rfl | ⟨a1, a2, rfl⟩ | ⟨h0, h2⟩
    · rcases Types.shape b with rfl | ⟨b1, b2, rfl⟩ | ⟨h0, h2⟩
      · rw [if_pos rfl]; simp only [impl_typeSame.l0]; rw [if_neg (by simp)]; rfl
      · rw [if_neg (by simp)]; rfl
      · rw [dp_odd _ _ h0 h2] at hb; cases hb
    · rcases Types.shape b with rfl | ⟨b1, b2, rfl⟩ | ⟨h0, h2⟩
      · rw [if_neg (by simp)]; rfl
      · rw [dp_two, Bool.and_eq_true] at ha hb
        rw [if_pos (by simp)]
        simp only [impl_typeSame.l0, w01, w12]
        rw [if_pos (by simp), if_pos (by omega), if_pos (by simp), if_pos (by simp), rd0, rd0, ih _ _ _ ha.1 hb.1 (by omega)]
        simp only [Option.bind_some]
        have e : teq (n + 1) [a1, a2] [b1, b2] = (teq n a1.f0 b1.f0 && teq n a2.f0 b2.f0) := rfl
        rw [e]
        cases h1 : teq n a1.f0 b1.f0 with
        | false => simp
        | true =>
          rw [if_pos rfl, if_pos (by simp), if_pos (by omega), if_pos (by simp), if_pos (by simp), rd1, rd1, ih _ _ _ ha.2 hb.2 (by omega)]
          simp only [Option.bind_some]
          cases h2 : teq n a2.f0 b2.f0 with
          | false => simp
          | true => rw [if_pos rfl, if_neg (by simp)]; rfl
      · rw [dp_odd _ _ h0 h2] at hb; cases hb
    · rw [dp_odd _ _ h0 h2] at ha; cases ha
def vm (n : Nat) (t : Ty) (x : Int) (l : Vl) : Bool := match vt n x l with | some s => teq n s t | none => false
def vo (t : Ty) (x : Int) (l : Vl) : Bool := dp 4 t && vm 4 t x l
theorem implValOk_ev (t : Ty) (x : Int) (l : Vl) (k : Nat) (hk : 20 ≤ k) : impl_ValOk.f k t x l = some (vo t x l) := by
  unfold impl_ValOk.f vo vm
  rw [implOk_ev t k (by omega)]; simp only [Option.bind_some]
  cases d : dp 4 t with
  | false => rfl
  | true =>
    simp only [if_true, Bool.true_and]
    rw [typed_ev x l k (by omega)]; simp only [Option.bind_some]
    cases e : vt 4 x l with
    | none => rfl
    | some s =>
      simp only [at_, if_true]
      rw [same_ev 4 s t k (vt_dp _ _ _ _ e) d (by omega)]; rfl
theorem vm_two (n : Nat) (x : Int) (a b : S50) (c d : S25) : vm (n + 1) [a, b] x [c, d] = ((x == 0) && (vm n a.f0 c.f0 c.f1 && vm n b.f0 d.f0 d.f1)) := by
  unfold vm
  rw [vt_two]
  by_cases hx : x = 0
  · rw [if_pos hx, beq_iff_eq.2 hx]
    cases vt n c.f0 c.f1 with
    | none => rfl
    | some s =>
      cases vt n d.f0 d.f1 with
      | none => simp
      | some u => rfl
  · rw [if_neg hx, beq_eq_false_iff_ne.2 hx]; rfl
theorem l1Val_ev : ∀ (n : Nat) (t : Ty) (x : Int) (l : Vl) (k : Nat), dp n t = true → 5 * n ≤ k → spec_l1Val.f k t x l = some (vm n t x l) := by
  intro n
  induction n with
  | zero => intro t x l k h; simp [dp] at h
  | succ n ih =>
    intro t x l k h hk
    obtain ⟨k, rfl⟩ : ∃ m, k = m + 5 := ⟨k - 5, by omega⟩
    simp only [spec_l1Val.f, spec_l6In.f]
    have bad : ∀ m t x l, spec_l1Val.j0 (m + 1) true t x l = some false := fun m t x l => by simp only [spec_l1Val.j0, if_true]
    rcases Types.shape t with rfl | ⟨a, b, rfl⟩ | ⟨h0, h2⟩
    · rcases shapeV l with rfl | ⟨c, d, rfl⟩ | ⟨g0, g2⟩
      · rw [if_pos (by simp), if_neg (by simp)]
        simp only [vm, vt_nil]
        by_cases hx : x ≥ 0
        · rw [if_pos hx]; simp only [Option.bind_some]
          by_cases h9 : x ≤ 9999
          · rw [decide_eq_true h9, if_pos ⟨hx, h9⟩]
            simp only [spec_l1Val.j0, spec_l1Val.l0, Bool.not_true]
            rw [if_neg (by simp), if_neg (by simp)]; rfl
          · rw [decide_eq_false h9, if_neg (fun h => h9 h.2)]
            exact bad _ _ _ _
        · rw [if_neg hx, if_neg (fun h => hx h.1)]; simp only [Option.bind_some]
          exact bad _ _ _ _
      · rw [if_neg (by simp), bad]
        simp only [vm]
        cases e : vt (n + 1) x [c, d] with
        | none => rfl
        | some s =>
          rcases vt_cases e with ⟨h, _⟩ | ⟨_, _, s, u, _, _, rfl, _, _⟩
          · cases h
          · rfl
      · rw [if_neg (by simp; simpa using g0), bad]
        simp only [vm, vt_odd _ _ _ g0 g2]
    · rcases shapeV l with rfl | ⟨c, d, rfl⟩ | ⟨g0, g2⟩
      · rw [if_neg (by simp), bad]
        simp only [vm, vt_nil]
        split
        · rename_i h; split at h
          · cases h; rfl
          · cases h
        · rfl
      · rw [if_pos (by simp), if_pos (by simp), vm_two]
        by_cases hx : x = 0
        · rw [if_pos hx, if_pos (by omega)]; simp only [Option.bind_some]
          rw [decide_eq_true (by omega)]
          rw [dp_two, Bool.and_eq_true] at h
          simp only [spec_l1Val.j0, spec_l1Val.l0, Bool.not_true, w01, w12]
          rw [if_neg (by simp), if_pos (by simp), if_pos (by omega), if_pos (by simp), rd0, rv0, ih _ _ _ _ h.1 (by omega)]; simp only [Option.bind_some]
          rw [beq_iff_eq.2 hx, Bool.true_and]
          cases e1 : vm n a.f0 c.f0 c.f1 with
          | false => rw [if_neg (by simp)]; rfl
          | true =>
            rw [if_pos rfl, if_pos (by simp), if_pos (by omega), if_pos (by simp), rd1, rv1, ih _ _ _ _ h.2 (by omega)]; simp only [Option.bind_some]
            cases e2 : vm n b.f0 d.f0 d.f1 with
            | false => rw [if_neg (by simp)]; rfl
            | true => rw [if_pos rfl, if_neg (by simp)]; rfl
        · rw [if_neg hx, bad, beq_eq_false_iff_ne.2 hx]; rfl
      · rw [if_neg (by simp; omega), bad]
        simp only [vm, vt_odd _ _ _ g0 g2]
    · rw [dp_odd _ _ h0 h2] at h; cases h
theorem specValOk_ev (t : Ty) (x : Int) (l : Vl) (k : Nat) (hk : 23 ≤ k) : spec_ValOk.f k t x l = some (vo t x l) := by
  unfold spec_ValOk.f vo
  rw [specOk_ev t k (by omega)]; simp only [Option.bind_some]
  cases d : dp 4 t with
  | false => rfl
  | true =>
    simp only [if_true, Bool.true_and]
    rw [l1Val_ev 4 t x l k d (by omega)]; rfl
theorem teq_self (t u : Ty) (n : Nat) (ht : dp n t = true) (hu : dp n u = true) : teq n t u = teq n u t := by
  cases e : teq n t u with
  | true => rw [teq_eq _ _ _ e, teq_refl _ _ hu]
  | false =>
    cases e2 : teq n u t with
    | true => rw [teq_eq _ _ _ e2, teq_refl _ _ ht] at e; cases e
    | false => rfl
theorem vo_iff (t : Ty) (x : Int) (l : Vl) : vo t x l = true ↔ vt 4 x l = some t := by
  unfold vo vm
  constructor
  · intro h
    rw [Bool.and_eq_true] at h
    cases e : vt 4 x l with
    | none => rw [e] at h; cases h.2
    | some s => rw [e] at h; rw [teq_eq _ _ _ h.2]
  · intro h
    have d := vt_dp _ _ _ _ h
    rw [h, d]
    exact teq_refl 4 t d
def pv : List Int → Int → Vl → Option (Int × Vl)
  | [], x, l => some (x, l)
  | i :: r, _, [a, b] => if i = 0 then pv r a.f0 a.f1 else if i = 1 then pv r b.f0 b.f1 else none
  | _ :: _, _, _ => none
theorem pv_nil (x : Int) (l : Vl) : pv [] x l = some (x, l) := by cases l <;> rfl
theorem pv_two (i : Int) (r : List Int) (x : Int) (a b : S25) : pv (i :: r) x [a, b] = if i = 0 then pv r a.f0 a.f1 else if i = 1 then pv r b.f0 b.f1 else none := rfl
theorem pv_odd (i : Int) (r : List Int) (x : Int) (l : Vl) (h : l.length ≠ 2) : pv (i :: r) x l = none := by
  match l with
  | [] => rfl
  | [_] => rfl
  | [_, _] => simp at h
  | _ :: _ :: _ :: _ => rfl
theorem pv_app (p q : List Int) : ∀ x l, pv (p ++ q) x l = (pv p x l).bind fun r => pv q r.1 r.2 := by
  induction p with
  | nil => intro x l; rw [List.nil_append, pv_nil]; rfl
  | cons i r ih =>
    intro x l
    by_cases h : l.length = 2
    · rcases shapeV l with rfl | ⟨a, b, rfl⟩ | ⟨_, h2⟩
      · simp at h
      · rw [List.cons_append, pv_two, pv_two]
        split
        · exact ih _ _
        · split
          · exact ih _ _
          · rfl
      · exact absurd h h2
    · rw [List.cons_append, pv_odd _ _ _ _ h, pv_odd _ _ _ _ h]; rfl
theorem vt_pv (n : Nat) : ∀ (p : List Int) (x : Int) (l : Vl) (t : Ty), vt n x l = some t →
    (∀ y m, pv p x l = some (y, m) → ∃ u, pf p t = some u ∧ vt n y m = some u) ∧ (pv p x l = none → pf p t = none) := by
  intro p
  induction p with
  | nil =>
    intro x l t h
    rw [pv_nil]
    exact ⟨fun y m e => by cases e; exact ⟨t, pf_nil t, h⟩, fun e => by cases e⟩
  | cons i r ih =>
    intro x l t h
    cases n with
    | zero => cases h
    | succ n =>
      rcases vt_cases h with ⟨rfl, rfl, _, _⟩ | ⟨a, b, s, u, rfl, rfl, rfl, h1, h2⟩
      · exact ⟨fun y m e => (by cases e), fun _ => rfl⟩
      · rw [pv_two, pf_two]
        by_cases h0 : i = 0
        · rw [if_pos h0, if_pos h0]; exact ih _ _ _ (vt_succ _ _ _ _ h1)
        · rw [if_neg h0, if_neg h0]
          by_cases h3 : i = 1
          · rw [if_pos h3, if_pos h3]; exact ih _ _ _ (vt_succ _ _ _ _ h2)
          · rw [if_neg h3, if_neg h3]; exact ⟨fun y m e => (by cases e), fun _ => rfl⟩
def av (o : Option (Int × Vl)) : Int × Vl × Bool := match o with | some r => (r.1, r.2, true) | none => (0, [], false)
theorem valLoop_ev : ∀ (r pre : List Int) (x : Int) (l : Vl) (k : Nat), pre.length + r.length ≤ 4611686018427387904 → r.length + 1 ≤ k →
    impl_Val.l0 k (pre ++ r) ((pre ++ r).length : Int) (pre.length : Int) x l = some (av (pv r x l)) := by
  intro r
  induction r with
  | nil =>
    intro pre x l k h1 hk
    obtain ⟨k, rfl⟩ : ∃ m, k = m + 1 := ⟨k - 1, by simp at hk; omega⟩
    simp only [impl_Val.l0]
    rw [if_neg (by simp), pv_nil]; rfl
  | cons i r ih =>
    intro pre x l k h1 hk
    simp only [List.length_cons] at h1 hk
    obtain ⟨k, rfl⟩ : ∃ m, k = m + 1 := ⟨k - 1, by omega⟩
    simp only [impl_Val.l0, impl_Val_parts.f, Option.bind_some]
    have hl : ((pre ++ i :: r).length : Int) = pre.length + 1 + r.length := by simp; omega
    rw [if_pos (by omega), if_pos (by omega), if_pos (by omega), rd_mid]
    rcases shapeV l with rfl | ⟨a, b, rfl⟩ | ⟨_, h2⟩
    · rw [if_neg (by simp), pv_odd _ _ _ _ (by simp)]; rfl
    · rw [if_pos (by simp), pv_two]
      by_cases hn : i < 0
      · rw [if_pos hn, if_neg (by omega), if_neg (by omega)]; rfl
      · rw [if_neg hn]
        by_cases hb : i > 1
        · rw [if_pos hb, if_neg (by omega), if_neg (by omega)]; rfl
        · rw [if_neg hb, if_pos (by omega), if_pos (by simp; omega), w64 (by omega) (by omega)]
          have ea : pre ++ i :: r = (pre ++ [i]) ++ r := by simp
          have el : (pre.length : Int) + 1 = ((pre ++ [i]).length : Int) := by simp
          rw [el, ea]
          by_cases h0 : i = 0
          · rw [if_pos h0, ih _ _ _ _ (by simp; omega) (by omega), h0, rv0]
          · rw [if_neg h0, if_pos (by omega), ih _ _ _ _ (by simp; omega) (by omega), show i = 1 by omega, rv1]
    · rw [if_neg (by omega), pv_odd _ _ _ _ h2]; rfl
theorem implVal_ev (x : Int) (l : Vl) (p : List Int) (k : Nat) (h : p.length ≤ 4611686018427387904) (hk : p.length + 1 ≤ k) : impl_Val.f k x l p = some (av (pv p x l)) := by
  unfold impl_Val.f
  have := valLoop_ev p [] x l k (by simpa using h) hk
  simpa using this
theorem valCopy_ev : ∀ (n : Nat) (x : Int) (l : Vl) (t : Ty) (k : Nat), vt n x l = some t → n ≤ k → impl_valCopy.f k x l = some (x, l) := by
  intro n
  induction n with
  | zero => intro x l t k h; cases h
  | succ n ih =>
    intro x l t k h hk
    obtain ⟨k, rfl⟩ : ∃ m, k = m + 1 := ⟨k - 1, by omega⟩
    simp only [impl_valCopy.f]
    rcases vt_cases h with ⟨rfl, rfl, _, _⟩ | ⟨a, b, s, u, rfl, rfl, rfl, h1, h2⟩
    · rw [if_pos (by simp)]
    · rw [if_neg (by simp), if_pos (by simp), rv0, ih _ _ _ _ h1 (by omega)]; simp only [Option.bind_some]
      rw [if_pos (by simp), rv1, ih _ _ _ _ h2 (by omega)]; simp only [Option.bind_some]
      cases a; cases b; rfl
def vat (x : Int) (l : Vl) (p : List Int) : Int × Vl × Bool := if (vt 4 x l).isSome = true then av (pv p x l) else (0, [], false)
theorem implValAt_ev (x : Int) (l : Vl) (p : List Int) (k : Nat) (h : p.length ≤ 4611686018427387904) (hk : p.length + 20 ≤ k) : impl_ValAt.f k x l p = some (vat x l p) := by
  unfold impl_ValAt.f vat
  rw [typed_ev x l k (by omega)]; simp only [Option.bind_some]
  cases e : vt 4 x l with
  | none => rfl
  | some t =>
    simp only [at_, if_true, Option.isSome_some]
    rw [implVal_ev x l p k h (by omega)]; simp only [Option.bind_some]
    cases e2 : pv p x l with
    | none => rfl
    | some r =>
      obtain ⟨u, _, hu⟩ := (vt_pv 4 p x l t e).1 r.1 r.2 e2
      simp only [av, if_true]
      rw [valCopy_ev 4 r.1 r.2 u k hu (by omega)]; rfl
theorem type_dp (s : List Int) : ∀ (k d : Nat) (p : Int) (r : Ty) (q : Int), d ≤ 1000 → spec_l71Type.f k s p d = some (r, q) → dp (d + 1) r = true := by
  intro k
  induction k using Nat.strongRecOn with
  | _ k ih =>
    intro d p r q hd h
    match k, ih, h with
    | 0, _, h => simp [spec_l71Type.f] at h
    | 1, _, h =>
      simp only [spec_l71Type.f] at h
      split at h
      · simp [spec_l71Type.j0] at h
      · cases e : spec_l6Rd_pick.f 0 s p 3 with
        | none => rw [e] at h; cases h
        | some c => rw [e] at h; simp [spec_l71Type.j0] at h
    | k + 2, ih, h =>
      simp only [spec_l71Type.f] at h
      split at h
      · simp only [spec_l71Type.j0, if_true] at h
        cases h; rfl
      · rename_i h2
        cases e : spec_l6Rd_pick.f (k + 1) s p 3 with
        | none => rw [e] at h; cases h
        | some c =>
          rw [e] at h
          simp only [Option.bind_some, spec_l71Type.j0] at h
          split at h
          · cases h; rfl
          · obtain ⟨d, rfl⟩ : ∃ m, d = m + 1 := ⟨d - 1, by omega⟩
            have ew : wrap64 (((d + 1 : Nat) : Int) - 1) = (d : Int) := pred_cast d (by omega)
            rw [ew] at h
            cases e1 : spec_l71Type.f k s c.2 d with
            | none => rw [e1] at h; cases h
            | some a =>
              rw [e1] at h
              simp only [Option.bind_some] at h
              cases e2 : spec_l71Type.f k s a.2 d with
              | none => rw [e2] at h; cases h
              | some b =>
                rw [e2] at h
                cases h
                rw [dp_two, ih k (by omega) d _ a.1 a.2 (by omega) e1, ih k (by omega) d _ b.1 b.2 (by omega) e2]; rfl
theorem val_ev (s : List Int) (hs : Bytes s) : ∀ (n : Nat) (t : Ty) (p : Int), dp n t = true → 0 ≤ p → p + 2 ^ n ≤ 1099511000000 →
    ∃ x l q, (∀ k, n + 3 ≤ k → spec_l71Val.f k s p t = some (x, l, q)) ∧ p ≤ q ∧ q ≤ p + 2 ^ n ∧ l.length ≤ 2 := by
  intro n
  induction n with
  | zero => intro t p h; simp [dp] at h
  | succ n ih =>
    intro t p h hp hp1
    have hpow : (2 : Int) ^ (n + 1) = 2 ^ n + 2 ^ n := by rw [Int.pow_succ]; omega
    have hpos : (1 : Int) ≤ 2 ^ n := by have := Int.pow_pos (n := 2) (m := n) (by decide); omega
    rw [hpow] at hp1 ⊢
    generalize (2 : Int) ^ n = e at *
    rcases Types.shape t with rfl | ⟨a, b, rfl⟩ | ⟨h0, h2⟩
    · obtain ⟨c, hc, c0, c1⟩ := pick_ev s hs p 7 hp (by omega) (by omega)
      refine ⟨rd [0, 1, 2, 3, 7, 50, 9999] c, [], p + 1, fun k hk => ?_, by omega, by omega, by simp⟩
      obtain ⟨k, rfl⟩ : ∃ m, k = m + 1 := ⟨k - 1, by omega⟩
      simp only [spec_l71Val.f]
      rw [if_pos (by simp)]; simp only [Option.bind_some]
      rw [hc k (by omega)]; simp only [Option.bind_some]
      rw [if_pos c0, if_pos (by simp; omega)]
    · rw [dp_two, Bool.and_eq_true] at h
      obtain ⟨x1, l1, q1, h1, g1, g2, _⟩ := ih a.f0 p h.1 hp (by omega)
      obtain ⟨x2, l2, q2, h3, g3, g4, _⟩ := ih b.f0 q1 h.2 (by omega) (by omega)
      refine ⟨0, [⟨x1, l1⟩, ⟨x2, l2⟩], q2, fun k hk => ?_, by omega, by omega, by simp⟩
      obtain ⟨k, rfl⟩ : ∃ m, k = m + 1 := ⟨k - 1, by omega⟩
      simp only [spec_l71Val.f]
      rw [if_neg (by simp), if_pos (by simp), rd0, h1 k (by omega)]; simp only [Option.bind_some]
      rw [if_pos (by simp), rd1, h3 k (by omega)]; rfl
    · rw [dp_odd _ _ h0 h2] at h; cases h
theorem badLoop_ev (s : List Int) (p : Int) : ∀ (d i : Nat), i + d = 5 → ∀ (x : Int) (l : Vl), ∃ y m, ∀ k, d + 1 ≤ k → spec_l71Bad.l0 k i s p x l = some (y, m, p) := by
  intro d
  induction d with
  | zero =>
    intro i hi x l
    refine ⟨x, l, fun k hk => ?_⟩
    obtain ⟨k, rfl⟩ : ∃ m, k = m + 1 := ⟨k - 1, by omega⟩
    simp only [spec_l71Bad.l0]
    rw [if_neg (by omega)]
  | succ d ih =>
    intro i hi x l
    obtain ⟨y, m, h⟩ := ih (i + 1) (by omega) 0 [⟨x, l⟩, ⟨0, []⟩]
    refine ⟨y, m, fun k hk => ?_⟩
    obtain ⟨k, rfl⟩ : ∃ m, k = m + 1 := ⟨k - 1, by omega⟩
    simp only [spec_l71Bad.l0]
    rw [if_pos (by omega), w64 (by omega) (by omega)]
    exact h k (by omega)
theorem pow20 (n : Nat) (hn : n ≤ 20) : (2 : Int) ^ n ≤ 1048576 := by
  have h : (2 : Nat) ^ n ≤ 2 ^ 20 := Nat.pow_le_pow_right (by decide) hn
  have e : (2 : Nat) ^ 20 = 1048576 := rfl
  rw [e] at h
  have := Int.ofNat_le.2 h
  rwa [Int.natCast_pow] at this
theorem bad_ev (s : List Int) (hs : Bytes s) (n : Nat) (hn : n ≤ 20) (t : Ty) (d : dp n t = true) (p : Int) (hp : 0 ≤ p) (hp1 : p ≤ 1099500000000) :
    ∃ x l q, (∀ k, n + 12 ≤ k → spec_l71Bad.f k s p t = some (x, l, q)) ∧ p ≤ q ∧ q ≤ p + 1048578 := by
  have hmax := pow20 n hn
  obtain ⟨x, l, q, hv, g1, g2, hl⟩ := val_ev s hs n t p d hp (by omega)
  generalize (2 : Int) ^ n = e at *
  obtain ⟨c, hc, c0, c1⟩ := pick_ev s hs q 12 (by omega) (by omega) (by omega)
  by_cases e0 : c = 0
  · obtain ⟨c', hc', c0', c1'⟩ := pick_ev s hs (q + 1) 4 (by omega) (by omega) (by omega)
    refine ⟨rd [(-1), 1, 9999, 10000] c', l, q + 1 + 1, fun k hk => ?_, by omega, by omega⟩
    unfold spec_l71Bad.f
    rw [hv k (by omega)]; simp only [Option.bind_some]
    rw [hc k (by omega)]; simp only [Option.bind_some]
    rw [if_pos e0, hc' k (by omega)]; simp only [Option.bind_some]
    rw [if_pos c0', if_pos (by simp; omega)]
  · by_cases e1 : c = 1
    · refine ⟨x, l ++ [⟨0, []⟩], q + 1, fun k hk => ?_, by omega, by omega⟩
      unfold spec_l71Bad.f
      rw [hv k (by omega)]; simp only [Option.bind_some]
      rw [hc k (by omega)]; simp only [Option.bind_some]
      rw [if_neg e0, if_pos e1, if_pos (by omega)]
    · by_cases e2 : c = 2
      · obtain ⟨y, m, hm⟩ := badLoop_ev s (q + 1) 5 0 rfl x l
        refine ⟨y, m, q + 1, fun k hk => ?_, by omega, by omega⟩
        unfold spec_l71Bad.f
        rw [hv k (by omega)]; simp only [Option.bind_some]
        rw [hc k (by omega)]; simp only [Option.bind_some]
        rw [if_neg e0, if_neg e1, if_pos e2]
        exact hm k (by omega)
      · refine ⟨x, l, q + 1, fun k hk => ?_, by omega, by omega⟩
        unfold spec_l71Bad.f
        rw [hv k (by omega)]; simp only [Option.bind_some]
        rw [hc k (by omega)]; simp only [Option.bind_some]
        rw [if_neg e0, if_neg e1, if_neg e2]
theorem typeN_ev (s : List Int) (hs : Bytes s) (d : Nat) (hd : d ≤ 20) (p : Int) (hp : 0 ≤ p) (hp1 : p ≤ 1099500000000) :
    ∃ r q, (∀ k, 3 * d + 4 ≤ k → spec_l71Type.f k s p d = some (r, q)) ∧ p ≤ q ∧ q ≤ p + 1048576 ∧ dp (d + 1) r = true := by
  have hmax := pow20 d hd
  obtain ⟨r, q, hr, _, h1, h2, _⟩ := type_ev s hs d (by omega) p hp (by omega)
  exact ⟨r, q, hr, h1, by omega, type_dp s _ d p r q (by omega) (hr (3 * d + 4) (Nat.le_refl _))⟩
theorem drawVal_ev (l : List Int) (h : ∀ x ∈ l, (Lit.int .u8 x).wf = true) : ∃ t x v, ∀ k, 60 ≤ k → spec_DrawValOk.f k l = some (t, x, v) := by
  obtain ⟨s, ho, hs⟩ := open_ev l h
  obtain ⟨c, hc, c0, c1⟩ := pick_ev s hs 0 4 (by omega) (by omega) (by omega)
  obtain ⟨cn, rfl⟩ := Int.eq_ofNat_of_zero_le c0
  have ew : wrap64 (1 + (cn : Int)) = ((1 + cn : Nat) : Int) := by rw [w64 (by omega) (by omega)]; omega
  obtain ⟨t, q1, ht, g1, g2, d1⟩ := typeN_ev s hs (1 + cn) (by omega) (0 + 1) (by omega) (by omega)
  obtain ⟨c', hc', c0', c1'⟩ := pick_ev s hs q1 5 (by omega) (by omega) (by omega)
  by_cases e : c' = 0
  · obtain ⟨t2, q2, ht2, g3, g4, d2⟩ := typeN_ev s hs 3 (by omega) (q1 + 1) (by omega) (by omega)
    obtain ⟨x, v, q3, hx, _, _⟩ := bad_ev s hs 4 (by omega) t2 d2 q2 (by omega) (by omega)
    refine ⟨t, x, v, fun k hk => ?_⟩
    unfold spec_DrawValOk.f
    rw [ho]; simp only [Option.bind_some]
    rw [hc k (by omega)]; simp only [Option.bind_some]
    rw [ew, ht k (by omega)]; simp only [Option.bind_some]
    rw [hc' k (by omega)]; simp only [Option.bind_some]
    rw [if_pos e, show (3 : Int) = ((3 : Nat) : Int) from rfl, ht2 k (by omega)]; simp only [Option.bind_some]
    rw [hx k (by omega)]; rfl
  · obtain ⟨x, v, q3, hx, _, _⟩ := bad_ev s hs (1 + cn + 1) (by omega) t d1 (q1 + 1) (by omega) (by omega)
    refine ⟨t, x, v, fun k hk => ?_⟩
    unfold spec_DrawValOk.f
    rw [ho]; simp only [Option.bind_some]
    rw [hc k (by omega)]; simp only [Option.bind_some]
    rw [ew, ht k (by omega)]; simp only [Option.bind_some]
    rw [hc' k (by omega)]; simp only [Option.bind_some]
    rw [if_neg e, hx k (by omega)]; rfl
end Go.Proofs.Ythfflieeifakdaa.Vals
end
section
set_option linter.unusedVariables false
set_option linter.unusedSimpArgs false
namespace Go.Proofs.Ythfflieeifakdaa.Ats
open Go.RowKit Go.Proofs.Ythfflieeifakdaa.PA Go.Proofs.YthfflieeifakdaaW.PrintWords Go.Proofs.YthfflieeifakdaaW.PrintLast Go.Proofs.Ythfflieeifakdaa.Draw Go.Proofs.Ythfflieeifakdaa.Types Go.Proofs.Ythfflieeifakdaa.Paths Go.Proofs.Ythfflieeifakdaa.Vals
def st : Nat → Vl → Option Ty
  | 0, _ => none
  | _ + 1, [] => some []
  | n + 1, [a, b] => (st n a.f1).bind fun s => (st n b.f1).bind fun t => some [⟨s⟩, ⟨t⟩]
  | _ + 1, _ => none
theorem st_nil (n : Nat) : st (n + 1) [] = some [] := rfl
theorem st_two (n : Nat) (a b : S25) : st (n + 1) [a, b] = (st n a.f1).bind fun s => (st n b.f1).bind fun t => some [⟨s⟩, ⟨t⟩] := rfl
theorem st_odd (n : Nat) (l : Vl) (h0 : l.length ≠ 0) (h2 : l.length ≠ 2) : st n l = none := by
  cases n with
  | zero => rfl
  | succ n =>
    match l with
    | [] => simp at h0
    | [_] => rfl
    | [_, _] => simp at h2
    | _ :: _ :: _ :: _ => rfl
theorem st_vt : ∀ (n : Nat) (x : Int) (l : Vl) (t : Ty), vt n x l = some t → st n l = some t := by
  intro n
  induction n with
  | zero => intro x l t h; cases h
  | succ n ih =>
    intro x l t h
    rcases vt_cases h with ⟨rfl, rfl, _, _⟩ | ⟨a, b, s, u, rfl, rfl, rfl, h1, h2⟩
    · rfl
    · rw [st_two, ih _ _ _ h1, ih _ _ _ h2]; rfl
theorem of_ev : ∀ (n : Nat), n ≤ 1000 → ∀ (x : Int) (l : Vl) (k : Nat), 5 * n + 3 ≤ k →
    (∀ t, st n l = some t → spec_l1Of.f k x l n = some (t, true)) ∧ (st n l = none → ∃ t, spec_l1Of.f k x l n = some (t, false)) := by
  intro n
  induction n with
  | zero =>
    intro _ x l k hk
    obtain ⟨k, rfl⟩ : ∃ m, k = m + 2 := ⟨k - 2, by omega⟩
    refine ⟨fun t h => (by cases h), fun _ => ⟨[], ?_⟩⟩
    simp only [spec_l1Of.f]
    rw [if_pos (by omega)]
    simp only [spec_l1Of.j0, if_true]
  | succ n ih =>
    intro hn x l k hk
    obtain ⟨k, rfl⟩ : ∃ m, k = m + 5 := ⟨k - 5, by omega⟩
    have hp := pred_cast n (by omega)
    simp only [spec_l1Of.f]
    rw [if_neg (by omega)]
    rcases shapeV l with rfl | ⟨a, b, rfl⟩ | ⟨h0, h2⟩
    · rw [if_pos (by simp)]
      refine ⟨fun t h => ?_, fun h => (by cases h)⟩
      cases h
      simp only [spec_l1Of.j0, spec_l1Of.l0]
      rw [if_neg (by simp), if_neg (by simp)]
    · rw [if_neg (by simp), show ((([a, b] : Vl).length : Int) != 2) = false from by simp]
      simp only [spec_l1Of.j0, spec_l1Of.l0, hp, w01, w12]
      rw [if_neg (by simp), if_pos (by simp), if_pos (by omega), rv0, st_two]
      have i1 := ih (by omega) a.f0 a.f1 (k + 2) (by omega)
      cases e1 : st n a.f1 with
      | none =>
        obtain ⟨t, h1⟩ := i1.2 e1
        rw [h1]; simp only [Option.bind_some]
        exact ⟨fun t h => (by cases h), fun _ => ⟨[], by rw [if_neg (by simp)]⟩⟩
      | some s =>
        rw [i1.1 s e1]; simp only [Option.bind_some, if_true]
        rw [if_pos (by simp), if_pos (by simp), if_pos (by omega), rv1]
        have i2 := ih (by omega) b.f0 b.f1 (k + 1) (by omega)
        cases e2 : st n b.f1 with
        | none =>
          obtain ⟨t, h1⟩ := i2.2 e2
          rw [h1]; simp only [Option.bind_some]
          exact ⟨fun t h => (by cases h), fun _ => ⟨_, by rw [if_neg (by simp)]⟩⟩
        | some u =>
          rw [i2.1 u e2]; simp only [Option.bind_some, if_true]
          rw [if_pos (by simp), if_neg (by simp)]
          exact ⟨fun t h => (by cases h; rfl), fun h => (by cases h)⟩
    · rw [if_neg (by omega), show ((l.length : Int) != 2) = true from by simp; omega]
      refine ⟨fun t h => (by rw [st_odd _ _ h0 h2] at h; cases h), fun _ => ⟨[], ?_⟩⟩
      simp only [spec_l1Of.j0, if_true]
theorem any_ok (x : Int) (l : Vl) (k : Nat) (hk : 25 ≤ k) : spec_l1Any.f k x l = some (vt 4 x l).isSome := by
  unfold spec_l1Any.f
  rw [show (4 : Int) = ((4 : Nat) : Int) from rfl]
  have h := of_ev 4 (by omega) x l k (by omega)
  cases e : st 4 l with
  | none =>
    obtain ⟨t, h1⟩ := h.2 e
    rw [h1]; simp only [Option.bind_some]
    rw [if_neg (by simp)]
    cases e2 : vt 4 x l with
    | none => rfl
    | some t => rw [st_vt _ _ _ _ e2] at e; cases e
  | some t =>
    rw [h.1 t e]; simp only [Option.bind_some, if_true]
    rw [specValOk_ev t x l k (by omega)]; simp only [Option.bind_some]
    cases e2 : vt 4 x l with
    | none =>
      cases e3 : vo t x l with
      | false => rfl
      | true => rw [(vo_iff t x l).1 e3] at e2; cases e2
    | some u =>
      have := st_vt _ _ _ _ e2
      rw [e] at this
      cases this
      rw [(vo_iff t x l).2 e2]; rfl
theorem anew_ev : ∀ (n : Nat) (x : Int) (l : Vl) (t : Ty) (k : Nat), vt n x l = some t → 4 * n ≤ k → spec_l1Anew.f k x l = some (x, l) := by
  intro n
  induction n with
  | zero => intro x l t k h; cases h
  | succ n ih =>
    intro x l t k h hk
    obtain ⟨k, rfl⟩ : ∃ m, k = m + 4 := ⟨k - 4, by omega⟩
    simp only [spec_l1Anew.f]
    rcases vt_cases h with ⟨rfl, rfl, _, _⟩ | ⟨a, b, s, u, rfl, rfl, rfl, h1, h2⟩
    · simp only [spec_l1Anew.l0]; rw [if_neg (by simp)]
    · simp only [spec_l1Anew.l0, w01, w12]
      rw [if_pos (by simp), if_pos (by omega), rv0, ih _ _ _ _ h1 (by omega)]; simp only [Option.bind_some]
      rw [if_pos (by simp), if_pos (by simp), if_pos (by omega), rv1, ih _ _ _ _ h2 (by omega)]; simp only [Option.bind_some]
      rw [if_pos (by simp), if_neg (by simp)]
      cases a; cases b; rfl
theorem specVLoop_ev (n : Nat) : ∀ (r pre : List Int) (x : Int) (l : Vl) (t : Ty) (k : Nat), vt n x l = some t → pre.length + r.length ≤ 4611686018427387904 → r.length + 4 * n + 1 ≤ k →
    spec_ValAt.l0 k (pre ++ r) (pre.length : Int) x l = some (av (pv r x l)) := by
  intro r
  induction r with
  | nil =>
    intro pre x l t k h h1 hk
    obtain ⟨k, rfl⟩ : ∃ m, k = m + 1 := ⟨k - 1, by omega⟩
    simp only [List.length_nil] at hk
    simp only [spec_ValAt.l0]
    rw [if_neg (by simp), anew_ev n x l t k h (by omega), pv_nil]; rfl
  | cons i r ih =>
    intro pre x l t k h h1 hk
    simp only [List.length_cons] at h1 hk
    obtain ⟨k, rfl⟩ : ∃ m, k = m + 1 := ⟨k - 1, by omega⟩
    simp only [spec_ValAt.l0, spec_l6In.f]
    have hl : ((pre ++ i :: r).length : Int) = pre.length + 1 + r.length := by simp; omega
    rw [if_pos (by omega), if_pos (by omega), rd_mid]
    cases n with
    | zero => cases h
    | succ n =>
      rcases vt_cases h with ⟨rfl, rfl, _, _⟩ | ⟨a, b, s, u, rfl, rfl, rfl, g1, g2⟩
      · rw [pv_odd _ _ _ _ (by simp), show wrap64 ((([] : Vl).length : Int) - 1) = -1 from w64 (by simp) (by simp)]
        by_cases hn : i ≥ 0
        · rw [if_pos hn]; simp only [Option.bind_some]; rw [if_neg (by simp; omega)]; rfl
        · rw [if_neg hn]; rfl
      · rw [pv_two, show wrap64 ((([a, b] : Vl).length : Int) - 1) = 1 from w64 (by simp) (by simp)]
        by_cases hn : i ≥ 0
        · rw [if_pos hn]; simp only [Option.bind_some]
          by_cases hb : i ≤ 1
          · rw [if_pos (by simpa using hb), if_pos (by omega), if_pos (by simp; omega), w64 (by omega) (by omega)]
            have ea : pre ++ i :: r = (pre ++ [i]) ++ r := by simp
            have el : (pre.length : Int) + 1 = ((pre ++ [i]).length : Int) := by simp
            rw [el, ea]
            by_cases h0 : i = 0
            · rw [if_pos h0, h0, rv0, ih _ _ _ _ _ (vt_succ _ _ _ _ g1) (by simp; omega) (by omega)]
            · rw [if_neg h0, if_pos (by omega), show i = 1 by omega, rv1, ih _ _ _ _ _ (vt_succ _ _ _ _ g2) (by simp; omega) (by omega)]
          · rw [if_neg (by simpa using hb), if_neg (by omega), if_neg (by omega)]; rfl
        · rw [if_neg hn, if_neg (show ¬ i = 0 by omega), if_neg (show ¬ i = 1 by omega)]; rfl
theorem specValAt_ev (x : Int) (l : Vl) (p : List Int) (k : Nat) (h : p.length ≤ 4611686018427387904) (hk : p.length + 30 ≤ k) : spec_ValAt.f k x l p = some (vat x l p) := by
  unfold spec_ValAt.f vat
  rw [any_ok x l k (by omega)]; simp only [Option.bind_some]
  cases e : vt 4 x l with
  | none => rfl
  | some t =>
    simp only [Option.isSome_some, if_true]
    have := specVLoop_ev 4 p [] x l t k e (by simpa using h) (by omega)
    simpa using this
theorem vat_vt (x : Int) (l : Vl) (p : List Int) : ∃ t, vt 4 (vat x l p).1 (vat x l p).2.1 = some t := by
  unfold vat
  cases e : vt 4 x l with
  | none => exact ⟨[], rfl⟩
  | some t =>
    simp only [Option.isSome_some, if_true]
    cases e2 : pv p x l with
    | none => exact ⟨[], rfl⟩
    | some r =>
      obtain ⟨u, _, hu⟩ := (vt_pv 4 p x l t e).1 r.1 r.2 e2
      exact ⟨u, hu⟩
theorem lhv_self : ∀ (n : Nat) (x : Int) (l : Vl) (t : Ty) (k : Nat), vt n x l = some t → 5 * n ≤ k → laws_lhVal.f k x l x l = some true := by
  intro n
  induction n with
  | zero => intro x l t k h; cases h
  | succ n ih =>
    intro x l t k h hk
    obtain ⟨k, rfl⟩ : ∃ m, k = m + 5 := ⟨k - 5, by omega⟩
    simp only [laws_lhVal.f, if_true]
    rw [show ((l.length : Int) != (l.length : Int)) = false from by simp]
    rcases vt_cases h with ⟨rfl, rfl, _, _⟩ | ⟨a, b, s, u, rfl, rfl, rfl, h1, h2⟩
    · simp only [laws_lhVal.j0, laws_lhVal.l0]; rw [if_neg (by simp), if_neg (by simp)]
    · simp only [laws_lhVal.j0, laws_lhVal.l0, w01, w12]
      rw [if_neg (by simp), if_pos (by simp), if_pos (by omega), if_pos (by simp), rv0, ih _ _ _ _ h1 (by omega)]; simp only [Option.bind_some, if_true]
      rw [if_pos (by simp), if_pos (by omega), if_pos (by simp), rv1, ih _ _ _ _ h2 (by omega)]; simp only [Option.bind_some, if_true]
      rw [if_neg (by simp)]
end Go.Proofs.Ythfflieeifakdaa.Ats
end
section
namespace Go.Proofs.Ythfflieeifakdaa.PA
open Go.RowKit Go.Proofs.YthfflieeifakdaaW.PrintWords Go.Proofs.YthfflieeifakdaaW.PrintLast Go.Proofs.YthfflieeifakdaaW.PrintMore
attribute [local go_sem] max2_int min2_int max_two min_two max_three min_three max_four min_four
set_option linter.unusedVariables false
set_option linter.unusedSimpArgs false
mutual
def spec_l1Same.l0 : Nat → Int → List (S50) → List (S50) → Option (Bool)
 | 0, _, _, _ => none
 | k + 1, x5, x642000, x643000 => if x5 < (x642000.length : Int) then (if 0 ≤ x5 then (if x5 < (x643000.length : Int) then ((spec_l1Same.f k ((rd_T50 x642000 x5).f0) ((rd_T50 x643000 x5).f0)).bind fun t645 => (if t645 = true then (spec_l1Same.l0 k (wrap64 (x5 + 1)) x642000 x643000) else (some false))) else (none)) else (none)) else (some true)
def spec_l1Same.f : Nat → List (S50) → List (S50) → Option (Bool)
 | 0, _, _ => none
 | k + 1, l0_0, l1_0 => if (l0_0.length : Int) = (l1_0.length : Int) then (spec_l1Same.l0 k 0 l0_0 l1_0) else (some false)
end
theorem spec_l1Same.mono_l : ∀ k, (∀ y0 y1, LeO (spec_l1Same.f k y0 y1) (spec_l1Same.f (k + 1) y0 y1)) ∧ (∀ y0 y1 y2, LeO (spec_l1Same.l0 k y0 y1 y2) (spec_l1Same.l0 (k + 1) y0 y1 y2))
 | 0 => ⟨fun _ _ r h => by simp [spec_l1Same.f] at h, fun _ _ _ r h => by simp [spec_l1Same.l0] at h⟩
 | k + 1 => by
  obtain ⟨ih0, ih1⟩ := spec_l1Same.mono_l k
  refine ⟨?_, ?_⟩
  ·intro y0 y1
   unfold spec_l1Same.f
   repeat' first
   | (with_reducible exact ih0 _ _)
   | (with_reducible exact ih1 _ _ _)
   | (with_reducible exact LeO.refl _)
   | (with_reducible exact LeO.none _)
   | (with_reducible refine LeO.ite ?_ ?_)
   | (with_reducible refine LeO.bind ?_ (fun _ => ?_))
   | exact ih0 _ _
   | exact ih1 _ _ _
   | exact LeO.none _
   | refine LeO.ite ?_ ?_
   | refine LeO.bind ?_ (fun _ => ?_)
  ·intro y0 y1 y2
   unfold spec_l1Same.l0
   repeat' first
   | (with_reducible exact ih0 _ _)
   | (with_reducible exact ih1 _ _ _)
   | (with_reducible exact LeO.refl _)
   | (with_reducible exact LeO.none _)
   | (with_reducible refine LeO.ite ?_ ?_)
   | (with_reducible refine LeO.bind ?_ (fun _ => ?_))
   | exact ih0 _ _
   | exact ih1 _ _ _
   | exact LeO.none _
   | refine LeO.ite ?_ ?_
   | refine LeO.bind ?_ (fun _ => ?_)
theorem spec_l1Same.mono : ∀ a0 a1 k, LeO (spec_l1Same.f k a0 a1) (spec_l1Same.f (k + 1) a0 a1) := by
 intro a0 a1 k
 obtain ⟨ih0, ih1⟩ := spec_l1Same.mono_l k
 exact ih0 a0 a1
def spec_l1Same.T6 : Bool × List (List Nat × List Nat) := (true, [([], []), ([0], [0]), ([], []), ([1, 2], [1, 2]), ([3], [3]), ([], []), ([5], [5]), ([], []), ([6, 7], [6, 7]), ([8], [8]), ([4, 9], [4, 9]), ([10], [10])])
def spec_l1Same.B6 : List Nat := [0, 1, 0, 7, 15, 0, 32, 0, 224, 480, 1023, 2047]
theorem spec_l1Same.tab6 : rtab .any (opsOf Try.f50 6) = spec_l1Same.T6 := by kernel_rfl
theorem spec_l1Same.bits6 : waitsOk spec_l1Same.T6.2 spec_l1Same.B6 = true := by kernel_rfl
set_option maxHeartbeats 8000000 in
set_option maxRecDepth 100000 in
theorem spec_l1Same.calls (k : Nat) : ∀ (A0_0 : Option Addr) (c0_0 : Nat) (l0_0 : List (S50)) (A1_0 : Option Addr) (c1_0 : Nat) (l1_0 : List (S50)) (r : Bool) (w : World) (hr0_0 : Kd.C k50 w A0_0 l0_0.length l0_0) (hc0_0 : l0_0.length ≤ c0_0) (hr1_0 : Kd.C k50 w A1_0 l1_0.length l1_0) (hc1_0 : l1_0.length ≤ c1_0) (h : spec_l1Same.f k l0_0 l1_0 = some r),
  Calls Try.prog 50 #[.agg #[.slice A0_0 l0_0.length c0_0], .agg #[.slice A1_0 l1_0.length c1_0]] w fun e w' => e = .returned (.bool r) ∧ Below w.heap.size w w' := by
 induction k using Nat.strongRecOn with
 | _ k ih =>
 intro A0_0 c0_0 l0_0 A1_0 c1_0 l1_0 r w hr0_0 hc0_0 hr1_0 hc1_0 h
 cases k with
 | zero => exact absurd h (by simp [spec_l1Same.f])
 | succ k =>
 simp only [spec_l1Same.f] at h
 have hu50 := Try.underlying50
 have HR0_0 := Aside0.mk hr0_0
 have HC0_0 := Aside0.mk hc0_0
 clear hr0_0 hc0_0
 have HR1_0 := Aside0.mk hr1_0
 have HC1_0 := Aside0.mk hc1_0
 clear hr1_0 hc1_0
 have HB := Aside0.mk (Below.refl w.heap.size w)
 have H : (if (l0_0.length : Int) = (l1_0.length : Int) then (spec_l1Same.l0 k 0 l0_0 l1_0) else (some false)) = some r := h
 clear h
 by_cases c3 : (l0_0.length : Int) = (l1_0.length : Int)
 ·rw [if_pos c3] at H
  have c3b0 : ((l0_0.length : Int) == (l1_0.length : Int)) = true := beq_iff_eq.mpr c3
  have c3b1 : ((l0_0.length : Int) != (l1_0.length : Int)) = false := bne_eq_false_iff_eq.mpr c3
  have c3b2 : (l0_0.length == l1_0.length) = true := by first | simpa using c3 | (simp at c3 ⊢; omega)
  clear c3
  have H' := Aside0.mk H
  clear H
  go_enter Try.func50, Try.ntmps50
  go_wp2_with (first | ((with_reducible refine gate_dst (N := 2) rfl ?_); refine zbx 2 #[.slice A0_0 l0_0.length c0_0] 50 ?_; intro gb641 hg w4 hbox hb; have BK641 := Aside0.mk hbox; have GW641 := Aside0.mk ((y9 hg HB.out : w.heap.size ≤ gb641)); have GE641 := Aside0.mk ((y9 hg HB.out : w.heap.size ≤ gb641)); replace HB := Aside0.mk (below_step (y5 HB.out) hb); clear hb hbox hg) | ((with_reducible refine gate_dst (N := 3) rfl ?_); refine zbx 3 #[.slice A1_0 l1_0.length c1_0] 50 ?_; intro gb642 hg w5 hbox hb; have BK642 := Aside0.mk hbox; have GW642 := Aside0.mk ((y11 hg HB.out GE641.out : w.heap.size ≤ gb642)); have GE642 := Aside0.mk ((y11 hg HB.out GE641.out : w.heap.size ≤ gb642)); replace HB := Aside0.mk (below_step (y6 HB.out GE641.out) hb); have NB641_642 := zltn hg BK641; have NB642_641 := zgtn hg BK641; replace BK641 := zbb BK641 hb; clear hb hbox hg; have hnb6 := NB641_642.out; have hnc6 := NB642_641.out; have hcz7_0 := zh BK641; have hfz7_0 := zfr BK641 0; have hcz8_0 := zh BK642; have hfz8_0 := zfr BK642 0))
  go_loopg [5] k (fun kq v5 w' => ∃ (x5_1 : Int), v5 = .int .i64 x5_1 ∧ Aside0 (spec_l1Same.l0 kq x5_1 l0_0 l1_0 = some r) ∧ Aside0 (kq ≤ k) ∧ Aside0 (w'.heap[gb641]? = some (.cells #[(.slice A0_0 l0_0.length c0_0)] 50 (0, 0))) ∧ Aside0 (w'.heap[gb642]? = some (.cells #[(.slice A1_0 l1_0.length c1_0)] 50 (0, 0))) ∧ Aside0 (Below w.heap.size w w'))
  case atStart => exact ⟨(0), y34, H', ⟨Nat.le_refl _⟩, ⟨(y0 BK641.out)⟩, ⟨(y0 BK642.out)⟩, ⟨(y2 HB.out GE641.out GE642.out)⟩⟩
  case round =>
   clear H'
   try clear c1
   try clear p2
   try clear c3
   try clear c3b0
   try clear c3b1
   try clear c3b2
   try clear c5
   try clear c6
   try clear hcz7_0
   try clear hcz8_0
   try clear hfz7_0
   try clear hfz8_0
   (try clear BK641); (try clear BK642)
   obtain ⟨x5_1, rfl, HA, HK1, BK641, BK642, HB⟩ := hrel
   cases gk with
   | zero => exact absurd HA.out (by simp [spec_l1Same.l0])
   | succ k1 =>
    have H := HA.out
    clear HA
    simp only [spec_l1Same.l0] at H
    by_cases c9 : x5_1 < (l0_0.length : Int)
    ·rw [if_pos c9] at H
     have c9b0 : decide (x5_1 < (l0_0.length : Int)) = true := decide_eq_true c9
     clear c9
     by_cases c10 : 0 ≤ x5_1
     ·rw [if_pos c10] at H
      have c10b0 : decide (0 ≤ x5_1) = true := decide_eq_true c10
      clear c10
      by_cases c11 : x5_1 < (l1_0.length : Int)
      ·rw [if_pos c11] at H
       have c11b0 : decide (x5_1 < (l1_0.length : Int)) = true := decide_eq_true c11
       clear c11
       obtain ⟨t645, A120, H⟩ := ob H
       have A12 := Aside0.mk A120
       clear A120
       by_cases c13 : t645 = true
       ·subst c13
        rw [if_pos rfl] at H
        have H' := Aside0.mk H
        clear H
        have hnb14 := NB641_642.out
        have hnc14 := NB642_641.out
        have hcz15_0 := zh BK641
        have hfz15_0 := zfr BK641 0
        try go_wp2
        replace BK641 := Aside0.mk (blk_drew BK641.out)
        replace BK642 := Aside0.mk (blk_drew BK642.out)
        replace HB := Aside0.mk (below_drew1 HB.out)
        have p643 : 0 ≤ (x5_1 : Int) := of_decide_eq_true y23
        have q643 : x5_1 < (l0_0.length : Int) := of_decide_eq_true y23
        obtain ⟨ad643, A643_0, c643_0, e643, hx643_0, hl643_0, hi643_0⟩ := at_T50 HR0_0.out x5_1 p643 q643
        have hw643_0 := hx643_0
        cases e643
        replace hx643_0 := (HB.out.cell (World.block_lt_of_cell? w _ hx643_0)).trans hx643_0
        have HR643_0 := Aside0.mk hi643_0
        have HC643_0 := Aside0.mk hl643_0
        clear hi643_0 hl643_0
        replace p643 := eq_true p643
        replace q643 := eq_true q643
        have p644 : 0 ≤ (x5_1 : Int) := of_decide_eq_true y23
        have q644 : x5_1 < (l1_0.length : Int) := of_decide_eq_true y23
        obtain ⟨ad644, A644_0, c644_0, e644, hx644_0, hl644_0, hi644_0⟩ := at_T50 HR1_0.out x5_1 p644 q644
        have hw644_0 := hx644_0
        cases e644
        replace hx644_0 := (HB.out.cell (World.block_lt_of_cell? w _ hx644_0)).trans hx644_0
        have HR644_0 := Aside0.mk hi644_0
        have HC644_0 := Aside0.mk hl644_0
        clear hi644_0 hl644_0
        replace p644 := eq_true p644
        replace q644 := eq_true q644
        refine start_ (n := 12) (S := fun w' => w'.cell? ⟨gb641, 0, none⟩ = some (.slice (some ad643) l0_0.length c0_0) ∧ w'.cell? ⟨gb642, 0, none⟩ = some (.slice (some ad644) l1_0.length c1_0) ∧ w'.cell? (ad643.add (x5_1).toNat) = some (.slice A643_0 ((rd_T50 l0_0 x5_1).f0).length c643_0) ∧ w'.cell? (ad644.add (x5_1).toNat) = some (.slice A644_0 ((rd_T50 l1_0 x5_1).f0).length c644_0)) (ds := []) #[false, false, false, false, false, false, false, false, false, false, false, false] (by kernel_rfl) rfl rfl ⟨(blk_cell BK641.out 0).trans rfl, (blk_cell BK642.out 0).trans rfl, ((HB.out.cell (World.block_lt_of_cell? w _ hw643_0)).trans hw643_0), ((HB.out.cell (World.block_lt_of_cell? w _ hw644_0)).trans hw644_0)⟩ (fun hHeld => ?_); refine with_tabW spec_l1Same.tab6 spec_l1Same.bits6 (fun HT_ HW_ => ?_)
        generalize wr.drew = w16 at BK641 BK642 HB HR643_0 HR644_0 hx643_0 hx644_0 hHeld ⊢
        refine zp 0 (some 20) HT_ ?_
        refine zp 2 (some 22) HT_ ?_
        refine zp 5 (some 25) HT_ ?_
        refine zp 7 (some 27) HT_ ?_
        refine zt4 1 (some 21) HT_ HW_ hHeld ?_
        refine zp 3 (some 23) HT_ ?_
        refine zt4 4 (some 24) HT_ HW_ hHeld ?_
        refine zt4 6 (some 26) HT_ HW_ hHeld ?_
        refine zp 8 (some 28) HT_ ?_
        refine zt4 9 (some 29) HT_ HW_ hHeld ?_
        refine one_ (i := 10) (N := some 30) #[true, true, true, true, true, true, true, true, true, true, true, false] rfl rfl (one_of HT_.out (by kernel_rfl)) (by decide) (fun K hK => ?_)
        refine goes_ Try.func50 (by kernel_rfl) rfl #[.agg #[.slice A643_0 ((rd_T50 l0_0 x5_1).f0).length c643_0], .agg #[.slice A644_0 ((rd_T50 l1_0 x5_1).f0).length c644_0]] (by rfl) rfl rfl y8 ?_
        with_reducible refine (ih k1 (y57 HK1.out) _ _ ((rd_T50 l0_0 x5_1).f0) _ _ ((rd_T50 l1_0 x5_1).f0) true _ ?side1 ?side2 ?side3 ?side4 A12.out).mono ?_
        (case side1 => exact y15 HR643_0.out HB.out)
        (case side2 => exact HC643_0.out)
        (case side3 => exact y15 HR644_0.out HB.out)
        (case side4 => exact HC644_0.out)
        rintro e w17 ⟨rfl, hb⟩
        refine ⟨_, rfl, ?_⟩
        replace BK641 := zbb BK641 hb
        replace BK642 := zbb BK642 hb
        replace HB := Aside0.mk (below_step (y2 HB.out GE641.out GE642.out) hb)
        (try clear hb)
        (try clear hb2)
        (try clear hk)
        (try clear hi)
        refine hK.out _ _ ⟨(blk_cell BK641.out 0).trans rfl, (blk_cell BK642.out 0).trans rfl, ((HB.out.cell (World.block_lt_of_cell? w _ hw643_0)).trans hw643_0), ((HB.out.cell (World.block_lt_of_cell? w _ hw644_0)).trans hw644_0)⟩ (fun hHeld => ?_)
        clear hK K
        refine norm_ (a' := ?_) ?_ ?_
        rotate_left
        ·show Act.put _ (some 30) _ = _
         simp only [Act.put, List.setIfInBounds_toArray, List.set_cons_zero, List.set_cons_succ, i64_w, i32_w]
         rfl
        refine zp 11 (some 31) HT_ ?_
        refine done_ (done_of HT_.out (by kernel_rfl)) ?_
        try go_wp2
        go_roundg k1
        case measure => have := HK1.out; omega
        case rel => exact ⟨(wrap64 (x5_1 + 1)), y34, H', ⟨(y57 HK1.out)⟩, ⟨(y0 BK641.out)⟩, ⟨(y0 BK642.out)⟩, ⟨(y2 HB.out GE641.out GE642.out)⟩⟩
       ·replace c13 := Bool.eq_false_iff.mpr c13
        subst c13
        rw [if_neg (show ¬ (false = true) by decide)] at H
        obtain rfl := Option.some.inj H
        have hnb18 := NB641_642.out
        have hnc18 := NB642_641.out
        have hcz19_0 := zh BK641
        have hfz19_0 := zfr BK641 0
        try go_wp2
        replace BK641 := Aside0.mk (blk_drew BK641.out)
        replace BK642 := Aside0.mk (blk_drew BK642.out)
        replace HB := Aside0.mk (below_drew1 HB.out)
        have p643 : 0 ≤ (x5_1 : Int) := of_decide_eq_true y23
        have q643 : x5_1 < (l0_0.length : Int) := of_decide_eq_true y23
        obtain ⟨ad643, A643_0, c643_0, e643, hx643_0, hl643_0, hi643_0⟩ := at_T50 HR0_0.out x5_1 p643 q643
        have hw643_0 := hx643_0
        cases e643
        replace hx643_0 := (HB.out.cell (World.block_lt_of_cell? w _ hx643_0)).trans hx643_0
        have HR643_0 := Aside0.mk hi643_0
        have HC643_0 := Aside0.mk hl643_0
        clear hi643_0 hl643_0
        replace p643 := eq_true p643
        replace q643 := eq_true q643
        have p644 : 0 ≤ (x5_1 : Int) := of_decide_eq_true y23
        have q644 : x5_1 < (l1_0.length : Int) := of_decide_eq_true y23
        obtain ⟨ad644, A644_0, c644_0, e644, hx644_0, hl644_0, hi644_0⟩ := at_T50 HR1_0.out x5_1 p644 q644
        have hw644_0 := hx644_0
        cases e644
        replace hx644_0 := (HB.out.cell (World.block_lt_of_cell? w _ hx644_0)).trans hx644_0
        have HR644_0 := Aside0.mk hi644_0
        have HC644_0 := Aside0.mk hl644_0
        clear hi644_0 hl644_0
        replace p644 := eq_true p644
        replace q644 := eq_true q644
        refine start_ (n := 12) (S := fun w' => w'.cell? ⟨gb641, 0, none⟩ = some (.slice (some ad643) l0_0.length c0_0) ∧ w'.cell? ⟨gb642, 0, none⟩ = some (.slice (some ad644) l1_0.length c1_0) ∧ w'.cell? (ad643.add (x5_1).toNat) = some (.slice A643_0 ((rd_T50 l0_0 x5_1).f0).length c643_0) ∧ w'.cell? (ad644.add (x5_1).toNat) = some (.slice A644_0 ((rd_T50 l1_0 x5_1).f0).length c644_0)) (ds := []) #[false, false, false, false, false, false, false, false, false, false, false, false] (by kernel_rfl) rfl rfl ⟨(blk_cell BK641.out 0).trans rfl, (blk_cell BK642.out 0).trans rfl, ((HB.out.cell (World.block_lt_of_cell? w _ hw643_0)).trans hw643_0), ((HB.out.cell (World.block_lt_of_cell? w _ hw644_0)).trans hw644_0)⟩ (fun hHeld => ?_); refine with_tabW spec_l1Same.tab6 spec_l1Same.bits6 (fun HT_ HW_ => ?_)
        generalize wr.drew = w20 at BK641 BK642 HB HR643_0 HR644_0 hx643_0 hx644_0 hHeld ⊢
        refine zp 0 (some 20) HT_ ?_
        refine zp 2 (some 22) HT_ ?_
        refine zp 5 (some 25) HT_ ?_
        refine zp 7 (some 27) HT_ ?_
        refine zt4 1 (some 21) HT_ HW_ hHeld ?_
        refine zp 3 (some 23) HT_ ?_
        refine zt4 4 (some 24) HT_ HW_ hHeld ?_
        refine zt4 6 (some 26) HT_ HW_ hHeld ?_
        refine zp 8 (some 28) HT_ ?_
        refine zt4 9 (some 29) HT_ HW_ hHeld ?_
        refine one_ (i := 10) (N := some 30) #[true, true, true, true, true, true, true, true, true, true, true, false] rfl rfl (one_of HT_.out (by kernel_rfl)) (by decide) (fun K hK => ?_)
        refine goes_ Try.func50 (by kernel_rfl) rfl #[.agg #[.slice A643_0 ((rd_T50 l0_0 x5_1).f0).length c643_0], .agg #[.slice A644_0 ((rd_T50 l1_0 x5_1).f0).length c644_0]] (by rfl) rfl rfl y8 ?_
        with_reducible refine (ih k1 (y57 HK1.out) _ _ ((rd_T50 l0_0 x5_1).f0) _ _ ((rd_T50 l1_0 x5_1).f0) false _ ?side1 ?side2 ?side3 ?side4 A12.out).mono ?_
        (case side1 => exact y15 HR643_0.out HB.out)
        (case side2 => exact HC643_0.out)
        (case side3 => exact y15 HR644_0.out HB.out)
        (case side4 => exact HC644_0.out)
        rintro e w21 ⟨rfl, hb⟩
        refine ⟨_, rfl, ?_⟩
        replace BK641 := zbb BK641 hb
        replace BK642 := zbb BK642 hb
        replace HB := Aside0.mk (below_step (y2 HB.out GE641.out GE642.out) hb)
        (try clear hb)
        (try clear hb2)
        (try clear hk)
        (try clear hi)
        refine hK.out _ _ ⟨(blk_cell BK641.out 0).trans rfl, (blk_cell BK642.out 0).trans rfl, ((HB.out.cell (World.block_lt_of_cell? w _ hw643_0)).trans hw643_0), ((HB.out.cell (World.block_lt_of_cell? w _ hw644_0)).trans hw644_0)⟩ (fun hHeld => ?_)
        clear hK K
        refine norm_ (a' := ?_) ?_ ?_
        rotate_left
        ·show Act.put _ (some 30) _ = _
         simp only [Act.put, List.setIfInBounds_toArray, List.set_cons_zero, List.set_cons_succ, i64_w, i32_w]
         rfl
        refine zp 11 (some 31) HT_ ?_
        refine done_ (done_of HT_.out (by kernel_rfl)) ?_
        try go_wp2
        go_ret
        exact ⟨y19, (y2 HB.out GE641.out GE642.out)⟩
      ·rw [if_neg c11] at H
       exact absurd H (by simp)
     ·rw [if_neg c10] at H
      exact absurd H (by simp)
    ·rw [if_neg c9] at H
     have c9b0 : decide (x5_1 < (l0_0.length : Int)) = false := decide_eq_false c9
     clear c9
     obtain rfl := Option.some.inj H
     have hnb22 := NB641_642.out
     have hnc22 := NB642_641.out
     have hcz23_0 := zh BK641
     have hfz23_0 := zfr BK641 0
     go_wp2
     go_ret
     exact ⟨y19, (y2 HB.out GE641.out GE642.out)⟩
 ·rw [if_neg c3] at H
  have c3b0 : ((l0_0.length : Int) == (l1_0.length : Int)) = false := beq_eq_false_iff_ne.mpr c3
  have c3b1 : ((l0_0.length : Int) != (l1_0.length : Int)) = true := bne_iff_ne.mpr c3
  have c3b2 : (l0_0.length == l1_0.length) = false := by first | simpa using c3 | (simp at c3 ⊢; omega)
  obtain rfl := Option.some.inj H
  go_enter Try.func50, Try.ntmps50
  go_wp2_with (first | ((with_reducible refine gate_dst (N := 2) rfl ?_); refine zbx 2 #[.slice A0_0 l0_0.length c0_0] 50 ?_; intro gb641 hg w24 hbox hb; have BK641 := Aside0.mk hbox; have GW641 := Aside0.mk ((y9 hg HB.out : w.heap.size ≤ gb641)); have GE641 := Aside0.mk ((y9 hg HB.out : w.heap.size ≤ gb641)); replace HB := Aside0.mk (below_step (y5 HB.out) hb); clear hb hbox hg) | ((with_reducible refine gate_dst (N := 3) rfl ?_); refine zbx 3 #[.slice A1_0 l1_0.length c1_0] 50 ?_; intro gb642 hg w25 hbox hb; have BK642 := Aside0.mk hbox; have GW642 := Aside0.mk ((y11 hg HB.out GE641.out : w.heap.size ≤ gb642)); have GE642 := Aside0.mk ((y11 hg HB.out GE641.out : w.heap.size ≤ gb642)); replace HB := Aside0.mk (below_step (y6 HB.out GE641.out) hb); have NB641_642 := zltn hg BK641; have NB642_641 := zgtn hg BK641; replace BK641 := zbb BK641 hb; clear hb hbox hg; have hnb26 := NB641_642.out; have hnc26 := NB642_641.out; have hcz27_0 := zh BK641; have hfz27_0 := zfr BK641 0; have hcz28_0 := zh BK642; have hfz28_0 := zfr BK642 0))
  go_ret
  exact ⟨y19, (y2 HB.out GE641.out GE642.out)⟩
end Go.Proofs.Ythfflieeifakdaa.PA
end
section
namespace Go.Proofs.Ythfflieeifakdaa.PA
open Go.RowKit Go.Proofs.YthfflieeifakdaaW.PrintWords Go.Proofs.YthfflieeifakdaaW.PrintLast Go.Proofs.YthfflieeifakdaaW.PrintMore
attribute [local go_sem] max2_int min2_int max_two min_two max_three min_three max_four min_four
set_option linter.unusedVariables false
set_option linter.unusedSimpArgs false
def spec_l1Put.f : Nat → Int → List (S25) → List Int → Int → List (S25) → Option (Int × (List (S25)))
 | 0, _, _, _, _, _ => none
 | k + 1, a0_0, l0_1, l1, a2_0, l2_1 => if (l1.length : Int) = 0 then ((spec_l1Anew.f k a2_0 l2_1).bind fun bt649 => (some (bt649.1, bt649.2))) else ((spec_l1Anew.f k a0_0 l0_1).bind fun bt653 => (if 0 < (l1.length : Int) then (if 0 ≤ (rd l1 0) then (if (rd l1 0) < (l0_1.length : Int) then (if 1 ≤ (l1.length : Int) then ((spec_l1Put.f k ((rd_T25 l0_1 (rd l1 0)).f0) ((rd_T25 l0_1 (rd l1 0)).f1) (l1.drop 1) a2_0 l2_1).bind fun bt662 => (if (rd l1 0) < (bt653.2.length : Int) then (some (bt653.1, (bt653.2.set ((rd l1 0) : Int).toNat (⟨bt662.1, bt662.2⟩ : S25)))) else (none))) else (none)) else (none)) else (none)) else (none)))
theorem spec_l1Put.mono_l : ∀ k, (∀ y0 y1 y2 y3 y4, LeO (spec_l1Put.f k y0 y1 y2 y3 y4) (spec_l1Put.f (k + 1) y0 y1 y2 y3 y4))
 | 0 => fun _ _ _ _ _ r h => by simp [spec_l1Put.f] at h
 | k + 1 => by
  have ih0 := spec_l1Put.mono_l k
  ·intro y0 y1 y2 y3 y4
   unfold spec_l1Put.f
   repeat' first
   | (with_reducible exact ih0 _ _ _ _ _)
   | (with_reducible exact spec_l1Anew.mono _ _ _)
   | (with_reducible exact LeO.refl _)
   | (with_reducible exact LeO.none _)
   | (with_reducible refine LeO.ite ?_ ?_)
   | (with_reducible refine LeO.bind ?_ (fun _ => ?_))
   | exact ih0 _ _ _ _ _
   | exact spec_l1Anew.mono _ _ _
   | exact LeO.none _
   | refine LeO.ite ?_ ?_
   | refine LeO.bind ?_ (fun _ => ?_)
theorem spec_l1Put.mono : ∀ a0 a1 a2 a3 a4 k, LeO (spec_l1Put.f k a0 a1 a2 a3 a4) (spec_l1Put.f (k + 1) a0 a1 a2 a3 a4) := by
 intro a0 a1 a2 a3 a4 k
 have ih0 := spec_l1Put.mono_l k
 exact ih0 a0 a1 a2 a3 a4
def spec_l1Put.T4 : Bool × List (List Nat × List Nat) := (true, [([], []), ([0], [0]), ([], []), ([2], [2]), ([3], [3]), ([], []), ([5], [5]), ([], []), ([7], [7]), ([8], [8]), ([6, 9], [6, 9]), ([10], [10]), ([], []), ([12], [12]), ([], []), ([11, 13, 14], [11, 13, 14]), ([1, 4, 0, 1, 2, 3, 4, 5, 6, 7, 8, 9, 10, 11, 12, 13, 14, 15], [1, 4]), ([16, 15, 15, 0, 1, 2, 3, 4, 5, 6, 7, 8, 9, 10, 11, 12, 13, 14, 15], [15, 16])])
def spec_l1Put.B4 : List Nat := [0, 1, 0, 4, 12, 0, 32, 0, 128, 384, 992, 2016, 0, 4096, 0, 32736, 65535, 131071]
theorem spec_l1Put.tab4 : rtab .any (opsOf Try.f51 4) = spec_l1Put.T4 := by kernel_rfl
theorem spec_l1Put.bits4 : waitsOk spec_l1Put.T4.2 spec_l1Put.B4 = true := by kernel_rfl
set_option maxHeartbeats 8000000 in
set_option maxRecDepth 100000 in
theorem spec_l1Put.calls (k : Nat) : ∀ (a0_0 : Int) (A0_1 : Option Addr) (c0_1 : Nat) (l0_1 : List (S25)) (A1 : Option Addr) (c1 : Nat) (l1 : List Int) (a2_0 : Int) (A2_1 : Option Addr) (c2_1 : Nat) (l2_1 : List (S25)) (r1 : Int) (r2 : List (S25)) (w : World) (hr0_1 : Kd.C k25 w A0_1 l0_1.length l0_1) (hc0_1 : l0_1.length ≤ c0_1) (hr1 : Kd.C (Kd.int .i64) w A1 l1.length l1) (hc1 : l1.length ≤ c1) (hr2_1 : Kd.C k25 w A2_1 l2_1.length l2_1) (hc2_1 : l2_1.length ≤ c2_1) (h : spec_l1Put.f k a0_0 l0_1 l1 a2_0 l2_1 = some (r1, r2)),
  Calls Try.prog 51 #[.agg #[.int .i64 a0_0, .slice A0_1 l0_1.length c0_1], .slice A1 l1.length c1, .agg #[.int .i64 a2_0, .slice A2_1 l2_1.length c2_1]] w fun e w' => ∃ v1_ : Value, e = .returned (.agg #[.int .i64 r1, v1_]) ∧ Kd.N k25 25 w' w.heap.size (fun k_ => (w.heap.size ≤ k_)) v1_ r2 ∧ Below w.heap.size w w' := by
 induction k using Nat.strongRecOn with
 | _ k ih =>
 intro a0_0 A0_1 c0_1 l0_1 A1 c1 l1 a2_0 A2_1 c2_1 l2_1 r1 r2 w hr0_1 hc0_1 hr1 hc1 hr2_1 hc2_1 h
 cases k with
 | zero => exact absurd h (by simp [spec_l1Put.f])
 | succ k =>
 simp only [spec_l1Put.f] at h
 have hu25 := Try.underlying25
 have HR0_1 := Aside0.mk hr0_1
 have HC0_1 := Aside0.mk hc0_1
 clear hr0_1 hc0_1
 have HR1 := Aside0.mk hr1
 have HC1 := Aside0.mk hc1
 clear hr1 hc1
 have HR2_1 := Aside0.mk hr2_1
 have HC2_1 := Aside0.mk hc2_1
 clear hr2_1 hc2_1
 have HB := Aside0.mk (Below.refl w.heap.size w)
 have H : (if (l1.length : Int) = 0 then ((spec_l1Anew.f k a2_0 l2_1).bind fun bt649 => (some (bt649.1, bt649.2))) else ((spec_l1Anew.f k a0_0 l0_1).bind fun bt653 => (if 0 < (l1.length : Int) then (if 0 ≤ (rd l1 0) then (if (rd l1 0) < (l0_1.length : Int) then (if 1 ≤ (l1.length : Int) then ((spec_l1Put.f k ((rd_T25 l0_1 (rd l1 0)).f0) ((rd_T25 l0_1 (rd l1 0)).f1) (l1.drop 1) a2_0 l2_1).bind fun bt662 => (if (rd l1 0) < (bt653.2.length : Int) then (some (bt653.1, (bt653.2.set ((rd l1 0) : Int).toNat (⟨bt662.1, bt662.2⟩ : S25)))) else (none))) else (none)) else (none)) else (none)) else (none)))) = some (r1, r2) := h
 clear h
 by_cases c4 : (l1.length : Int) = 0
 ·rw [if_pos c4] at H
  have c4b0 : ((l1.length : Int) == 0) = true := beq_iff_eq.mpr c4
  have c4b1 : ((l1.length : Int) != 0) = false := bne_eq_false_iff_eq.mpr c4
  clear c4
  obtain ⟨⟨t649, t650⟩, A50, H⟩ := ob H
  have A5 := Aside0.mk A50
  clear A50
  simp only [Option.some.injEq, Prod.mk.injEq] at H
  obtain ⟨rfl, rfl⟩ := H
  go_enter Try.func51, Try.ntmps51
  go_wp2_with (first | ((with_reducible refine gate_dst (N := 3) rfl ?_); refine zbx 3 #[.int .i64 a0_0, .slice A0_1 l0_1.length c0_1] 25 ?_; intro gb646 hg w6 hbox hb; have BK646 := Aside0.mk hbox; have GW646 := Aside0.mk ((y9 hg HB.out : w.heap.size ≤ gb646)); have GE646 := Aside0.mk ((y9 hg HB.out : w.heap.size ≤ gb646)); replace HB := Aside0.mk (below_step (y5 HB.out) hb); clear hb hbox hg) | ((with_reducible refine gate_dst (N := 5) rfl ?_); refine zbx 5 #[.int .i64 a2_0, .slice A2_1 l2_1.length c2_1] 25 ?_; intro gb647 hg w7 hbox hb; have BK647 := Aside0.mk hbox; have GW647 := Aside0.mk ((y11 hg HB.out GE646.out : w.heap.size ≤ gb647)); have GE647 := Aside0.mk ((y11 hg HB.out GE646.out : w.heap.size ≤ gb647)); replace HB := Aside0.mk (below_step (y6 HB.out GE646.out) hb); have NB646_647 := zltn hg BK646; have NB647_646 := zgtn hg BK646; replace BK646 := zbb BK646 hb; clear hb hbox hg) | ((with_reducible refine gate_dst (N := 6) rfl ?_); refine zbx 6 #[.int .i64 0, .slice none 0 0] 25 ?_; intro gb648 hg w8 hbox hb; have BK648 := Aside0.mk hbox; have GW648 := Aside0.mk ((y16 hg HB.out GE646.out GE647.out : w.heap.size ≤ gb648)); have GE648 := Aside0.mk ((y16 hg HB.out GE646.out GE647.out : w.heap.size ≤ gb648)); replace HB := Aside0.mk (below_step (y2 HB.out GE646.out GE647.out) hb); have NB646_648 := zltn hg BK646; have NB648_646 := zgtn hg BK646; replace BK646 := zbb BK646 hb; have NB647_648 := zltn hg BK647; have NB648_647 := zgtn hg BK647; replace BK647 := zbb BK647 hb; clear hb hbox hg; have hnb9 := NB647_646.out; have hnc9 := NB646_647.out; have hnb10 := NB647_648.out; have hnc10 := NB648_647.out; have hcz11_0 := zh BK647; have hcz11_1 := zh1 BK647; have hfz11_0 := zfr BK647 0; have hfz11_1 := zfr BK647 1) | ((with_reducible refine gate_callee (f := 37) rfl ?_); refine goesL_ (some 12) rfl rfl Try.func37 (by kernel_rfl) rfl #[.agg #[.int .i64 a2_0, .slice A2_1 l2_1.length c2_1]] rfl y8 ?_; (with_reducible refine (spec_l1Anew.calls k a2_0 _ _ l2_1 t649 t650 _ ?side1 ?side2 A5.out).mono ?_); (case side1 => exact y15 HR2_1.out HB.out); (case side2 => exact HC2_1.out); rintro e w12 ⟨v651, rfl, ho0, hb⟩; refine ⟨_, rfl, ?_⟩; have HO652 := Aside0.mk (Kd.N_lower (Kd.N_mono (ok' := fun k_ => (w.heap.size ≤ k_) ∧ k_ ≠ gb646 ∧ k_ ≠ gb647 ∧ k_ ≠ gb648) (Kd.R_N (Kd.R_bound ho0)) (fun k_ hk_ => ⟨(Nat.le_trans (below_size (y4 HB.out GE646.out GE647.out GE648.out)) hk_.2.1), (Kd.freshB (g := gb646) (o := .cells #[.int .i64 a0_0, .slice A0_1 l0_1.length c0_1] 25 (0, 0)) (y0 BK646.out) k_ hk_.2.1), (Kd.freshB (g := gb647) (o := .cells #[.int .i64 a2_0, .slice A2_1 l2_1.length c2_1] 25 (0, 0)) (y0 BK647.out) k_ hk_.2.1), (Kd.freshB (g := gb648) (o := .cells #[.int .i64 0, .slice none 0 0] 25 (0, 0)) (y0 BK648.out) k_ hk_.2.1)⟩)) (below_size (y4 HB.out GE646.out GE647.out GE648.out))); replace BK646 := zbb BK646 hb; replace BK647 := zbb BK647 hb; replace BK648 := zbb BK648 hb; replace HB := Aside0.mk (below_step (y4 HB.out GE646.out GE647.out GE648.out) hb); (try clear hb); (try clear hb2); (try clear hk); (try clear hi); (try clear ho0); have hnb13 := NB648_646.out; have hnc13 := NB646_648.out; have hcz14_0 := zh BK648; have hcz14_1 := zh1 BK648; have hfz14_0 := zfr BK648 0; have hfz14_1 := zfr BK648 1; obtain ⟨Ao15, co15, eo15⟩ := Kd.N_slice HO652.out; subst eo15))
  refine bodyPost_ret (results_cell_row rfl _ _ gb648 25 #[.int .i64 t649, .slice Ao15 t650.length co15] (0, 0) _ rfl (by (with_reducible repeat (first | refine blk_drewN ?_ _ | refine blk_drew ?_ | refine blk_alloc ?_ _)); refine blk_put (cs := #[.int .i64 t649, .slice none 0 0]) ?_ 1 _ rfl; (with_reducible repeat (first | refine blk_drewN ?_ _ | refine blk_drew ?_ | refine blk_alloc ?_ _)); apply blk_put (i := 0); (case h => exact y0 BK648.out); (case e => rfl)) Try.underlying25 rfl (by kernel_rfl)) rfl ?_
  exact ⟨_, y19, (by (with_reducible repeat (first | apply Kd.N_alloc | apply Kd.N_drewN | apply Kd.N_drew)); exact Kd.N_mono (Kd.N_far (p := ⟨gb648, 1, none⟩) (Kd.N_far (p := ⟨gb648, 0, none⟩) (Kd.N_mono HO652.out (fun k_ hk => (⟨hk, hk.2.2.2⟩ : _ ∧ k_ ≠ gb648))) (fun _ hk => hk.2) (.int .i64 t649)) (fun _ hk => hk.2) (.slice Ao15 t650.length co15)) (fun _ hk => hk.1.1)), (y4 HB.out GE646.out GE647.out GE648.out)⟩
 ·rw [if_neg c4] at H
  have c4b0 : ((l1.length : Int) == 0) = false := beq_eq_false_iff_ne.mpr c4
  have c4b1 : ((l1.length : Int) != 0) = true := bne_iff_ne.mpr c4
  have c4b2 : ¬ (l1 = []) := fun h_ => c4 (by rw [h_]; rfl)
  obtain ⟨⟨t653, t654⟩, A160, H⟩ := ob H
  have A16 := Aside0.mk A160
  clear A160
  by_cases c17 : 0 < (l1.length : Int)
  ·rw [if_pos c17] at H
   have c17b0 : decide (0 < (l1.length : Int)) = true := decide_eq_true c17
   have c17b1 : decide (0 < l1.length) = true := decide_eq_true (by omega)
   clear c17
   by_cases c18 : 0 ≤ (rd l1 0)
   ·rw [if_pos c18] at H
    have c18b0 : decide (0 ≤ (rd l1 0)) = true := decide_eq_true c18
    clear c18
    by_cases c19 : (rd l1 0) < (l0_1.length : Int)
    ·rw [if_pos c19] at H
     have c19b0 : decide ((rd l1 0) < (l0_1.length : Int)) = true := decide_eq_true c19
     clear c19
     by_cases c20 : 1 ≤ (l1.length : Int)
     ·rw [if_pos c20] at H
      have c20b0 := eq_true c20
      have c20b1 : decide (1 ≤ (l1.length : Int)) = true := decide_eq_true c20
      clear c20
      obtain ⟨⟨t662, t663⟩, A210, H⟩ := ob H
      have A21 := Aside0.mk A210
      clear A210
      by_cases c22 : (rd l1 0) < (t654.length : Int)
      ·rw [if_pos c22] at H
       have c22b0 : decide ((rd l1 0) < (t654.length : Int)) = true := decide_eq_true c22
       clear c22
       obtain ⟨y666, hy666⟩ : ∃ y_ : List (S25), y_ = (t654.set ((rd l1 0) : Int).toNat (⟨t662, t663⟩ : S25)) := ⟨_, rfl⟩
       replace H : (some (t653, y666)) = some (r1, r2) := by first | (rw [hy666]; with_reducible exact H) | (have H2_ := (Option.bind_some _ _).symm.trans H; rw [hy666]; with_reducible exact H2_) | (have H2_ := (Option.bind_some _ _).symm.trans H; with_reducible exact H2_) | with_reducible exact H | (rw [hy666]; exact H) | exact H
       have Ny666 := Aside0.mk hy666
       clear hy666
       simp only [Option.some.injEq, Prod.mk.injEq] at H
       obtain ⟨rfl, rfl⟩ := H
       go_enter Try.func51, Try.ntmps51
       try go_wp2_with (first | ((with_reducible refine gate_dst (N := 3) rfl ?_); refine zbx 3 #[.int .i64 a0_0, .slice A0_1 l0_1.length c0_1] 25 ?_; intro gb646 hg w24 hbox hb; have BK646 := Aside0.mk hbox; have GW646 := Aside0.mk ((y9 hg HB.out : w.heap.size ≤ gb646)); have GE646 := Aside0.mk ((y9 hg HB.out : w.heap.size ≤ gb646)); replace HB := Aside0.mk (below_step (y5 HB.out) hb); clear hb hbox hg) | ((with_reducible refine gate_dst (N := 5) rfl ?_); refine zbx 5 #[.int .i64 a2_0, .slice A2_1 l2_1.length c2_1] 25 ?_; intro gb647 hg w25 hbox hb; have BK647 := Aside0.mk hbox; have GW647 := Aside0.mk ((y11 hg HB.out GE646.out : w.heap.size ≤ gb647)); have GE647 := Aside0.mk ((y11 hg HB.out GE646.out : w.heap.size ≤ gb647)); replace HB := Aside0.mk (below_step (y6 HB.out GE646.out) hb); have NB646_647 := zltn hg BK646; have NB647_646 := zgtn hg BK646; replace BK646 := zbb BK646 hb; clear hb hbox hg) | ((with_reducible refine gate_dst (N := 6) rfl ?_); refine zbx 6 #[.int .i64 0, .slice none 0 0] 25 ?_; intro gb648 hg w26 hbox hb; have BK648 := Aside0.mk hbox; have GW648 := Aside0.mk ((y16 hg HB.out GE646.out GE647.out : w.heap.size ≤ gb648)); have GE648 := Aside0.mk ((y16 hg HB.out GE646.out GE647.out : w.heap.size ≤ gb648)); replace HB := Aside0.mk (below_step (y2 HB.out GE646.out GE647.out) hb); have NB646_648 := zltn hg BK646; have NB648_646 := zgtn hg BK646; replace BK646 := zbb BK646 hb; have NB647_648 := zltn hg BK647; have NB648_647 := zgtn hg BK647; replace BK647 := zbb BK647 hb; clear hb hbox hg; have hnb27 := NB646_647.out; have hnc27 := NB647_646.out; have hnb28 := NB646_648.out; have hnc28 := NB648_646.out; have hcz29_0 := zh BK646; have hcz29_1 := zh1 BK646; have hfz29_0 := zfr BK646 0; have hfz29_1 := zfr BK646 1) | ((with_reducible refine gate_callee (f := 37) rfl ?_); refine goesL_ (some 14) rfl rfl Try.func37 (by kernel_rfl) rfl #[.agg #[.int .i64 a0_0, .slice A0_1 l0_1.length c0_1]] rfl y8 ?_; (with_reducible refine (spec_l1Anew.calls k a0_0 _ _ l0_1 t653 t654 _ ?side1 ?side2 A16.out).mono ?_); (case side1 => exact y15 HR0_1.out HB.out); (case side2 => exact HC0_1.out); rintro e w30 ⟨v655, rfl, ho0, hb⟩; refine ⟨_, rfl, ?_⟩; have HO656 := Aside0.mk (Kd.N_lower (Kd.N_mono (ok' := fun k_ => (w.heap.size ≤ k_) ∧ k_ ≠ gb646 ∧ k_ ≠ gb647 ∧ k_ ≠ gb648) (Kd.R_N (Kd.R_bound ho0)) (fun k_ hk_ => ⟨(Nat.le_trans (below_size (y4 HB.out GE646.out GE647.out GE648.out)) hk_.2.1), (Kd.freshB (g := gb646) (o := .cells #[.int .i64 a0_0, .slice A0_1 l0_1.length c0_1] 25 (0, 0)) (y0 BK646.out) k_ hk_.2.1), (Kd.freshB (g := gb647) (o := .cells #[.int .i64 a2_0, .slice A2_1 l2_1.length c2_1] 25 (0, 0)) (y0 BK647.out) k_ hk_.2.1), (Kd.freshB (g := gb648) (o := .cells #[.int .i64 0, .slice none 0 0] 25 (0, 0)) (y0 BK648.out) k_ hk_.2.1)⟩)) (below_size (y4 HB.out GE646.out GE647.out GE648.out))); replace BK646 := zbb BK646 hb; replace BK647 := zbb BK647 hb; replace BK648 := zbb BK648 hb; replace HB := Aside0.mk (below_step (y4 HB.out GE646.out GE647.out GE648.out) hb); (try clear hb); (try clear hb2); (try clear hk); (try clear hi); (try clear ho0)) | ((with_reducible refine gate_dst (N := 7) rfl ?_); refine zbx 7 #[.int .i64 0, .slice none 0 0] 25 ?_; intro gb657 hg w31 hbox hb; replace HO656 := Aside0.mk (Kd.N_below (Kd.N_elderB (y3 HO656.out) gb657 (Nat.le_of_eq hg.symm)) hb); have BK657 := Aside0.mk hbox; have GW657 := Aside0.mk ((y22 hg HB.out GE646.out GE647.out GE648.out : w.heap.size ≤ gb657)); have GE657 := Aside0.mk ((y22 hg HB.out GE646.out GE647.out GE648.out : w.heap.size ≤ gb657)); replace HB := Aside0.mk (below_step (y4 HB.out GE646.out GE647.out GE648.out) hb); have NB646_657 := zltn hg BK646; have NB657_646 := zgtn hg BK646; replace BK646 := zbb BK646 hb; have NB647_657 := zltn hg BK647; have NB657_647 := zgtn hg BK647; replace BK647 := zbb BK647 hb; have NB648_657 := zltn hg BK648; have NB657_648 := zgtn hg BK648; replace BK648 := zbb BK648 hb; clear hb hbox hg; have hnb32 := NB657_646.out; have hnc32 := NB646_657.out; have hnb33 := NB657_647.out; have hnc33 := NB647_657.out; have hnb34 := NB657_648.out; have hnc34 := NB648_657.out; have hcz35_0 := zh BK657; have hcz35_1 := zh1 BK657; have hfz35_0 := zfr BK657 0; have hfz35_1 := zfr BK657 1; obtain ⟨Ao36, co36, eo36⟩ := Kd.N_slice HO656.out; subst eo36))
       have n0_ : Aside0 (Kd.N k25 25 ((w31.setCell ⟨gb657, 0, none⟩ (.int .i64 t653)).setCell ⟨gb657, 1, none⟩ (.slice Ao36 t654.length co36)) w.heap.size (fun k_ => (w.heap.size ≤ k_) ∧ k_ ≠ gb646 ∧ k_ ≠ gb647 ∧ k_ ≠ gb648 ∧ k_ ≠ gb657) (.slice Ao36 t654.length co36) t654) := ⟨(by (with_reducible repeat (first | apply Kd.N_alloc | apply Kd.N_drewN | apply Kd.N_drew)); exact Kd.N_mono (Kd.N_far (p := ⟨gb657, 1, none⟩) (Kd.N_far (p := ⟨gb657, 0, none⟩) (Kd.N_mono HO656.out (fun k_ hk => (⟨hk, hk.2⟩ : _ ∧ k_ ≠ gb657))) (fun _ hk => hk.2) (.int .i64 t653)) (fun _ hk => hk.2) (.slice Ao36 t654.length co36)) (fun _ hk => ⟨hk.1.1.1, ⟨hk.1.1.2.1, ⟨hk.1.1.2.2.1, ⟨hk.1.1.2.2.2, hk.1.2⟩⟩⟩⟩))⟩
       have n1_ : Aside0 (((w31.setCell ⟨gb657, 0, none⟩ (.int .i64 t653)).setCell ⟨gb657, 1, none⟩ (.slice Ao36 t654.length co36)).heap[gb646]? = some (.cells #[.int .i64 a0_0, .slice A0_1 l0_1.length c0_1] 25 (0, 0))) := ⟨(y1 NB646_657.out BK646.out)⟩
       have n2_ : Aside0 (((w31.setCell ⟨gb657, 0, none⟩ (.int .i64 t653)).setCell ⟨gb657, 1, none⟩ (.slice Ao36 t654.length co36)).heap[gb647]? = some (.cells #[.int .i64 a2_0, .slice A2_1 l2_1.length c2_1] 25 (0, 0))) := ⟨(y1 NB647_657.out BK647.out)⟩
       have n3_ : Aside0 (((w31.setCell ⟨gb657, 0, none⟩ (.int .i64 t653)).setCell ⟨gb657, 1, none⟩ (.slice Ao36 t654.length co36)).heap[gb648]? = some (.cells #[.int .i64 0, .slice none 0 0] 25 (0, 0))) := ⟨(y1 NB648_657.out BK648.out)⟩
       have n4_ : Aside0 (((w31.setCell ⟨gb657, 0, none⟩ (.int .i64 t653)).setCell ⟨gb657, 1, none⟩ (.slice Ao36 t654.length co36)).heap[gb657]? = some (.cells #[.int .i64 t653, .slice Ao36 t654.length co36] 25 (0, 0))) := ⟨(by (with_reducible repeat (first | refine blk_drewN ?_ _ | refine blk_drew ?_ | refine blk_alloc ?_ _)); refine blk_put (cs := #[.int .i64 t653, .slice none 0 0]) ?_ 1 _ rfl; (with_reducible repeat (first | refine blk_drewN ?_ _ | refine blk_drew ?_ | refine blk_alloc ?_ _)); refine blk_put (cs := #[.int .i64 0, .slice none 0 0]) ?_ 0 _ rfl; (with_reducible repeat (first | refine blk_drewN ?_ _ | refine blk_drew ?_ | refine blk_alloc ?_ _)); exact BK657.out)⟩
       have n5_ : Aside0 (Below w.heap.size w ((w31.setCell ⟨gb657, 0, none⟩ (.int .i64 t653)).setCell ⟨gb657, 1, none⟩ (.slice Ao36 t654.length co36))) := ⟨(y7 HB.out GE646.out GE647.out GE648.out GE657.out)⟩
       (try clear HO656)
       (try clear BK646)
       (try clear BK647)
       (try clear BK648)
       (try clear BK657)
       (try clear HB)
       generalize ((w31.setCell ⟨gb657, 0, none⟩ (.int .i64 t653)).setCell ⟨gb657, 1, none⟩ (.slice Ao36 t654.length co36)) = w37 at n0_ n1_ n2_ n3_ n4_ n5_ ⊢
       have HO656 := n0_
       have BK646 := n1_
       have BK647 := n2_
       have BK648 := n3_
       have BK657 := n4_
       have HB := n5_
       clear n0_ n1_ n2_ n3_ n4_ n5_
       replace HO656 := Aside0.mk (Kd.N_drew HO656.out)
       replace BK646 := Aside0.mk (blk_drew BK646.out)
       replace BK647 := Aside0.mk (blk_drew BK647.out)
       replace BK648 := Aside0.mk (blk_drew BK648.out)
       replace BK657 := Aside0.mk (blk_drew BK657.out)
       replace HB := Aside0.mk (below_drew1 HB.out)
       have p658 : 0 ≤ (0 : Int) := (by omega)
       have q658 : 0 < (l1.length : Int) := of_decide_eq_true y23
       obtain ⟨ad658, e658, hx658_0⟩ := Kd.at_int HR1.out 0 p658 q658
       have hw658_0 := hx658_0
       (try rw [show ((0 : Int)).toNat = 0 from rfl] at hw658_0)
       (try rw [show 0 * 1 = 0 from rfl] at hw658_0)
       (try rw [Addr.add_zero'] at hw658_0)
       cases e658
       have qi658 : (0 < l1.length) = True := eq_true (by omega)
       (try rw [show ((0 : Int)).toNat = 0 from rfl] at hx658_0)
       (try rw [Addr.add_zero'] at hx658_0)
       replace hx658_0 := (HB.out.cell (World.block_lt_of_cell? w _ hx658_0)).trans hx658_0
       replace p658 := eq_true p658
       replace q658 := eq_true q658
       have p659 : 0 ≤ (0 : Int) := (by omega)
       have q659 : 0 < (l1.length : Int) := of_decide_eq_true y23
       obtain ⟨ad659, e659, hx659_0⟩ := Kd.at_int HR1.out 0 p659 q659
       have hw659_0 := hx659_0
       (try rw [show ((0 : Int)).toNat = 0 from rfl] at hw659_0)
       (try rw [show 0 * 1 = 0 from rfl] at hw659_0)
       (try rw [Addr.add_zero'] at hw659_0)
       obtain rfl : ad658 = ad659 := (by injection e659)
       have qi659 : (0 < l1.length) = True := eq_true (by omega)
       (try rw [show ((0 : Int)).toNat = 0 from rfl] at hx659_0)
       (try rw [Addr.add_zero'] at hx659_0)
       replace hx659_0 := (HB.out.cell (World.block_lt_of_cell? w _ hx659_0)).trans hx659_0
       replace p659 := eq_true p659
       replace q659 := eq_true q659
       have p660 : 0 ≤ ((rd l1 0) : Int) := of_decide_eq_true y23
       have q660 : (rd l1 0) < (l0_1.length : Int) := of_decide_eq_true y23
       obtain ⟨ad660, A660_1, c660_1, e660, hx660_0, hx660_1, hl660_1, hi660_1⟩ := at_T25 HR0_1.out (rd l1 0) p660 q660
       have hw660_1 := hx660_1
       have hw660_0 := hx660_0
       cases e660
       replace hx660_0 := (HB.out.cell (World.block_lt_of_cell? w _ hx660_0)).trans hx660_0
       replace hx660_1 := (HB.out.cell (World.block_lt_of_cell? w _ hx660_1)).trans hx660_1
       have HR660_1 := Aside0.mk hi660_1
       have HC660_1 := Aside0.mk hl660_1
       clear hi660_1 hl660_1
       replace p660 := eq_true p660
       replace q660 := eq_true q660
       obtain ⟨i039, hi039, _, hsz39, _⟩ := info_parts info3
       obtain ⟨A39, hcut39, hA39, hC39⟩ := print_drop_of (P := Try.prog) (Value.int .i64) 0 26 3 .i64 Try.underlying26 hi039 hsz39 (some ad658) c1 l1 1 (by omega) (of_decide_eq_true y23) HC1.out
       have HR661 := Aside0.mk (Kd.C_of_reads (h1 := fun _ => rfl) (hA39 _ (Kd.reads_of_C HR1.out)))
       have HC661 := Aside0.mk hC39
       clear hA39 hC39 hi039 hsz39
       refine start_ (n := 18) (S := fun w' => w'.cell? ⟨gb657, 0, none⟩ = some (.int .i64 t653) ∧ w'.cell? ⟨gb657, 1, none⟩ = some (.slice Ao36 t654.length co36) ∧ w'.cell? ⟨gb646, 0, none⟩ = some (.int .i64 a0_0) ∧ w'.cell? ⟨gb646, 1, none⟩ = some (.slice (some ad660) l0_1.length c0_1) ∧ w'.cell? ⟨gb647, 0, none⟩ = some (.int .i64 a2_0) ∧ w'.cell? ⟨gb647, 1, none⟩ = some (.slice A2_1 l2_1.length c2_1) ∧ w'.cell? ad658 = some (.int .i64 (rd l1 0)) ∧ w'.cell? ad658 = some (.int .i64 (rd l1 0)) ∧ w'.cell? (ad660.add (((rd l1 0)).toNat * 2)) = some (.int .i64 ((rd_T25 l0_1 (rd l1 0)).f0)) ∧ w'.cell? ⟨(ad660.add (((rd l1 0)).toNat * 2)).block, (ad660.add (((rd l1 0)).toNat * 2)).off + 1, none⟩ = some (.slice A660_1 ((rd_T25 l0_1 (rd l1 0)).f1).length c660_1)) (ds := [17]) #[false, false, false, false, false, false, false, false, false, false, false, false, false, false, false, false, false, false] (by kernel_rfl) rfl rfl ⟨(blk_cell BK657.out 0).trans rfl, (blk_cell BK657.out 1).trans rfl, (blk_cell BK646.out 0).trans rfl, (blk_cell BK646.out 1).trans rfl, (blk_cell BK647.out 0).trans rfl, (blk_cell BK647.out 1).trans rfl, ((HB.out.cell (World.block_lt_of_cell? w _ hw658_0)).trans hw658_0), ((HB.out.cell (World.block_lt_of_cell? w _ hw659_0)).trans hw659_0), ((HB.out.cell (World.block_lt_of_cell? w _ hw660_0)).trans hw660_0), ((HB.out.cell (World.block_lt_of_cell? w _ hw660_1)).trans hw660_1)⟩ (fun hHeld => ?_); refine with_tabW spec_l1Put.tab4 spec_l1Put.bits4 (fun HT_ HW_ => ?_)
       generalize w37.drew = w38 at HO656 BK646 BK647 BK648 BK657 HB HR660_1 HR661 hx658_0 hx659_0 hx660_0 hx660_1 hHeld ⊢
       refine zp 0 (some 15) HT_ ?_
       refine zp 2 (some 17) HT_ ?_
       refine zp 3 (some 18) HT_ ?_
       refine zp 5 (some 20) HT_ ?_
       refine zp 7 (some 22) HT_ ?_
       refine zp 8 (some 23) HT_ ?_
       refine zp 12 (some 27) HT_ ?_
       refine zp 13 (some 28) HT_ ?_
       refine zt10 1 (some 16) HT_ HW_ hHeld ?_
       refine zt10 4 (some 19) HT_ HW_ hHeld ?_
       refine zt10 6 (some 21) HT_ HW_ hHeld ?_
       refine zt10 9 (some 24) HT_ HW_ hHeld ?_
       refine zp 10 (some 25) HT_ ?_
       refine zt10 11 (some 26) HT_ HW_ hHeld ?_
       refine zt10 14 (some 29) HT_ HW_ hHeld ?_
       refine one_ (i := 15) (N := some 30) #[true, true, true, true, true, true, true, true, true, true, true, true, true, true, true, true, false, false] rfl rfl (one_of HT_.out (by kernel_rfl)) (by decide) (fun K hK => ?_)
       refine goes_ Try.func51 (by kernel_rfl) rfl #[.agg #[.int .i64 ((rd_T25 l0_1 (rd l1 0)).f0), .slice A660_1 ((rd_T25 l0_1 (rd l1 0)).f1).length c660_1], .slice A39 (l1.drop 1).length (c1 - 1), .agg #[.int .i64 a2_0, .slice A2_1 l2_1.length c2_1]] (by rfl) rfl rfl (by (try simp only [List.map_toArray, List.map_cons, List.map_nil]); first | done | (rw [show (l1.drop 1).length = (l1.length - 1) from List.length_drop] <;> rfl) | rfl | (simp only [List.length_drop, List.length_take]; rfl)) ?_
       with_reducible refine (ih k (by omega) ((rd_T25 l0_1 (rd l1 0)).f0) _ _ ((rd_T25 l0_1 (rd l1 0)).f1) _ _ (l1.drop 1) a2_0 _ _ l2_1 t662 t663 _ ?side1 ?side2 ?side3 ?side4 ?side5 ?side6 A21.out).mono ?_
       (case side1 => exact y15 HR660_1.out HB.out)
       (case side2 => exact HC660_1.out)
       (case side3 => exact y15 HR661.out HB.out)
       (case side4 => exact HC661.out)
       (case side5 => exact y15 HR2_1.out HB.out)
       (case side6 => exact HC2_1.out)
       rintro e w40 ⟨v664, rfl, ho0, hb⟩
       refine ⟨_, rfl, ?_⟩
       have HO665 := Aside0.mk (Kd.N_lower (Kd.N_mono (ok' := fun k_ => (w.heap.size ≤ k_) ∧ some k_ ≠ (.slice Ao36 t654.length co36 : Value).ownBlock ∧ k_ ≠ gb646 ∧ k_ ≠ gb647 ∧ k_ ≠ gb648 ∧ k_ ≠ gb657) ho0 (fun k_ hk_ => ⟨(Nat.le_trans (below_size (y7 HB.out GE646.out GE647.out GE648.out GE657.out)) hk_), (Kd.fresh' (Kd.N_lt (y3 HO656.out)) k_ hk_), (Kd.freshB (g := gb646) (o := .cells #[.int .i64 a0_0, .slice (some ad660) l0_1.length c0_1] 25 (0, 0)) (y0 BK646.out) k_ hk_), (Kd.freshB (g := gb647) (o := .cells #[.int .i64 a2_0, .slice A2_1 l2_1.length c2_1] 25 (0, 0)) (y0 BK647.out) k_ hk_), (Kd.freshB (g := gb648) (o := .cells #[.int .i64 0, .slice none 0 0] 25 (0, 0)) (y0 BK648.out) k_ hk_), (Kd.freshB (g := gb657) (o := .cells #[.int .i64 t653, .slice Ao36 t654.length co36] 25 (0, 0)) (y0 BK657.out) k_ hk_)⟩)) (below_size (y7 HB.out GE646.out GE647.out GE648.out GE657.out)))
       replace HO656 := Aside0.mk (Kd.N_elder' (y3 HO656.out) (Kd.N_base ho0) hb)
       replace BK646 := zbb BK646 hb
       replace BK647 := zbb BK647 hb
       replace BK648 := zbb BK648 hb
       replace BK657 := zbb BK657 hb
       replace HB := Aside0.mk (below_step (y7 HB.out GE646.out GE647.out GE648.out GE657.out) hb)
       (try clear hb)
       (try clear hb2)
       (try clear hk)
       (try clear hi)
       (try clear ho0)
       have p23 : 0 ≤ ((rd l1 0) : Int) := of_decide_eq_true y23
       have q23 : ((rd l1 0) : Int) < ((t654.length : Int) : Int) := of_decide_eq_true y23
       obtain ⟨go23, co23, eo23, gb23, gl23, cl23, HG23⟩ := Kd.N_form HO656.out (by omega)
       (first | cases eo23 | (injection eo23 with ea_ en_ ec_; (first | subst ea_ | (injection ea_ with ea_; subst ea_)); subst ec_; clear en_))
       have GB23 := Aside0.mk gb23
       have GG23 := Aside0.mk HG23
       clear gb23 gl23 HG23
       obtain ⟨ce23, hcl23, hM23, hcc23, hfr23⟩ := Kd.N_elem HO656.out z25 ((rd l1 0) : Int) p23 q23
       obtain ⟨ua23_1, uc23_1, rfl, ul23_1, ge23_1⟩ := k25_openF hM23
       have hx23_0 : World.cell? _ ⟨go23, ((rd l1 0) : Int).toNat * 2, none⟩ = some (.int .i64 ((rd_T25 t654 (rd l1 0)).f0)) := hcc23 0 _ rfl
       have hx23_1 : World.cell? _ ⟨go23, ((rd l1 0) : Int).toNat * 2 + 1, none⟩ = some (.slice ua23_1 ((rd_T25 t654 (rd l1 0)).f1).length uc23_1) := hcc23 1 _ rfl
       have hf23_0 : World.frozen? _ ⟨go23, ((rd l1 0) : Int).toNat * 2, none⟩ = false := hfr23 0
       have hf23_1 : World.frozen? _ ⟨go23, ((rd l1 0) : Int).toNat * 2 + 1, none⟩ = false := hfr23 1
       clear hcl23 hcc23 hfr23 hM23
       replace p23 := eq_true p23
       replace q23 := eq_true q23
       obtain ⟨Ao41, co41, eo41⟩ := Kd.N_slice HO665.out
       (first | subst eo41 | (injection eo41 with f1_ f2_ f3_; have f4_ := f1_.symm; have f5_ := f3_.symm; clear f1_ f2_ f3_; subst f4_; subst f5_))
       have HX42 := Aside0.mk (show Kd.N k25 25 _ w.heap.size (fun k_ => (w.heap.size ≤ k_) ∧ some k_ ≠ (.slice Ao41 t663.length co41 : Value).ownBlock ∧ k_ ≠ gb646 ∧ k_ ≠ gb647 ∧ k_ ≠ gb648 ∧ k_ ≠ gb657) (.slice (some ⟨go23, 0, none⟩) t654.length co36) t654 from (Kd.N_mono (HO656.out) (fun k_ hk => ⟨hk.1.1, ⟨hk.2, ⟨hk.1.2.1, ⟨hk.1.2.2.1, ⟨hk.1.2.2.2.1, hk.1.2.2.2.2⟩⟩⟩⟩⟩)))
       replace HX42 := Aside0.mk (show Kd.N k25 25 _ w.heap.size (fun k_ => (w.heap.size ≤ k_) ∧ k_ ≠ gb646 ∧ k_ ≠ gb647 ∧ k_ ≠ gb648 ∧ k_ ≠ gb657) (.slice (some ⟨go23, 0, none⟩) t654.length co36) t654 from Kd.N_mono HX42.out (fun k_ hk => ⟨hk.1, ⟨hk.2.2.1, ⟨hk.2.2.2.1, ⟨hk.2.2.2.2.1, hk.2.2.2.2.2⟩⟩⟩⟩))
       obtain ⟨ce42, hcl42, hM42, hcc42, hfr42⟩ := Kd.N_elem HX42.out z25 ((rd l1 0) : Int) (of_decide_eq_true y23) (by have h_ : ((rd l1 0) : Int) < ((t654.length : Int) : Int) := of_decide_eq_true y23; first | exact h_ | (have e_ := (Kd.N_reads' HO656.out).1; omega) | simpa using h_)
       obtain ⟨ua42_1, uc42_1, rfl, ul42_1, ge42_1⟩ := k25_openF hM42
       have HP42 := (Kd.N_seg HX42.out ((rd l1 0) : Int) (of_decide_eq_true y23) (by have h_ : ((rd l1 0) : Int) < ((t654.length : Int) : Int) := of_decide_eq_true y23; first | exact h_ | (have e_ := (Kd.N_reads' HO656.out).1; omega) | simpa using h_) (seg := [.int .i64 t662, .slice Ao41 t663.length co41]) (j := 0) hcl42 hcc42 (show 2 ≤ 2 from by decide) (x' := (⟨t662, t663⟩ : S25)) (k25_mkF _ _ (⟨t662, t663⟩ : S25) (Kd.N_reads' (Kd.N_mono (ok' := (fun k_ => ((fun k_ => (w.heap.size ≤ k_) ∧ k_ ≠ gb646 ∧ k_ ≠ gb647 ∧ k_ ≠ gb648 ∧ k_ ≠ gb657)) k_ ∧ k_ ≠ go23)) (HO665.out) (fun k_ hk => ⟨⟨hk.1, ⟨hk.2.2.1, ⟨hk.2.2.2.1, ⟨hk.2.2.2.2.1, hk.2.2.2.2.2⟩⟩⟩⟩, fun e_ => (hk.2.1) (by rw [e_]; rfl)⟩))).2.1 (Kd.N_F (Kd.N_mono (ok' := (fun k_ => ((fun k_ => (w.heap.size ≤ k_) ∧ k_ ≠ gb646 ∧ k_ ≠ gb647 ∧ k_ ≠ gb648 ∧ k_ ≠ gb657)) k_ ∧ k_ ≠ go23)) (HO665.out) (fun k_ hk => ⟨⟨hk.1, ⟨hk.2.2.1, ⟨hk.2.2.2.1, ⟨hk.2.2.2.2.1, hk.2.2.2.2.2⟩⟩⟩⟩, fun e_ => (hk.2.1) (by rw [e_]; rfl)⟩)))) (fun _ hk => hk)).1
       rw [← Ny666.out] at HP42
       have HQ42 := Aside0.mk HP42
       clear hcl42 hcc42 hfr42 hM42 HP42
       refine hK.out _ _ ⟨(blk_cell BK657.out 0).trans rfl, (blk_cell BK657.out 1).trans rfl, (blk_cell BK646.out 0).trans rfl, (blk_cell BK646.out 1).trans rfl, (blk_cell BK647.out 0).trans rfl, (blk_cell BK647.out 1).trans rfl, ((HB.out.cell (World.block_lt_of_cell? w _ hw658_0)).trans hw658_0), ((HB.out.cell (World.block_lt_of_cell? w _ hw659_0)).trans hw659_0), ((HB.out.cell (World.block_lt_of_cell? w _ hw660_0)).trans hw660_0), ((HB.out.cell (World.block_lt_of_cell? w _ hw660_1)).trans hw660_1)⟩ (fun hHeld => ?_)
       clear hK K
       refine norm_ (a' := ?_) ?_ ?_
       rotate_left
       ·show Act.put _ (some 30) _ = _
        simp only [Act.put, List.setIfInBounds_toArray, List.set_cons_zero, List.set_cons_succ, i64_w, i32_w]
        rfl
       refine zp 16 (some 31) HT_ ?_
       refine last_ (i := 17) (N := none) #[true, true, true, true, true, true, true, true, true, true, true, true, true, true, true, true, true, true] rfl rfl (one_of HT_.out (by kernel_rfl)) (by decide) (fun K hK => ?_)
       refine skip_ (w1 := ?_) (by rfl) rfl ?_ ?_
       rotate_left
       ·go_simp
        rfl
       refine hK.out _ _ ?_
       clear hK K
       refine done_ (done_of HT_.out (by kernel_rfl)) ?_
       have n0_ : Aside0 (Kd.N k25 25 ((w40.setCell ⟨go23, ((rd l1 0) : Int).toNat * 2, none⟩ (.int .i64 t662)).setCell ⟨go23, ((rd l1 0) : Int).toNat * 2 + 1, none⟩ (.slice Ao41 t663.length co41)) w.heap.size (fun k_ => (w.heap.size ≤ k_) ∧ k_ ≠ gb646 ∧ k_ ≠ gb647 ∧ k_ ≠ gb648 ∧ k_ ≠ gb657) (.slice (some ⟨go23, 0, none⟩) t654.length co36) y666) := ⟨(y3 HQ42.out)⟩
       have n1_ : Aside0 (((w40.setCell ⟨go23, ((rd l1 0) : Int).toNat * 2, none⟩ (.int .i64 t662)).setCell ⟨go23, ((rd l1 0) : Int).toNat * 2 + 1, none⟩ (.slice Ao41 t663.length co41)).heap[gb646]? = some (.cells #[.int .i64 a0_0, .slice (some ad660) l0_1.length c0_1] 25 (0, 0))) := ⟨(y50 HQ42.out BK646.out)⟩
       have n2_ : Aside0 (((w40.setCell ⟨go23, ((rd l1 0) : Int).toNat * 2, none⟩ (.int .i64 t662)).setCell ⟨go23, ((rd l1 0) : Int).toNat * 2 + 1, none⟩ (.slice Ao41 t663.length co41)).heap[gb647]? = some (.cells #[.int .i64 a2_0, .slice A2_1 l2_1.length c2_1] 25 (0, 0))) := ⟨(y49 HQ42.out BK647.out)⟩
       have n3_ : Aside0 (((w40.setCell ⟨go23, ((rd l1 0) : Int).toNat * 2, none⟩ (.int .i64 t662)).setCell ⟨go23, ((rd l1 0) : Int).toNat * 2 + 1, none⟩ (.slice Ao41 t663.length co41)).heap[gb648]? = some (.cells #[.int .i64 0, .slice none 0 0] 25 (0, 0))) := ⟨(y48 HQ42.out BK648.out)⟩
       have n4_ : Aside0 (((w40.setCell ⟨go23, ((rd l1 0) : Int).toNat * 2, none⟩ (.int .i64 t662)).setCell ⟨go23, ((rd l1 0) : Int).toNat * 2 + 1, none⟩ (.slice Ao41 t663.length co41)).heap[gb657]? = some (.cells #[.int .i64 t653, .slice (some ⟨go23, 0, none⟩) t654.length co36] 25 (0, 0))) := ⟨(by (with_reducible repeat (first | refine blk_drewN ?_ _ | refine blk_drew ?_ | refine blk_alloc ?_ _)); refine blk_far ?_ (by have h_ := Kd.N_away HQ42.out (fun _ hk => hk.2.2.2.2); intro e_; exact h_ (by rw [e_]; rfl)) _; (with_reducible repeat (first | refine blk_drewN ?_ _ | refine blk_drew ?_ | refine blk_alloc ?_ _)); refine blk_far ?_ (by have h_ := Kd.N_away HQ42.out (fun _ hk => hk.2.2.2.2); intro e_; exact h_ (by rw [e_]; rfl)) _; (with_reducible repeat (first | refine blk_drewN ?_ _ | refine blk_drew ?_ | refine blk_alloc ?_ _)); exact BK657.out)⟩
       have n5_ : Aside0 (Below w.heap.size w ((w40.setCell ⟨go23, ((rd l1 0) : Int).toNat * 2, none⟩ (.int .i64 t662)).setCell ⟨go23, ((rd l1 0) : Int).toNat * 2 + 1, none⟩ (.slice Ao41 t663.length co41))) := ⟨(y65 HB.out GB23.out GE646.out GE647.out GE648.out GE657.out)⟩
       (try clear HO656)
       (try clear BK646)
       (try clear BK647)
       (try clear BK648)
       (try clear BK657)
       (try clear HB)
       generalize ((w40.setCell ⟨go23, ((rd l1 0) : Int).toNat * 2, none⟩ (.int .i64 t662)).setCell ⟨go23, ((rd l1 0) : Int).toNat * 2 + 1, none⟩ (.slice Ao41 t663.length co41)) = w43 at n0_ n1_ n2_ n3_ n4_ n5_ ⊢
       have HO656 := n0_
       have BK646 := n1_
       have BK647 := n2_
       have BK648 := n3_
       have BK657 := n4_
       have HB := n5_
       clear n0_ n1_ n2_ n3_ n4_ n5_
       have hcz44_0 := zh BK657
       have hcz44_1 := zh1 BK657
       have hfz44_0 := zfr BK657 0
       have hfz44_1 := zfr BK657 1
       have hnb45 := NB648_647.out
       have hnc45 := NB647_648.out
       have hcz46_0 := zh BK648
       have hcz46_1 := zh1 BK648
       have hfz46_0 := zfr BK648 0
       have hfz46_1 := zfr BK648 1
       try go_wp2
       refine bodyPost_ret (results_cell_row rfl _ _ gb648 25 #[.int .i64 t653, .slice (some ⟨go23, 0, none⟩) t654.length co36] (0, 0) _ rfl (by (with_reducible repeat (first | refine blk_drewN ?_ _ | refine blk_drew ?_ | refine blk_alloc ?_ _)); refine blk_put (cs := #[.int .i64 t653, .slice none 0 0]) ?_ 1 _ rfl; (with_reducible repeat (first | refine blk_drewN ?_ _ | refine blk_drew ?_ | refine blk_alloc ?_ _)); apply blk_put (i := 0); (case h => exact y0 BK648.out); (case e => rfl)) Try.underlying25 rfl (by kernel_rfl)) rfl ?_
       exact ⟨_, y19, (by (with_reducible repeat (first | apply Kd.N_alloc | apply Kd.N_drewN | apply Kd.N_drew)); exact Kd.N_mono (Kd.N_far (p := ⟨gb648, 1, none⟩) (Kd.N_far (p := ⟨gb648, 0, none⟩) (Kd.N_mono HO656.out (fun k_ hk => (⟨hk, hk.2.2.2.1⟩ : _ ∧ k_ ≠ gb648))) (fun _ hk => hk.2) (.int .i64 t653)) (fun _ hk => hk.2) (.slice (some ⟨go23, 0, none⟩) t654.length co36)) (fun _ hk => hk.1.1)), (y7 HB.out GE646.out GE647.out GE648.out GE657.out)⟩
      ·rw [if_neg c22] at H
       exact absurd H (by simp)
     ·rw [if_neg c20] at H
      exact absurd H (by simp)
    ·rw [if_neg c19] at H
     exact absurd H (by simp)
   ·rw [if_neg c18] at H
    exact absurd H (by simp)
  ·rw [if_neg c17] at H
   exact absurd H (by simp)
end Go.Proofs.Ythfflieeifakdaa.PA
end
section
namespace Go.Proofs.Ythfflieeifakdaa.PA
open Go.RowKit Go.Proofs.YthfflieeifakdaaW.PrintWords Go.Proofs.YthfflieeifakdaaW.PrintLast Go.Proofs.YthfflieeifakdaaW.PrintMore
attribute [local go_sem] max2_int min2_int max_two min_two max_three min_three max_four min_four
set_option linter.unusedVariables false
set_option linter.unusedSimpArgs false
def spec_ValPut.j0 : Nat → List Int → Bool → Int → List (S25) → Int → List (S25) → Int → List (S25) → Option (Int × (List (S25)) × Bool)
 | 0, _, _, _, _, _, _, _, _ => none
 | k + 1, x1, x26, x668000, x668001, x669000, x669001, x676000, x676001 => if x26 = true then (some (0, ([] : List (S25)), false)) else ((spec_l1Of.f k x676000 x676001 4).bind fun bt677 => ((spec_l1Of.f k x669000 x669001 4).bind fun bt682 => ((spec_l1Same.f k bt677.1 bt682.1).bind fun t687 => (if t687 = true then ((spec_l1Put.f k x668000 x668001 x1 x669000 x669001).bind fun bt688 => (some (bt688.1, bt688.2, true))) else (some (0, ([] : List (S25)), false))))))
def spec_ValPut.f (k : Nat) (a0_0 : Int) (l0_1 : List (S25)) (l1 : List Int) (a2_0 : Int) (l2_1 : List (S25)) : Option (Int × (List (S25)) × Bool) := (spec_ValAt.f k a0_0 l0_1 l1).bind fun bt670 => (if bt670.2.2 = true then ((spec_l1Any.f k a2_0 l2_1).bind fun t676 => (spec_ValPut.j0 k l1 (!t676) a0_0 l0_1 a2_0 l2_1 bt670.1 bt670.2.1)) else (spec_ValPut.j0 k l1 true a0_0 l0_1 a2_0 l2_1 bt670.1 bt670.2.1))
theorem spec_ValPut.mono_l : ∀ k, (∀ y0 y1 y2 y3 y4 y5 y6 y7, LeO (spec_ValPut.j0 k y0 y1 y2 y3 y4 y5 y6 y7) (spec_ValPut.j0 (k + 1) y0 y1 y2 y3 y4 y5 y6 y7))
 | 0 => fun _ _ _ _ _ _ _ _ r h => by simp [spec_ValPut.j0] at h
 | k + 1 => by
  have ih0 := spec_ValPut.mono_l k
  ·intro y0 y1 y2 y3 y4 y5 y6 y7
   unfold spec_ValPut.j0
   repeat' first
   | (with_reducible exact ih0 _ _ _ _ _ _ _ _)
   | (with_reducible exact spec_ValAt.mono _ _ _ _)
   | (with_reducible exact spec_l1Any.mono _ _ _)
   | (with_reducible exact spec_l1Of.mono _ _ _ _)
   | (with_reducible exact spec_l1Put.mono _ _ _ _ _ _)
   | (with_reducible exact spec_l1Same.mono _ _ _)
   | (with_reducible exact LeO.refl _)
   | (with_reducible exact LeO.none _)
   | (with_reducible refine LeO.ite ?_ ?_)
   | (with_reducible refine LeO.bind ?_ (fun _ => ?_))
   | exact ih0 _ _ _ _ _ _ _ _
   | exact spec_ValAt.mono _ _ _ _
   | exact spec_l1Any.mono _ _ _
   | exact spec_l1Of.mono _ _ _ _
   | exact spec_l1Put.mono _ _ _ _ _ _
   | exact spec_l1Same.mono _ _ _
   | exact LeO.none _
   | refine LeO.ite ?_ ?_
   | refine LeO.bind ?_ (fun _ => ?_)
theorem spec_ValPut.mono : ∀ a0 a1 a2 a3 a4 k, LeO (spec_ValPut.f k a0 a1 a2 a3 a4) (spec_ValPut.f (k + 1) a0 a1 a2 a3 a4) := by
 intro a0 a1 a2 a3 a4 k
 have ih0 := spec_ValPut.mono_l k
 unfold spec_ValPut.f
 repeat' first
   | (with_reducible exact ih0 _ _ _ _ _ _ _ _)
   | (with_reducible exact spec_ValAt.mono _ _ _ _)
   | (with_reducible exact spec_l1Any.mono _ _ _)
   | (with_reducible exact spec_l1Of.mono _ _ _ _)
   | (with_reducible exact spec_l1Put.mono _ _ _ _ _ _)
   | (with_reducible exact spec_l1Same.mono _ _ _)
   | (with_reducible exact LeO.refl _)
   | (with_reducible exact LeO.none _)
   | (with_reducible refine LeO.ite ?_ ?_)
   | (with_reducible refine LeO.bind ?_ (fun _ => ?_))
   | exact ih0 _ _ _ _ _ _ _ _
   | exact spec_ValAt.mono _ _ _ _
   | exact spec_l1Any.mono _ _ _
   | exact spec_l1Of.mono _ _ _ _
   | exact spec_l1Put.mono _ _ _ _ _ _
   | exact spec_l1Same.mono _ _ _
   | exact LeO.none _
   | refine LeO.ite ?_ ?_
   | refine LeO.bind ?_ (fun _ => ?_)
set_option maxHeartbeats 8000000 in
set_option maxRecDepth 100000 in
theorem spec_ValPut.calls (k : Nat) (a0_0 : Int) (A0_1 : Option Addr) (c0_1 : Nat) (l0_1 : List (S25)) (A1 : Option Addr) (c1 : Nat) (l1 : List Int) (a2_0 : Int) (A2_1 : Option Addr) (c2_1 : Nat) (l2_1 : List (S25)) (r1 : Int) (r2 : List (S25)) (r3 : Bool) (w : World) (hr0_1 : Kd.C k25 w A0_1 l0_1.length l0_1) (hc0_1 : l0_1.length ≤ c0_1) (hr1 : Kd.C (Kd.int .i64) w A1 l1.length l1) (hc1 : l1.length ≤ c1) (hr2_1 : Kd.C k25 w A2_1 l2_1.length l2_1) (hc2_1 : l2_1.length ≤ c2_1) (h : spec_ValPut.f k a0_0 l0_1 l1 a2_0 l2_1 = some (r1, r2, r3)) :
  Calls Try.prog 26 #[.agg #[.int .i64 a0_0, .slice A0_1 l0_1.length c0_1], .slice A1 l1.length c1, .agg #[.int .i64 a2_0, .slice A2_1 l2_1.length c2_1]] w fun e w' => ∃ v1_ : Value, e = .returned (.tuple #[.agg #[.int .i64 r1, v1_], .bool r3]) ∧ Kd.N k25 25 w' w.heap.size (fun k_ => (w.heap.size ≤ k_)) v1_ r2 ∧ Below w.heap.size w w' := by
 have hu25 := Try.underlying25
 have hu50 := Try.underlying50
 have HR0_1 := Aside0.mk hr0_1
 have HC0_1 := Aside0.mk hc0_1
 clear hr0_1 hc0_1
 have HR1 := Aside0.mk hr1
 have HC1 := Aside0.mk hc1
 clear hr1 hc1
 have HR2_1 := Aside0.mk hr2_1
 have HC2_1 := Aside0.mk hc2_1
 clear hr2_1 hc2_1
 have HB := Aside0.mk (Below.refl w.heap.size w)
 have H : ((spec_ValAt.f k a0_0 l0_1 l1).bind fun bt670 => (if bt670.2.2 = true then ((spec_l1Any.f k a2_0 l2_1).bind fun t676 => (spec_ValPut.j0 k l1 (!t676) a0_0 l0_1 a2_0 l2_1 bt670.1 bt670.2.1)) else (spec_ValPut.j0 k l1 true a0_0 l0_1 a2_0 l2_1 bt670.1 bt670.2.1))) = some (r1, r2, r3) := h
 clear h
 obtain ⟨⟨t670, t671, t674⟩, A40, H⟩ := ob H
 have A4 := Aside0.mk A40
 clear A40
 have HC5 := Aside0.mk H
 clear H
 go_enter Try.func26, Try.ntmps26
 go_upto_region 2 with (first | ((with_reducible refine gate_dst (N := 3) rfl ?_); refine zbx 3 #[.int .i64 a0_0, .slice A0_1 l0_1.length c0_1] 25 ?_; intro gb667 hg w6 hbox hb; have BK667 := Aside0.mk hbox; have GW667 := Aside0.mk ((y9 hg HB.out : w.heap.size ≤ gb667)); have GE667 := Aside0.mk ((y9 hg HB.out : w.heap.size ≤ gb667)); replace HB := Aside0.mk (below_step (y5 HB.out) hb); clear hb hbox hg) | ((with_reducible refine gate_dst (N := 5) rfl ?_); refine zbx 5 #[.int .i64 a2_0, .slice A2_1 l2_1.length c2_1] 25 ?_; intro gb668 hg w7 hbox hb; have BK668 := Aside0.mk hbox; have GW668 := Aside0.mk ((y11 hg HB.out GE667.out : w.heap.size ≤ gb668)); have GE668 := Aside0.mk ((y11 hg HB.out GE667.out : w.heap.size ≤ gb668)); replace HB := Aside0.mk (below_step (y6 HB.out GE667.out) hb); have NB667_668 := zltn hg BK667; have NB668_667 := zgtn hg BK667; replace BK667 := zbb BK667 hb; clear hb hbox hg) | ((with_reducible refine gate_dst (N := 6) rfl ?_); refine zbx 6 #[.int .i64 0, .slice none 0 0] 25 ?_; intro gb669 hg w8 hbox hb; have BK669 := Aside0.mk hbox; have GW669 := Aside0.mk ((y16 hg HB.out GE667.out GE668.out : w.heap.size ≤ gb669)); have GE669 := Aside0.mk ((y16 hg HB.out GE667.out GE668.out : w.heap.size ≤ gb669)); replace HB := Aside0.mk (below_step (y2 HB.out GE667.out GE668.out) hb); have NB667_669 := zltn hg BK667; have NB669_667 := zgtn hg BK667; replace BK667 := zbb BK667 hb; have NB668_669 := zltn hg BK668; have NB669_668 := zgtn hg BK668; replace BK668 := zbb BK668 hb; clear hb hbox hg; have hnb9 := NB667_668.out; have hnc9 := NB668_667.out; have hnb10 := NB667_669.out; have hnc10 := NB669_667.out; have hcz11_0 := zh BK667; have hcz11_1 := zh1 BK667; have hfz11_0 := zfr BK667 0; have hfz11_1 := zfr BK667 1) | ((with_reducible refine gate_callee (f := 13) rfl ?_); refine goesL_ (some 17) rfl rfl Try.func13 (by kernel_rfl) rfl #[.agg #[.int .i64 a0_0, .slice A0_1 l0_1.length c0_1], .slice A1 l1.length c1] rfl y8 ?_; (with_reducible refine (spec_ValAt.calls k a0_0 (fun k_ => k_ < w.heap.size) _ _ l0_1 _ _ l1 t670 t671 t674 _ ?side1 ?side2 ?side3 A4.out).mono ?_); (case side1 => exact Kd.V_mk HC0_1.out (Kd.F_below (Kd.C_F k25_heap HR0_1.out) (y4 HB.out GE667.out GE668.out GE669.out))); (case side2 => exact y15 HR1.out HB.out); (case side3 => exact HC1.out); rintro e w12 ⟨v672, rfl, ho0, hb⟩; refine ⟨_, rfl, ?_⟩; have HO673 := Aside0.mk (Kd.N_lower (Kd.N_mono (ok' := fun k_ => (w.heap.size ≤ k_) ∧ k_ ≠ gb667 ∧ k_ ≠ gb668 ∧ k_ ≠ gb669) (Kd.R_N (Kd.R_bound ho0)) (fun k_ hk_ => ⟨(Nat.le_trans (below_size (y4 HB.out GE667.out GE668.out GE669.out)) hk_.2.1), (Kd.freshB (g := gb667) (o := .cells #[.int .i64 a0_0, .slice A0_1 l0_1.length c0_1] 25 (0, 0)) (y0 BK667.out) k_ hk_.2.1), (Kd.freshB (g := gb668) (o := .cells #[.int .i64 a2_0, .slice A2_1 l2_1.length c2_1] 25 (0, 0)) (y0 BK668.out) k_ hk_.2.1), (Kd.freshB (g := gb669) (o := .cells #[.int .i64 0, .slice none 0 0] 25 (0, 0)) (y0 BK669.out) k_ hk_.2.1)⟩)) (below_size (y4 HB.out GE667.out GE668.out GE669.out))); replace BK667 := zbb BK667 hb; replace BK668 := zbb BK668 hb; replace BK669 := zbb BK669 hb; replace HB := Aside0.mk (below_step (y4 HB.out GE667.out GE668.out GE669.out) hb); (try clear hb); (try clear hb2); (try clear hk); (try clear hi); (try clear ho0)) | ((with_reducible refine gate_dst (N := 8) rfl ?_); refine zbx 8 #[.int .i64 0, .slice none 0 0] 25 ?_; intro gb675 hg w13 hbox hb; replace HO673 := Aside0.mk (Kd.N_below (Kd.N_elderB (y3 HO673.out) gb675 (Nat.le_of_eq hg.symm)) hb); have BK675 := Aside0.mk hbox; have GW675 := Aside0.mk ((y22 hg HB.out GE667.out GE668.out GE669.out : w.heap.size ≤ gb675)); have GE675 := Aside0.mk ((y22 hg HB.out GE667.out GE668.out GE669.out : w.heap.size ≤ gb675)); replace HB := Aside0.mk (below_step (y4 HB.out GE667.out GE668.out GE669.out) hb); have NB667_675 := zltn hg BK667; have NB675_667 := zgtn hg BK667; replace BK667 := zbb BK667 hb; have NB668_675 := zltn hg BK668; have NB675_668 := zgtn hg BK668; replace BK668 := zbb BK668 hb; have NB669_675 := zltn hg BK669; have NB675_669 := zgtn hg BK669; replace BK669 := zbb BK669 hb; clear hb hbox hg; have hnb14 := NB675_667.out; have hnc14 := NB667_675.out; have hnb15 := NB675_668.out; have hnc15 := NB668_675.out; have hnb16 := NB675_669.out; have hnc16 := NB669_675.out; have hcz17_0 := zh BK675; have hcz17_1 := zh1 BK675; have hfz17_0 := zfr BK675 0; have hfz17_1 := zfr BK675 1; obtain ⟨Ao18, co18, eo18⟩ := Kd.N_slice HO673.out; subst eo18))
 (try simp only [Act.put, List.setIfInBounds_toArray, List.set_cons_zero, List.set_cons_succ])
 go_cut [26] (fun v26 wc => ∃ (kq : Nat) (x26_4 : Bool), v26 = .bool x26_4 ∧ Aside0 (spec_ValPut.j0 kq l1 x26_4 a0_0 l0_1 a2_0 l2_1 t670 t671 = some (r1, r2, r3)) ∧ Aside0 (kq ≤ k) ∧ Aside0 (Kd.N k25 25 wc w.heap.size (fun k_ => (w.heap.size ≤ k_) ∧ k_ ≠ gb667 ∧ k_ ≠ gb668 ∧ k_ ≠ gb669 ∧ k_ ≠ gb675) (.slice Ao18 t671.length co18) t671) ∧ Aside0 (wc.heap[gb667]? = some (.cells #[.int .i64 a0_0, (.slice A0_1 l0_1.length c0_1)] 25 (0, 0))) ∧ Aside0 (wc.heap[gb668]? = some (.cells #[.int .i64 a2_0, (.slice A2_1 l2_1.length c2_1)] 25 (0, 0))) ∧ Aside0 (wc.heap[gb669]? = some (.cells #[.int .i64 0, (.slice none 0 0)] 25 (0, 0))) ∧ Aside0 (wc.heap[gb675]? = some (.cells #[.int .i64 t670, (.slice Ao18 t671.length co18)] 25 (0, 0))) ∧ Aside0 (Below w.heap.size w wc))
 case first =>
  have H := HC5.out
  clear HC5
  by_cases c19 : t674 = true
  ·subst c19
   rw [if_pos rfl] at H
   obtain ⟨t676, A200, H⟩ := ob H
   have A20 := Aside0.mk A200
   clear A200
   have H' := Aside0.mk H
   clear H
   have hnb21 := NB668_667.out
   have hnc21 := NB667_668.out
   have hnb22 := NB668_669.out
   have hnc22 := NB669_668.out
   have hnb23 := NB668_675.out
   have hnc23 := NB675_668.out
   have hcz24_0 := zh BK668
   have hcz24_1 := zh1 BK668
   have hfz24_0 := zfr BK668 0
   have hfz24_1 := zfr BK668 1
   go_wp2_with (first | (go_at_call 35; (with_reducible refine (spec_l1Any.calls k a2_0 _ _ l2_1 t676 _ ?side1 ?side2 A20.out).mono ?_); (case side1 => exact Kd.C_below HR2_1.out (y7 HB.out GE667.out GE668.out GE669.out GE675.out)); (case side2 => exact HC2_1.out); rintro e w25 ⟨rfl, hb⟩; replace HO673 := Aside0.mk (Kd.N_below (by (with_reducible repeat (first | apply Kd.N_alloc | apply Kd.N_drewN | apply Kd.N_drew)); exact (Kd.N_mono (Kd.N_far (p := ⟨gb675, 1, none⟩) (Kd.N_far (p := ⟨gb675, 0, none⟩) (Kd.N_mono HO673.out (fun k_ hk => (⟨hk, hk.2⟩ : _ ∧ k_ ≠ gb675))) (fun _ hk => hk.2) (.int .i64 t670)) (fun _ hk => hk.2) (.slice Ao18 t671.length co18)) (fun _ h_ => h_.1))) hb); replace BK667 := Aside0.mk (blk_below (g := gb667) (o := .cells #[.int .i64 a0_0, .slice A0_1 l0_1.length c0_1] 25 (0, 0)) (y1 NB667_675.out BK667.out) hb); replace BK668 := Aside0.mk (blk_below (g := gb668) (o := .cells #[.int .i64 a2_0, .slice A2_1 l2_1.length c2_1] 25 (0, 0)) (y1 NB668_675.out BK668.out) hb); replace BK669 := Aside0.mk (blk_below (g := gb669) (o := .cells #[.int .i64 0, .slice none 0 0] 25 (0, 0)) (y1 NB669_675.out BK669.out) hb); replace BK675 := Aside0.mk (blk_below (g := gb675) (o := .cells #[.int .i64 t670, .slice Ao18 t671.length co18] 25 (0, 0)) (by (with_reducible repeat (first | refine blk_drewN ?_ _ | refine blk_drew ?_ | refine blk_alloc ?_ _)); refine blk_put (cs := #[.int .i64 t670, .slice none 0 0]) ?_ 1 _ rfl; (with_reducible repeat (first | refine blk_drewN ?_ _ | refine blk_drew ?_ | refine blk_alloc ?_ _)); apply blk_put (i := 0); (case h => exact y0 BK675.out); (case e => rfl)) hb); replace HB := Aside0.mk (below_step (y7 HB.out GE667.out GE668.out GE669.out GE675.out) hb); (try clear hb); (try clear hb2); (try clear hk); (try clear hi)))
   go_meet
   case rel => exact ⟨_, (!t676), y34, H', ⟨y46⟩, ⟨(y54 HO673.out)⟩, ⟨(y0 BK667.out)⟩, ⟨(y0 BK668.out)⟩, ⟨(y0 BK669.out)⟩, ⟨(y0 BK675.out)⟩, ⟨(y7 HB.out GE667.out GE668.out GE669.out GE675.out)⟩⟩
  ·replace c19 := Bool.eq_false_iff.mpr c19
   subst c19
   rw [if_neg (show ¬ (false = true) by decide)] at H
   have H' := Aside0.mk H
   clear H
   go_wp2
   go_meet
   case rel => exact ⟨_, (true), y34, H', ⟨y46⟩, ⟨(by (with_reducible repeat (first | apply Kd.N_alloc | apply Kd.N_drewN | apply Kd.N_drew)); exact Kd.N_mono (Kd.N_far (p := ⟨gb675, 1, none⟩) (Kd.N_far (p := ⟨gb675, 0, none⟩) (Kd.N_mono HO673.out (fun k_ hk => (⟨hk, hk.2⟩ : _ ∧ k_ ≠ gb675))) (fun _ hk => hk.2) (.int .i64 t670)) (fun _ hk => hk.2) (.slice Ao18 t671.length co18)) (fun _ hk => ⟨hk.1.1.1, ⟨hk.1.1.2.1, ⟨hk.1.1.2.2.1, ⟨hk.1.1.2.2.2, hk.1.2⟩⟩⟩⟩))⟩, ⟨(y1 NB667_675.out BK667.out)⟩, ⟨(y1 NB668_675.out BK668.out)⟩, ⟨(y1 NB669_675.out BK669.out)⟩, ⟨(by (with_reducible repeat (first | refine blk_drewN ?_ _ | refine blk_drew ?_ | refine blk_alloc ?_ _)); refine blk_put (cs := #[.int .i64 t670, .slice none 0 0]) ?_ 1 _ rfl; (with_reducible repeat (first | refine blk_drewN ?_ _ | refine blk_drew ?_ | refine blk_alloc ?_ _)); refine blk_put (cs := #[.int .i64 0, .slice none 0 0]) ?_ 0 _ rfl; (with_reducible repeat (first | refine blk_drewN ?_ _ | refine blk_drew ?_ | refine blk_alloc ?_ _)); exact BK675.out)⟩, ⟨(y7 HB.out GE667.out GE668.out GE669.out GE675.out)⟩⟩
 case rest =>
  clear HC5
  try clear c1
  try clear c2
  try clear p2
  try clear c9
  try clear c10
  try clear c13
  try clear c14
  try clear c15
  try clear c16
  try clear c19
  try clear c21
  try clear c22
  try clear c23
  try clear hcz11_0
  try clear hcz11_1
  try clear hcz17_0
  try clear hcz17_1
  try clear hcz24_0
  try clear hcz24_1
  try clear hfz11_0
  try clear hfz11_1
  try clear hfz17_0
  try clear hfz17_1
  try clear hfz24_0
  try clear hfz24_1
  obtain ⟨kq, x26_4, rfl, HA, HJ4, HO_676001, BK667, BK668, BK669, BK675, HB⟩ := hcut
  cases kq with
  | zero => exact absurd HA.out (by simp [spec_ValPut.j0])
  | succ kj4 =>
   have H := HA.out
   clear HA
   simp only [spec_ValPut.j0] at H
   by_cases c26 : x26_4 = true
   ·subst c26
    rw [if_pos rfl] at H
    simp only [Option.some.injEq, Prod.mk.injEq] at H
    obtain ⟨rfl, rfl, rfl⟩ := H
    have hnb27 := NB669_667.out
    have hnc27 := NB667_669.out
    have hnb28 := NB669_668.out
    have hnc28 := NB668_669.out
    have hnb29 := NB669_675.out
    have hnc29 := NB675_669.out
    have hcz30_0 := zh BK669
    have hcz30_1 := zh1 BK669
    have hfz30_0 := zfr BK669 0
    have hfz30_1 := zfr BK669 1
    go_wp2
    refine bodyPost_ret (results_ct rfl _ _ gb669 25 #[.int .i64 0, .slice none 0 0] (0, 0) _ rfl (by (with_reducible repeat (first | refine blk_drewN ?_ _ | refine blk_drew ?_ | refine blk_alloc ?_ _)); refine blk_put (cs := #[.int .i64 0, .slice none 0 0]) ?_ 1 _ rfl; (with_reducible repeat (first | refine blk_drewN ?_ _ | refine blk_drew ?_ | refine blk_alloc ?_ _)); apply blk_put (i := 0); (case h => exact y0 BK669.out); (case e => rfl)) Try.underlying25 rfl (by kernel_rfl)) rfl ?_
    exact ⟨_, y19, y37, (y7 HB.out GE667.out GE668.out GE669.out GE675.out)⟩
   ·replace c26 := Bool.eq_false_iff.mpr c26
    subst c26
    rw [if_neg (show ¬ (false = true) by decide)] at H
    obtain ⟨⟨t677, t680⟩, A310, H⟩ := ob H
    have A31 := Aside0.mk A310
    clear A310
    obtain ⟨⟨t682, t685⟩, A320, H⟩ := ob H
    have A32 := Aside0.mk A320
    clear A320
    obtain ⟨t687, A330, H⟩ := ob H
    have A33 := Aside0.mk A330
    clear A330
    by_cases c34 : t687 = true
    ·subst c34
     rw [if_pos rfl] at H
     obtain ⟨⟨t688, t689⟩, A350, H⟩ := ob H
     have A35 := Aside0.mk A350
     clear A350
     simp only [Option.some.injEq, Prod.mk.injEq] at H
     obtain ⟨rfl, rfl, rfl⟩ := H
     have hnb36 := NB675_667.out
     have hnc36 := NB667_675.out
     have hnb37 := NB675_668.out
     have hnc37 := NB668_675.out
     have hnb38 := NB675_669.out
     have hnc38 := NB669_675.out
     have hcz39_0 := zh BK675
     have hcz39_1 := zh1 BK675
     have hfz39_0 := zfr BK675 0
     have hfz39_1 := zfr BK675 1
     go_wp2_with (first | ((with_reducible refine gate_callee (f := 49) rfl ?_); refine goesL_ (some 30) rfl rfl Try.func49 (by kernel_rfl) rfl #[.agg #[.int .i64 t670, .slice Ao18 t671.length co18], .int .i64 4] rfl y8 ?_; (with_reducible refine (spec_l1Of.calls kj4 t670 _ _ t671 4 t677 t680 _ ?side1 ?side2 A31.out).mono ?_); (case side1 => exact y38 HO_676001.out); (case side2 => exact (Kd.N_reads' HO_676001.out).2.1); rintro e w40 ⟨v678, rfl, ho0, hb⟩; refine ⟨_, rfl, ?_⟩; have HO679 := Aside0.mk (Kd.N_lower (Kd.N_mono (ok' := fun k_ => (w.heap.size ≤ k_) ∧ some k_ ≠ (.slice Ao18 t671.length co18 : Value).ownBlock ∧ k_ ≠ gb667 ∧ k_ ≠ gb668 ∧ k_ ≠ gb669 ∧ k_ ≠ gb675) (Kd.R_N (Kd.R_bound ho0)) (fun k_ hk_ => ⟨(Nat.le_trans (below_size (y7 HB.out GE667.out GE668.out GE669.out GE675.out)) hk_.2.1), (Kd.fresh' (Kd.N_lt (y3 HO_676001.out)) k_ hk_.2.1), (Kd.freshB (g := gb667) (o := .cells #[.int .i64 a0_0, .slice A0_1 l0_1.length c0_1] 25 (0, 0)) (y0 BK667.out) k_ hk_.2.1), (Kd.freshB (g := gb668) (o := .cells #[.int .i64 a2_0, .slice A2_1 l2_1.length c2_1] 25 (0, 0)) (y0 BK668.out) k_ hk_.2.1), (Kd.freshB (g := gb669) (o := .cells #[.int .i64 0, .slice none 0 0] 25 (0, 0)) (y0 BK669.out) k_ hk_.2.1), (Kd.freshB (g := gb675) (o := .cells #[.int .i64 t670, .slice Ao18 t671.length co18] 25 (0, 0)) (y0 BK675.out) k_ hk_.2.1)⟩)) (below_size (y7 HB.out GE667.out GE668.out GE669.out GE675.out))); replace HO_676001 := Aside0.mk (Kd.N_elder' (y3 HO_676001.out) (Kd.R_base ho0) hb); replace BK667 := zbb BK667 hb; replace BK668 := zbb BK668 hb; replace BK669 := zbb BK669 hb; replace BK675 := zbb BK675 hb; replace HB := Aside0.mk (below_step (y7 HB.out GE667.out GE668.out GE669.out GE675.out) hb); (try clear hb); (try clear hb2); (try clear hk); (try clear hi); (try clear ho0)) | ((with_reducible refine gate_dst (N := 10) rfl ?_); refine zbx 10 #[.slice none 0 0] 50 ?_; intro gb681 hg w41 hbox hb; replace HO_676001 := Aside0.mk (Kd.N_below (Kd.N_elderB (y3 HO_676001.out) gb681 (Nat.le_of_eq hg.symm)) hb); replace HO679 := Aside0.mk (Kd.N_below (Kd.N_elderB (y3 HO679.out) gb681 (Nat.le_of_eq hg.symm)) hb); have BK681 := Aside0.mk hbox; have GW681 := Aside0.mk ((y27 hg HB.out GE667.out GE668.out GE669.out GE675.out : w.heap.size ≤ gb681)); have GE681 := Aside0.mk ((y27 hg HB.out GE667.out GE668.out GE669.out GE675.out : w.heap.size ≤ gb681)); replace HB := Aside0.mk (below_step (y7 HB.out GE667.out GE668.out GE669.out GE675.out) hb); have NB667_681 := zltn hg BK667; have NB681_667 := zgtn hg BK667; replace BK667 := zbb BK667 hb; have NB668_681 := zltn hg BK668; have NB681_668 := zgtn hg BK668; replace BK668 := zbb BK668 hb; have NB669_681 := zltn hg BK669; have NB681_669 := zgtn hg BK669; replace BK669 := zbb BK669 hb; have NB675_681 := zltn hg BK675; have NB681_675 := zgtn hg BK675; replace BK675 := zbb BK675 hb; clear hb hbox hg; obtain ⟨Ao42, co42, eo42⟩ := Kd.N_slice HO679.out; subst eo42; have hnb43 := NB681_667.out; have hnc43 := NB667_681.out; have hnb44 := NB681_668.out; have hnc44 := NB668_681.out; have hnb45 := NB681_669.out; have hnc45 := NB669_681.out; have hnb46 := NB681_675.out; have hnc46 := NB675_681.out; have hcz47_0 := zh BK681; have hfz47_0 := zfr BK681 0; have hnb48 := NB668_667.out; have hnc48 := NB667_668.out; have hnb49 := NB668_669.out; have hnc49 := NB669_668.out; have hcz50_0 := zh BK668; have hcz50_1 := zh1 BK668; have hfz50_0 := zfr BK668 0; have hfz50_1 := zfr BK668 1) | ((with_reducible refine gate_callee (f := 49) rfl ?_); refine goesL_ (some 35) rfl rfl Try.func49 (by kernel_rfl) rfl #[.agg #[.int .i64 a2_0, .slice A2_1 l2_1.length c2_1], .int .i64 4] rfl y8 ?_; (with_reducible refine (spec_l1Of.calls kj4 a2_0 _ _ l2_1 4 t682 t685 _ ?side1 ?side2 A32.out).mono ?_); (case side1 => exact y66 HR2_1.out HB.out GE667.out GE668.out GE669.out GE675.out GE681.out); (case side2 => exact HC2_1.out); rintro e w51 ⟨v683, rfl, ho0, hb⟩; refine ⟨_, rfl, ?_⟩; have HO684 := Aside0.mk (Kd.N_lower (Kd.N_mono (ok' := fun k_ => (w.heap.size ≤ k_) ∧ some k_ ≠ (.slice Ao18 t671.length co18 : Value).ownBlock ∧ some k_ ≠ (.slice Ao42 t677.length co42 : Value).ownBlock ∧ k_ ≠ gb667 ∧ k_ ≠ gb668 ∧ k_ ≠ gb669 ∧ k_ ≠ gb675 ∧ k_ ≠ gb681) (Kd.R_N (Kd.R_bound ho0)) (fun k_ hk_ => ⟨(Nat.le_trans (below_size (y14 HB.out GE667.out GE668.out GE669.out GE675.out GE681.out)) hk_.2.1), (Kd.fresh' (Kd.N_lt (by (with_reducible repeat (first | apply Kd.N_alloc | apply Kd.N_drewN | apply Kd.N_drew)); exact (Kd.N_mono (Kd.N_far (p := ⟨gb681, 0, none⟩) (Kd.N_mono HO_676001.out (fun k_ hk => (⟨hk, hk.2⟩ : _ ∧ k_ ≠ gb681))) (fun _ hk => hk.2) (.slice Ao42 t677.length co42)) (fun _ h_ => h_.1)))) k_ hk_.2.1), (Kd.fresh' (Kd.N_lt (by (with_reducible repeat (first | apply Kd.N_alloc | apply Kd.N_drewN | apply Kd.N_drew)); exact (Kd.N_mono (Kd.N_far (p := ⟨gb681, 0, none⟩) (Kd.N_mono HO679.out (fun k_ hk => (⟨hk, hk.2⟩ : _ ∧ k_ ≠ gb681))) (fun _ hk => hk.2) (.slice Ao42 t677.length co42)) (fun _ h_ => h_.1)))) k_ hk_.2.1), (Kd.freshB (g := gb667) (o := .cells #[.int .i64 a0_0, .slice A0_1 l0_1.length c0_1] 25 (0, 0)) (y13 NB667_681.out BK667.out) k_ hk_.2.1), (Kd.freshB (g := gb668) (o := .cells #[.int .i64 a2_0, .slice A2_1 l2_1.length c2_1] 25 (0, 0)) (y13 NB668_681.out BK668.out) k_ hk_.2.1), (Kd.freshB (g := gb669) (o := .cells #[.int .i64 0, .slice none 0 0] 25 (0, 0)) (y13 NB669_681.out BK669.out) k_ hk_.2.1), (Kd.freshB (g := gb675) (o := .cells #[.int .i64 t670, .slice Ao18 t671.length co18] 25 (0, 0)) (y13 NB675_681.out BK675.out) k_ hk_.2.1), (Kd.freshB (g := gb681) (o := .cells #[.slice Ao42 t677.length co42] 50 (0, 0)) (by (with_reducible repeat (first | refine blk_drewN ?_ _ | refine blk_drew ?_ | refine blk_alloc ?_ _)); apply blk_put (i := 0); (case h => exact y0 BK681.out); (case e => rfl)) k_ hk_.2.1)⟩)) (below_size (y14 HB.out GE667.out GE668.out GE669.out GE675.out GE681.out))); replace HO_676001 := Aside0.mk (Kd.N_elder' (by (with_reducible repeat (first | apply Kd.N_alloc | apply Kd.N_drewN | apply Kd.N_drew)); exact (Kd.N_mono (Kd.N_far (p := ⟨gb681, 0, none⟩) (Kd.N_mono HO_676001.out (fun k_ hk => (⟨hk, hk.2⟩ : _ ∧ k_ ≠ gb681))) (fun _ hk => hk.2) (.slice Ao42 t677.length co42)) (fun _ h_ => h_.1))) (Kd.R_base ho0) hb); replace HO679 := Aside0.mk (Kd.N_elder' (by (with_reducible repeat (first | apply Kd.N_alloc | apply Kd.N_drewN | apply Kd.N_drew)); exact (Kd.N_mono (Kd.N_far (p := ⟨gb681, 0, none⟩) (Kd.N_mono HO679.out (fun k_ hk => (⟨hk, hk.2⟩ : _ ∧ k_ ≠ gb681))) (fun _ hk => hk.2) (.slice Ao42 t677.length co42)) (fun _ h_ => h_.1))) (Kd.R_base ho0) hb); replace BK667 := zbf BK667 NB667_681 hb; replace BK668 := zbf BK668 NB668_681 hb; replace BK669 := zbf BK669 NB669_681 hb; replace BK675 := zbf BK675 NB675_681 hb; replace BK681 := Aside0.mk (blk_below (g := gb681) (o := .cells #[.slice Ao42 t677.length co42] 50 (0, 0)) (by (with_reducible repeat (first | refine blk_drewN ?_ _ | refine blk_drew ?_ | refine blk_alloc ?_ _)); apply blk_put (i := 0); (case h => exact y0 BK681.out); (case e => rfl)) hb); replace HB := Aside0.mk (below_step (y14 HB.out GE667.out GE668.out GE669.out GE675.out GE681.out) hb); (try clear hb); (try clear hb2); (try clear hk); (try clear hi); (try clear ho0)) | ((with_reducible refine gate_dst (N := 12) rfl ?_); refine zbx 12 #[.slice none 0 0] 50 ?_; intro gb686 hg w52 hbox hb; replace HO_676001 := Aside0.mk (Kd.N_below (Kd.N_elderB (y3 HO_676001.out) gb686 (Nat.le_of_eq hg.symm)) hb); replace HO679 := Aside0.mk (Kd.N_below (Kd.N_elderB (y3 HO679.out) gb686 (Nat.le_of_eq hg.symm)) hb); replace HO684 := Aside0.mk (Kd.N_below (Kd.N_elderB (y3 HO684.out) gb686 (Nat.le_of_eq hg.symm)) hb); have BK686 := Aside0.mk hbox; have GW686 := Aside0.mk ((y32 hg HB.out GE667.out GE668.out GE669.out GE675.out GE681.out : w.heap.size ≤ gb686)); have GE686 := Aside0.mk ((y32 hg HB.out GE667.out GE668.out GE669.out GE675.out GE681.out : w.heap.size ≤ gb686)); replace HB := Aside0.mk (below_step (y14 HB.out GE667.out GE668.out GE669.out GE675.out GE681.out) hb); have NB667_686 := zltn hg BK667; have NB686_667 := zgtn hg BK667; replace BK667 := zbb BK667 hb; have NB668_686 := zltn hg BK668; have NB686_668 := zgtn hg BK668; replace BK668 := zbb BK668 hb; have NB669_686 := zltn hg BK669; have NB686_669 := zgtn hg BK669; replace BK669 := zbb BK669 hb; have NB675_686 := zltn hg BK675; have NB686_675 := zgtn hg BK675; replace BK675 := zbb BK675 hb; have NB681_686 := zltn hg BK681; have NB686_681 := zgtn hg BK681; replace BK681 := zbb BK681 hb; clear hb hbox hg; obtain ⟨Ao53, co53, eo53⟩ := Kd.N_slice HO684.out; subst eo53; have hnb54 := NB686_667.out; have hnc54 := NB667_686.out; have hnb55 := NB686_668.out; have hnc55 := NB668_686.out; have hnb56 := NB686_669.out; have hnc56 := NB669_686.out; have hnb57 := NB686_675.out; have hnc57 := NB675_686.out; have hnb58 := NB686_681.out; have hnc58 := NB681_686.out; have hcz59_0 := zh BK686; have hfz59_0 := zfr BK686 0; have hcz60_0 := zh BK681; have hfz60_0 := zfr BK681 0) | ((with_reducible refine gate_callee (f := 50) rfl ?_); refine goesL_ (some 40) rfl rfl Try.func50 (by kernel_rfl) rfl #[.agg #[.slice Ao42 t677.length co42], .agg #[.slice Ao53 t682.length co53]] rfl y8 ?_; (with_reducible refine (spec_l1Same.calls kj4 _ _ t677 _ _ t682 true _ ?side1 ?side2 ?side3 ?side4 A33.out).mono ?_); (case side1 => refine (Kd.N_reads' (e := 50) (base := w.heap.size) (ok := fun k_ => (((((w.heap.size ≤ k_) ∧ (some k_ ≠ (.slice Ao18 t671.length co18 : Value).ownBlock ∧ (k_ ≠ gb667 ∧ (k_ ≠ gb668 ∧ (k_ ≠ gb669 ∧ k_ ≠ gb675))))) ∧ k_ ≠ gb681) ∧ some k_ ≠ (.slice Ao53 t682.length co53 : Value).ownBlock) ∧ k_ ≠ gb686)) (n := t677.length) (c := co42) ?_).2.2; exact (by (with_reducible repeat (first | apply Kd.N_alloc | apply Kd.N_drewN | apply Kd.N_drew)); exact (Kd.N_mono (Kd.N_far (p := ⟨gb686, 0, none⟩) (Kd.N_mono HO679.out (fun k_ hk => (⟨hk, hk.2⟩ : _ ∧ k_ ≠ gb686))) (fun _ hk => hk.2) (.slice Ao53 t682.length co53)) (fun _ h_ => h_.1)))); (case side2 => exact (Kd.N_reads' HO679.out).2.1); (case side3 => refine (Kd.N_reads' (e := 50) (base := w.heap.size) (ok := fun k_ => (((w.heap.size ≤ k_) ∧ (some k_ ≠ (.slice Ao18 t671.length co18 : Value).ownBlock ∧ (some k_ ≠ (.slice Ao42 t677.length co42 : Value).ownBlock ∧ (k_ ≠ gb667 ∧ (k_ ≠ gb668 ∧ (k_ ≠ gb669 ∧ (k_ ≠ gb675 ∧ k_ ≠ gb681))))))) ∧ k_ ≠ gb686)) (n := t682.length) (c := co53) ?_).2.2; exact (by (with_reducible repeat (first | apply Kd.N_alloc | apply Kd.N_drewN | apply Kd.N_drew)); exact (Kd.N_mono (Kd.N_far (p := ⟨gb686, 0, none⟩) (Kd.N_mono HO684.out (fun k_ hk => (⟨hk, hk.2⟩ : _ ∧ k_ ≠ gb686))) (fun _ hk => hk.2) (.slice Ao53 t682.length co53)) (fun _ h_ => h_.1)))); (case side4 => exact (Kd.N_reads' HO684.out).2.1); rintro e w61 ⟨rfl, hb⟩; refine ⟨_, rfl, ?_⟩; replace HO_676001 := Aside0.mk (Kd.N_below (by (with_reducible repeat (first | apply Kd.N_alloc | apply Kd.N_drewN | apply Kd.N_drew)); exact (Kd.N_mono (Kd.N_far (p := ⟨gb686, 0, none⟩) (Kd.N_mono HO_676001.out (fun k_ hk => (⟨hk, hk.2⟩ : _ ∧ k_ ≠ gb686))) (fun _ hk => hk.2) (.slice Ao53 t682.length co53)) (fun _ h_ => h_.1))) hb); replace HO679 := Aside0.mk (Kd.N_below (by (with_reducible repeat (first | apply Kd.N_alloc | apply Kd.N_drewN | apply Kd.N_drew)); exact (Kd.N_mono (Kd.N_far (p := ⟨gb686, 0, none⟩) (Kd.N_mono HO679.out (fun k_ hk => (⟨hk, hk.2⟩ : _ ∧ k_ ≠ gb686))) (fun _ hk => hk.2) (.slice Ao53 t682.length co53)) (fun _ h_ => h_.1))) hb); replace HO684 := Aside0.mk (Kd.N_below (by (with_reducible repeat (first | apply Kd.N_alloc | apply Kd.N_drewN | apply Kd.N_drew)); exact (Kd.N_mono (Kd.N_far (p := ⟨gb686, 0, none⟩) (Kd.N_mono HO684.out (fun k_ hk => (⟨hk, hk.2⟩ : _ ∧ k_ ≠ gb686))) (fun _ hk => hk.2) (.slice Ao53 t682.length co53)) (fun _ h_ => h_.1))) hb); replace BK667 := zbf BK667 NB667_686 hb; replace BK668 := zbf BK668 NB668_686 hb; replace BK669 := zbf BK669 NB669_686 hb; replace BK675 := zbf BK675 NB675_686 hb; replace BK681 := zbf BK681 NB681_686 hb; replace BK686 := Aside0.mk (blk_below (g := gb686) (o := .cells #[.slice Ao53 t682.length co53] 50 (0, 0)) (by (with_reducible repeat (first | refine blk_drewN ?_ _ | refine blk_drew ?_ | refine blk_alloc ?_ _)); apply blk_put (i := 0); (case h => exact y0 BK686.out); (case e => rfl)) hb); replace HB := Aside0.mk (below_step (y20 HB.out GE667.out GE668.out GE669.out GE675.out GE681.out GE686.out) hb); (try clear hb); (try clear hb2); (try clear hk); (try clear hi); have hnb62 := NB667_669.out; have hnc62 := NB669_667.out; have hcz63_0 := zh BK667; have hcz63_1 := zh1 BK667; have hfz63_0 := zfr BK667 0; have hfz63_1 := zfr BK667 1; have hcz64_0 := zh BK668; have hcz64_1 := zh1 BK668; have hfz64_0 := zfr BK668 0; have hfz64_1 := zfr BK668 1) | ((with_reducible refine gate_callee (f := 51) rfl ?_); refine goesL_ (some 46) rfl rfl Try.func51 (by kernel_rfl) rfl #[.agg #[.int .i64 a0_0, .slice A0_1 l0_1.length c0_1], .slice A1 l1.length c1, .agg #[.int .i64 a2_0, .slice A2_1 l2_1.length c2_1]] rfl y8 ?_; (with_reducible refine (spec_l1Put.calls kj4 a0_0 _ _ l0_1 _ _ l1 a2_0 _ _ l2_1 t688 t689 _ ?side1 ?side2 ?side3 ?side4 ?side5 ?side6 A35.out).mono ?_); (case side1 => exact y15 HR0_1.out HB.out); (case side2 => exact HC0_1.out); (case side3 => exact y15 HR1.out HB.out); (case side4 => exact HC1.out); (case side5 => exact y15 HR2_1.out HB.out); (case side6 => exact HC2_1.out); rintro e w65 ⟨v690, rfl, ho0, hb⟩; refine ⟨_, rfl, ?_⟩; have HO691 := Aside0.mk (Kd.N_lower (Kd.N_mono (ok' := fun k_ => (w.heap.size ≤ k_) ∧ some k_ ≠ (.slice Ao18 t671.length co18 : Value).ownBlock ∧ some k_ ≠ (.slice Ao42 t677.length co42 : Value).ownBlock ∧ some k_ ≠ (.slice Ao53 t682.length co53 : Value).ownBlock ∧ k_ ≠ gb667 ∧ k_ ≠ gb668 ∧ k_ ≠ gb669 ∧ k_ ≠ gb675 ∧ k_ ≠ gb681 ∧ k_ ≠ gb686) ho0 (fun k_ hk_ => ⟨(Nat.le_trans (below_size (y20 HB.out GE667.out GE668.out GE669.out GE675.out GE681.out GE686.out)) hk_), (Kd.fresh' (Kd.N_lt (y3 HO_676001.out)) k_ hk_), (Kd.fresh' (Kd.N_lt (y3 HO679.out)) k_ hk_), (Kd.fresh' (Kd.N_lt (y3 HO684.out)) k_ hk_), (Kd.freshB (g := gb667) (o := .cells #[.int .i64 a0_0, .slice A0_1 l0_1.length c0_1] 25 (0, 0)) (y0 BK667.out) k_ hk_), (Kd.freshB (g := gb668) (o := .cells #[.int .i64 a2_0, .slice A2_1 l2_1.length c2_1] 25 (0, 0)) (y0 BK668.out) k_ hk_), (Kd.freshB (g := gb669) (o := .cells #[.int .i64 0, .slice none 0 0] 25 (0, 0)) (y0 BK669.out) k_ hk_), (Kd.freshB (g := gb675) (o := .cells #[.int .i64 t670, .slice Ao18 t671.length co18] 25 (0, 0)) (y0 BK675.out) k_ hk_), (Kd.freshB (g := gb681) (o := .cells #[.slice Ao42 t677.length co42] 50 (0, 0)) (y0 BK681.out) k_ hk_), (Kd.freshB (g := gb686) (o := .cells #[.slice Ao53 t682.length co53] 50 (0, 0)) (y0 BK686.out) k_ hk_)⟩)) (below_size (y20 HB.out GE667.out GE668.out GE669.out GE675.out GE681.out GE686.out))); replace HO_676001 := Aside0.mk (Kd.N_elder' (y3 HO_676001.out) (Kd.N_base ho0) hb); replace HO679 := Aside0.mk (Kd.N_elder' (y3 HO679.out) (Kd.N_base ho0) hb); replace HO684 := Aside0.mk (Kd.N_elder' (y3 HO684.out) (Kd.N_base ho0) hb); replace BK667 := zbb BK667 hb; replace BK668 := zbb BK668 hb; replace BK669 := zbb BK669 hb; replace BK675 := zbb BK675 hb; replace BK681 := zbb BK681 hb; replace BK686 := zbb BK686 hb; replace HB := Aside0.mk (below_step (y20 HB.out GE667.out GE668.out GE669.out GE675.out GE681.out GE686.out) hb); (try clear hb); (try clear hb2); (try clear hk); (try clear hi); (try clear ho0); have hcz66_0 := zh BK669; have hcz66_1 := zh1 BK669; have hfz66_0 := zfr BK669 0; have hfz66_1 := zfr BK669 1; obtain ⟨Ao67, co67, eo67⟩ := Kd.N_slice HO691.out; subst eo67))
     refine bodyPost_ret (results_ct rfl _ _ gb669 25 #[.int .i64 t688, .slice Ao67 t689.length co67] (0, 0) _ rfl (by (with_reducible repeat (first | refine blk_drewN ?_ _ | refine blk_drew ?_ | refine blk_alloc ?_ _)); refine blk_put (cs := #[.int .i64 t688, .slice none 0 0]) ?_ 1 _ rfl; (with_reducible repeat (first | refine blk_drewN ?_ _ | refine blk_drew ?_ | refine blk_alloc ?_ _)); apply blk_put (i := 0); (case h => exact y0 BK669.out); (case e => rfl)) Try.underlying25 rfl (by kernel_rfl)) rfl ?_
     exact ⟨_, y19, (by (with_reducible repeat (first | apply Kd.N_alloc | apply Kd.N_drewN | apply Kd.N_drew)); exact Kd.N_mono (Kd.N_far (p := ⟨gb669, 1, none⟩) (Kd.N_far (p := ⟨gb669, 0, none⟩) (Kd.N_mono HO691.out (fun k_ hk => (⟨hk, hk.2.2.2.2.2.2.1⟩ : _ ∧ k_ ≠ gb669))) (fun _ hk => hk.2) (.int .i64 t688)) (fun _ hk => hk.2) (.slice Ao67 t689.length co67)) (fun _ hk => hk.1.1)), (y20 HB.out GE667.out GE668.out GE669.out GE675.out GE681.out GE686.out)⟩
    ·replace c34 := Bool.eq_false_iff.mpr c34
     subst c34
     rw [if_neg (show ¬ (false = true) by decide)] at H
     simp only [Option.some.injEq, Prod.mk.injEq] at H
     obtain ⟨rfl, rfl, rfl⟩ := H
     have hnb68 := NB675_667.out
     have hnc68 := NB667_675.out
     have hnb69 := NB675_668.out
     have hnc69 := NB668_675.out
     have hnb70 := NB675_669.out
     have hnc70 := NB669_675.out
     have hcz71_0 := zh BK675
     have hcz71_1 := zh1 BK675
     have hfz71_0 := zfr BK675 0
     have hfz71_1 := zfr BK675 1
     go_wp2_with (first | ((with_reducible refine gate_callee (f := 49) rfl ?_); refine goesL_ (some 30) rfl rfl Try.func49 (by kernel_rfl) rfl #[.agg #[.int .i64 t670, .slice Ao18 t671.length co18], .int .i64 4] rfl y8 ?_; (with_reducible refine (spec_l1Of.calls kj4 t670 _ _ t671 4 t677 t680 _ ?side1 ?side2 A31.out).mono ?_); (case side1 => exact y38 HO_676001.out); (case side2 => exact (Kd.N_reads' HO_676001.out).2.1); rintro e w72 ⟨v678, rfl, ho0, hb⟩; refine ⟨_, rfl, ?_⟩; have HO679 := Aside0.mk (Kd.N_lower (Kd.N_mono (ok' := fun k_ => (w.heap.size ≤ k_) ∧ some k_ ≠ (.slice Ao18 t671.length co18 : Value).ownBlock ∧ k_ ≠ gb667 ∧ k_ ≠ gb668 ∧ k_ ≠ gb669 ∧ k_ ≠ gb675) (Kd.R_N (Kd.R_bound ho0)) (fun k_ hk_ => ⟨(Nat.le_trans (below_size (y7 HB.out GE667.out GE668.out GE669.out GE675.out)) hk_.2.1), (Kd.fresh' (Kd.N_lt (y3 HO_676001.out)) k_ hk_.2.1), (Kd.freshB (g := gb667) (o := .cells #[.int .i64 a0_0, .slice A0_1 l0_1.length c0_1] 25 (0, 0)) (y0 BK667.out) k_ hk_.2.1), (Kd.freshB (g := gb668) (o := .cells #[.int .i64 a2_0, .slice A2_1 l2_1.length c2_1] 25 (0, 0)) (y0 BK668.out) k_ hk_.2.1), (Kd.freshB (g := gb669) (o := .cells #[.int .i64 0, .slice none 0 0] 25 (0, 0)) (y0 BK669.out) k_ hk_.2.1), (Kd.freshB (g := gb675) (o := .cells #[.int .i64 t670, .slice Ao18 t671.length co18] 25 (0, 0)) (y0 BK675.out) k_ hk_.2.1)⟩)) (below_size (y7 HB.out GE667.out GE668.out GE669.out GE675.out))); replace HO_676001 := Aside0.mk (Kd.N_elder' (y3 HO_676001.out) (Kd.R_base ho0) hb); replace BK667 := zbb BK667 hb; replace BK668 := zbb BK668 hb; replace BK669 := zbb BK669 hb; replace BK675 := zbb BK675 hb; replace HB := Aside0.mk (below_step (y7 HB.out GE667.out GE668.out GE669.out GE675.out) hb); (try clear hb); (try clear hb2); (try clear hk); (try clear hi); (try clear ho0)) | ((with_reducible refine gate_dst (N := 10) rfl ?_); refine zbx 10 #[.slice none 0 0] 50 ?_; intro gb681 hg w73 hbox hb; replace HO_676001 := Aside0.mk (Kd.N_below (Kd.N_elderB (y3 HO_676001.out) gb681 (Nat.le_of_eq hg.symm)) hb); replace HO679 := Aside0.mk (Kd.N_below (Kd.N_elderB (y3 HO679.out) gb681 (Nat.le_of_eq hg.symm)) hb); have BK681 := Aside0.mk hbox; have GW681 := Aside0.mk ((y27 hg HB.out GE667.out GE668.out GE669.out GE675.out : w.heap.size ≤ gb681)); have GE681 := Aside0.mk ((y27 hg HB.out GE667.out GE668.out GE669.out GE675.out : w.heap.size ≤ gb681)); replace HB := Aside0.mk (below_step (y7 HB.out GE667.out GE668.out GE669.out GE675.out) hb); have NB667_681 := zltn hg BK667; have NB681_667 := zgtn hg BK667; replace BK667 := zbb BK667 hb; have NB668_681 := zltn hg BK668; have NB681_668 := zgtn hg BK668; replace BK668 := zbb BK668 hb; have NB669_681 := zltn hg BK669; have NB681_669 := zgtn hg BK669; replace BK669 := zbb BK669 hb; have NB675_681 := zltn hg BK675; have NB681_675 := zgtn hg BK675; replace BK675 := zbb BK675 hb; clear hb hbox hg; obtain ⟨Ao74, co74, eo74⟩ := Kd.N_slice HO679.out; subst eo74; have hnb75 := NB681_667.out; have hnc75 := NB667_681.out; have hnb76 := NB681_668.out; have hnc76 := NB668_681.out; have hnb77 := NB681_669.out; have hnc77 := NB669_681.out; have hnb78 := NB681_675.out; have hnc78 := NB675_681.out; have hcz79_0 := zh BK681; have hfz79_0 := zfr BK681 0; have hnb80 := NB668_667.out; have hnc80 := NB667_668.out; have hnb81 := NB668_669.out; have hnc81 := NB669_668.out; have hcz82_0 := zh BK668; have hcz82_1 := zh1 BK668; have hfz82_0 := zfr BK668 0; have hfz82_1 := zfr BK668 1) | ((with_reducible refine gate_callee (f := 49) rfl ?_); refine goesL_ (some 35) rfl rfl Try.func49 (by kernel_rfl) rfl #[.agg #[.int .i64 a2_0, .slice A2_1 l2_1.length c2_1], .int .i64 4] rfl y8 ?_; (with_reducible refine (spec_l1Of.calls kj4 a2_0 _ _ l2_1 4 t682 t685 _ ?side1 ?side2 A32.out).mono ?_); (case side1 => exact y66 HR2_1.out HB.out GE667.out GE668.out GE669.out GE675.out GE681.out); (case side2 => exact HC2_1.out); rintro e w83 ⟨v683, rfl, ho0, hb⟩; refine ⟨_, rfl, ?_⟩; have HO684 := Aside0.mk (Kd.N_lower (Kd.N_mono (ok' := fun k_ => (w.heap.size ≤ k_) ∧ some k_ ≠ (.slice Ao18 t671.length co18 : Value).ownBlock ∧ some k_ ≠ (.slice Ao74 t677.length co74 : Value).ownBlock ∧ k_ ≠ gb667 ∧ k_ ≠ gb668 ∧ k_ ≠ gb669 ∧ k_ ≠ gb675 ∧ k_ ≠ gb681) (Kd.R_N (Kd.R_bound ho0)) (fun k_ hk_ => ⟨(Nat.le_trans (below_size (y14 HB.out GE667.out GE668.out GE669.out GE675.out GE681.out)) hk_.2.1), (Kd.fresh' (Kd.N_lt (by (with_reducible repeat (first | apply Kd.N_alloc | apply Kd.N_drewN | apply Kd.N_drew)); exact (Kd.N_mono (Kd.N_far (p := ⟨gb681, 0, none⟩) (Kd.N_mono HO_676001.out (fun k_ hk => (⟨hk, hk.2⟩ : _ ∧ k_ ≠ gb681))) (fun _ hk => hk.2) (.slice Ao74 t677.length co74)) (fun _ h_ => h_.1)))) k_ hk_.2.1), (Kd.fresh' (Kd.N_lt (by (with_reducible repeat (first | apply Kd.N_alloc | apply Kd.N_drewN | apply Kd.N_drew)); exact (Kd.N_mono (Kd.N_far (p := ⟨gb681, 0, none⟩) (Kd.N_mono HO679.out (fun k_ hk => (⟨hk, hk.2⟩ : _ ∧ k_ ≠ gb681))) (fun _ hk => hk.2) (.slice Ao74 t677.length co74)) (fun _ h_ => h_.1)))) k_ hk_.2.1), (Kd.freshB (g := gb667) (o := .cells #[.int .i64 a0_0, .slice A0_1 l0_1.length c0_1] 25 (0, 0)) (y13 NB667_681.out BK667.out) k_ hk_.2.1), (Kd.freshB (g := gb668) (o := .cells #[.int .i64 a2_0, .slice A2_1 l2_1.length c2_1] 25 (0, 0)) (y13 NB668_681.out BK668.out) k_ hk_.2.1), (Kd.freshB (g := gb669) (o := .cells #[.int .i64 0, .slice none 0 0] 25 (0, 0)) (y13 NB669_681.out BK669.out) k_ hk_.2.1), (Kd.freshB (g := gb675) (o := .cells #[.int .i64 t670, .slice Ao18 t671.length co18] 25 (0, 0)) (y13 NB675_681.out BK675.out) k_ hk_.2.1), (Kd.freshB (g := gb681) (o := .cells #[.slice Ao74 t677.length co74] 50 (0, 0)) (by (with_reducible repeat (first | refine blk_drewN ?_ _ | refine blk_drew ?_ | refine blk_alloc ?_ _)); apply blk_put (i := 0); (case h => exact y0 BK681.out); (case e => rfl)) k_ hk_.2.1)⟩)) (below_size (y14 HB.out GE667.out GE668.out GE669.out GE675.out GE681.out))); replace HO_676001 := Aside0.mk (Kd.N_elder' (by (with_reducible repeat (first | apply Kd.N_alloc | apply Kd.N_drewN | apply Kd.N_drew)); exact (Kd.N_mono (Kd.N_far (p := ⟨gb681, 0, none⟩) (Kd.N_mono HO_676001.out (fun k_ hk => (⟨hk, hk.2⟩ : _ ∧ k_ ≠ gb681))) (fun _ hk => hk.2) (.slice Ao74 t677.length co74)) (fun _ h_ => h_.1))) (Kd.R_base ho0) hb); replace HO679 := Aside0.mk (Kd.N_elder' (by (with_reducible repeat (first | apply Kd.N_alloc | apply Kd.N_drewN | apply Kd.N_drew)); exact (Kd.N_mono (Kd.N_far (p := ⟨gb681, 0, none⟩) (Kd.N_mono HO679.out (fun k_ hk => (⟨hk, hk.2⟩ : _ ∧ k_ ≠ gb681))) (fun _ hk => hk.2) (.slice Ao74 t677.length co74)) (fun _ h_ => h_.1))) (Kd.R_base ho0) hb); replace BK667 := zbf BK667 NB667_681 hb; replace BK668 := zbf BK668 NB668_681 hb; replace BK669 := zbf BK669 NB669_681 hb; replace BK675 := zbf BK675 NB675_681 hb; replace BK681 := Aside0.mk (blk_below (g := gb681) (o := .cells #[.slice Ao74 t677.length co74] 50 (0, 0)) (by (with_reducible repeat (first | refine blk_drewN ?_ _ | refine blk_drew ?_ | refine blk_alloc ?_ _)); apply blk_put (i := 0); (case h => exact y0 BK681.out); (case e => rfl)) hb); replace HB := Aside0.mk (below_step (y14 HB.out GE667.out GE668.out GE669.out GE675.out GE681.out) hb); (try clear hb); (try clear hb2); (try clear hk); (try clear hi); (try clear ho0)) | ((with_reducible refine gate_dst (N := 12) rfl ?_); refine zbx 12 #[.slice none 0 0] 50 ?_; intro gb686 hg w84 hbox hb; replace HO_676001 := Aside0.mk (Kd.N_below (Kd.N_elderB (y3 HO_676001.out) gb686 (Nat.le_of_eq hg.symm)) hb); replace HO679 := Aside0.mk (Kd.N_below (Kd.N_elderB (y3 HO679.out) gb686 (Nat.le_of_eq hg.symm)) hb); replace HO684 := Aside0.mk (Kd.N_below (Kd.N_elderB (y3 HO684.out) gb686 (Nat.le_of_eq hg.symm)) hb); have BK686 := Aside0.mk hbox; have GW686 := Aside0.mk ((y32 hg HB.out GE667.out GE668.out GE669.out GE675.out GE681.out : w.heap.size ≤ gb686)); have GE686 := Aside0.mk ((y32 hg HB.out GE667.out GE668.out GE669.out GE675.out GE681.out : w.heap.size ≤ gb686)); replace HB := Aside0.mk (below_step (y14 HB.out GE667.out GE668.out GE669.out GE675.out GE681.out) hb); have NB667_686 := zltn hg BK667; have NB686_667 := zgtn hg BK667; replace BK667 := zbb BK667 hb; have NB668_686 := zltn hg BK668; have NB686_668 := zgtn hg BK668; replace BK668 := zbb BK668 hb; have NB669_686 := zltn hg BK669; have NB686_669 := zgtn hg BK669; replace BK669 := zbb BK669 hb; have NB675_686 := zltn hg BK675; have NB686_675 := zgtn hg BK675; replace BK675 := zbb BK675 hb; have NB681_686 := zltn hg BK681; have NB686_681 := zgtn hg BK681; replace BK681 := zbb BK681 hb; clear hb hbox hg; obtain ⟨Ao85, co85, eo85⟩ := Kd.N_slice HO684.out; subst eo85; have hnb86 := NB686_667.out; have hnc86 := NB667_686.out; have hnb87 := NB686_668.out; have hnc87 := NB668_686.out; have hnb88 := NB686_669.out; have hnc88 := NB669_686.out; have hnb89 := NB686_675.out; have hnc89 := NB675_686.out; have hnb90 := NB686_681.out; have hnc90 := NB681_686.out; have hcz91_0 := zh BK686; have hfz91_0 := zfr BK686 0; have hcz92_0 := zh BK681; have hfz92_0 := zfr BK681 0) | ((with_reducible refine gate_callee (f := 50) rfl ?_); refine goesL_ (some 40) rfl rfl Try.func50 (by kernel_rfl) rfl #[.agg #[.slice Ao74 t677.length co74], .agg #[.slice Ao85 t682.length co85]] rfl y8 ?_; (with_reducible refine (spec_l1Same.calls kj4 _ _ t677 _ _ t682 false _ ?side1 ?side2 ?side3 ?side4 A33.out).mono ?_); (case side1 => refine (Kd.N_reads' (e := 50) (base := w.heap.size) (ok := fun k_ => (((((w.heap.size ≤ k_) ∧ (some k_ ≠ (.slice Ao18 t671.length co18 : Value).ownBlock ∧ (k_ ≠ gb667 ∧ (k_ ≠ gb668 ∧ (k_ ≠ gb669 ∧ k_ ≠ gb675))))) ∧ k_ ≠ gb681) ∧ some k_ ≠ (.slice Ao85 t682.length co85 : Value).ownBlock) ∧ k_ ≠ gb686)) (n := t677.length) (c := co74) ?_).2.2; exact (by (with_reducible repeat (first | apply Kd.N_alloc | apply Kd.N_drewN | apply Kd.N_drew)); exact (Kd.N_mono (Kd.N_far (p := ⟨gb686, 0, none⟩) (Kd.N_mono HO679.out (fun k_ hk => (⟨hk, hk.2⟩ : _ ∧ k_ ≠ gb686))) (fun _ hk => hk.2) (.slice Ao85 t682.length co85)) (fun _ h_ => h_.1)))); (case side2 => exact (Kd.N_reads' HO679.out).2.1); (case side3 => refine (Kd.N_reads' (e := 50) (base := w.heap.size) (ok := fun k_ => (((w.heap.size ≤ k_) ∧ (some k_ ≠ (.slice Ao18 t671.length co18 : Value).ownBlock ∧ (some k_ ≠ (.slice Ao74 t677.length co74 : Value).ownBlock ∧ (k_ ≠ gb667 ∧ (k_ ≠ gb668 ∧ (k_ ≠ gb669 ∧ (k_ ≠ gb675 ∧ k_ ≠ gb681))))))) ∧ k_ ≠ gb686)) (n := t682.length) (c := co85) ?_).2.2; exact (by (with_reducible repeat (first | apply Kd.N_alloc | apply Kd.N_drewN | apply Kd.N_drew)); exact (Kd.N_mono (Kd.N_far (p := ⟨gb686, 0, none⟩) (Kd.N_mono HO684.out (fun k_ hk => (⟨hk, hk.2⟩ : _ ∧ k_ ≠ gb686))) (fun _ hk => hk.2) (.slice Ao85 t682.length co85)) (fun _ h_ => h_.1)))); (case side4 => exact (Kd.N_reads' HO684.out).2.1); rintro e w93 ⟨rfl, hb⟩; refine ⟨_, rfl, ?_⟩; replace HO_676001 := Aside0.mk (Kd.N_below (by (with_reducible repeat (first | apply Kd.N_alloc | apply Kd.N_drewN | apply Kd.N_drew)); exact (Kd.N_mono (Kd.N_far (p := ⟨gb686, 0, none⟩) (Kd.N_mono HO_676001.out (fun k_ hk => (⟨hk, hk.2⟩ : _ ∧ k_ ≠ gb686))) (fun _ hk => hk.2) (.slice Ao85 t682.length co85)) (fun _ h_ => h_.1))) hb); replace HO679 := Aside0.mk (Kd.N_below (by (with_reducible repeat (first | apply Kd.N_alloc | apply Kd.N_drewN | apply Kd.N_drew)); exact (Kd.N_mono (Kd.N_far (p := ⟨gb686, 0, none⟩) (Kd.N_mono HO679.out (fun k_ hk => (⟨hk, hk.2⟩ : _ ∧ k_ ≠ gb686))) (fun _ hk => hk.2) (.slice Ao85 t682.length co85)) (fun _ h_ => h_.1))) hb); replace HO684 := Aside0.mk (Kd.N_below (by (with_reducible repeat (first | apply Kd.N_alloc | apply Kd.N_drewN | apply Kd.N_drew)); exact (Kd.N_mono (Kd.N_far (p := ⟨gb686, 0, none⟩) (Kd.N_mono HO684.out (fun k_ hk => (⟨hk, hk.2⟩ : _ ∧ k_ ≠ gb686))) (fun _ hk => hk.2) (.slice Ao85 t682.length co85)) (fun _ h_ => h_.1))) hb); replace BK667 := zbf BK667 NB667_686 hb; replace BK668 := zbf BK668 NB668_686 hb; replace BK669 := zbf BK669 NB669_686 hb; replace BK675 := zbf BK675 NB675_686 hb; replace BK681 := zbf BK681 NB681_686 hb; replace BK686 := Aside0.mk (blk_below (g := gb686) (o := .cells #[.slice Ao85 t682.length co85] 50 (0, 0)) (by (with_reducible repeat (first | refine blk_drewN ?_ _ | refine blk_drew ?_ | refine blk_alloc ?_ _)); apply blk_put (i := 0); (case h => exact y0 BK686.out); (case e => rfl)) hb); replace HB := Aside0.mk (below_step (y20 HB.out GE667.out GE668.out GE669.out GE675.out GE681.out GE686.out) hb); (try clear hb); (try clear hb2); (try clear hk); (try clear hi); have hnb94 := NB669_667.out; have hnc94 := NB667_669.out; have hcz95_0 := zh BK669; have hcz95_1 := zh1 BK669; have hfz95_0 := zfr BK669 0; have hfz95_1 := zfr BK669 1))
     refine bodyPost_ret (results_ct rfl _ _ gb669 25 #[.int .i64 0, .slice none 0 0] (0, 0) _ rfl (by (with_reducible repeat (first | refine blk_drewN ?_ _ | refine blk_drew ?_ | refine blk_alloc ?_ _)); refine blk_put (cs := #[.int .i64 0, .slice none 0 0]) ?_ 1 _ rfl; (with_reducible repeat (first | refine blk_drewN ?_ _ | refine blk_drew ?_ | refine blk_alloc ?_ _)); apply blk_put (i := 0); (case h => exact y0 BK669.out); (case e => rfl)) Try.underlying25 rfl (by kernel_rfl)) rfl ?_
     exact ⟨_, y19, y37, (y20 HB.out GE667.out GE668.out GE669.out GE675.out GE681.out GE686.out)⟩
end Go.Proofs.Ythfflieeifakdaa.PA
end
section
set_option linter.unusedVariables false
set_option linter.unusedSimpArgs false
namespace Go.Proofs.Ythfflieeifakdaa.Puts
open Go.RowKit Go.Proofs.Ythfflieeifakdaa.PA Go.Proofs.YthfflieeifakdaaW.PrintWords Go.Proofs.YthfflieeifakdaaW.PrintLast Go.Proofs.Ythfflieeifakdaa.Draw Go.Proofs.Ythfflieeifakdaa.Types Go.Proofs.Ythfflieeifakdaa.Paths Go.Proofs.Ythfflieeifakdaa.Vals Go.Proofs.Ythfflieeifakdaa.Ats
def wp : List Int → Int → Vl → Int → Vl → Int × Vl
  | [], _, _, y, m => (y, m)
  | i :: r, _, [a, b], y, m => if i = 0 then (0, [⟨(wp r a.f0 a.f1 y m).1, (wp r a.f0 a.f1 y m).2⟩, b]) else (0, [a, ⟨(wp r b.f0 b.f1 y m).1, (wp r b.f0 b.f1 y m).2⟩])
  | _ :: _, x, l, _, _ => (x, l)
theorem wp_nil (x : Int) (l : Vl) (y : Int) (m : Vl) : wp [] x l y m = (y, m) := by cases l <;> rfl
theorem wp_two (i : Int) (r : List Int) (x : Int) (a b : S25) (y : Int) (m : Vl) : wp (i :: r) x [a, b] y m = if i = 0 then (0, [⟨(wp r a.f0 a.f1 y m).1, (wp r a.f0 a.f1 y m).2⟩, b]) else (0, [a, ⟨(wp r b.f0 b.f1 y m).1, (wp r b.f0 b.f1 y m).2⟩]) := rfl
theorem vt_le (n m : Nat) (h : n ≤ m) (x : Int) (l : Vl) (t : Ty) (e : vt n x l = some t) : vt m x l = some t := by
  induction m with
  | zero => obtain rfl : n = 0 := by omega
            exact e
  | succ m ih =>
    by_cases g : n = m + 1
    · subst g; exact e
    · exact vt_succ _ _ _ _ (ih (by omega))
theorem vt_same {n m : Nat} {x : Int} {l : Vl} {t u : Ty} (h : vt n x l = some t) (g : vt m x l = some u) : t = u := by
  have h1 := vt_le n (max n m) (Nat.le_max_left _ _) x l t h
  have h2 := vt_le m (max n m) (Nat.le_max_right _ _) x l u g
  rw [h1] at h2
  cases h2; rfl
theorem vt_low : ∀ (m n : Nat) (x : Int) (l : Vl) (t : Ty), vt n x l = some t → dp m t = true → vt m x l = some t := by
  intro m
  induction m with
  | zero => intro n x l t _ h; simp [dp] at h
  | succ m ih =>
    intro n x l t h d
    cases n with
    | zero => cases h
    | succ n =>
      rcases vt_cases h with ⟨rfl, rfl, h0, h1⟩ | ⟨a, b, s, u, rfl, rfl, rfl, h1, h2⟩
      · rw [vt_nil, if_pos ⟨h0, h1⟩]
      · rw [dp_two, Bool.and_eq_true] at d
        rw [vt_two, if_pos rfl, ih _ _ _ _ h1 d.1, ih _ _ _ _ h2 d.2]; rfl
theorem wp_all : ∀ (p : List Int) (n : Nat) (x : Int) (l : Vl) (t : Ty) (q : Int × Vl) (y : Int) (m : Vl) (s : Ty) (N : Nat), vt n x l = some t → pv p x l = some q → vt N q.1 q.2 = some s → vt N y m = some s →
    vt n (wp p x l y m).1 (wp p x l y m).2 = some t ∧ pv p (wp p x l y m).1 (wp p x l y m).2 = some (y, m) ∧ wp p (wp p x l y m).1 (wp p x l y m).2 q.1 q.2 = (x, l) ∧ wp p x l q.1 q.2 = (x, l) := by
  intro p
  induction p with
  | nil =>
    intro n x l t q y m s N h e hq hy
    rw [pv_nil] at e
    cases e
    have := vt_same h hq
    subst this
    simp only [wp_nil, pv_nil]
    exact ⟨vt_low _ _ _ _ _ hy (vt_dp _ _ _ _ h), by trivial, by trivial, by trivial⟩
  | cons i r ih =>
    intro n x l t q y m s N h e hq hy
    cases n with
    | zero => cases h
    | succ n =>
      rcases vt_cases h with ⟨rfl, rfl, _, _⟩ | ⟨a, b, s1, u1, rfl, rfl, rfl, h1, h2⟩
      · cases e
      · rw [pv_two] at e
        rw [wp_two, wp_two]
        by_cases h0 : i = 0
        · rw [if_pos h0] at e
          rw [if_pos h0, if_pos h0]
          obtain ⟨g1, g2, g3, g4⟩ := ih n a.f0 a.f1 s1 q y m s N h1 e hq hy
          refine ⟨?_, ?_, ?_, ?_⟩
          · rw [vt_two, if_pos rfl, g1, h2]; rfl
          · rw [pv_two, if_pos h0]; exact g2
          · rw [wp_two, if_pos h0]; simp only [g3]; cases a; rfl
          · simp only [g4]; cases a; rfl
        · rw [if_neg h0] at e
          by_cases h3 : i = 1
          · rw [if_pos h3] at e
            rw [if_neg h0, if_neg h0]
            obtain ⟨g1, g2, g3, g4⟩ := ih n b.f0 b.f1 u1 q y m s N h2 e hq hy
            refine ⟨?_, ?_, ?_, ?_⟩
            · rw [vt_two, if_pos rfl, g1, h1]; rfl
            · rw [pv_two, if_neg h0, if_pos h3]; exact g2
            · rw [wp_two, if_neg h0]; simp only [g3]; cases b; rfl
            · simp only [g4]; cases b; rfl
          · rw [if_neg h3] at e; cases e
theorem pv_len : ∀ (p : List Int) (n : Nat) (x : Int) (l : Vl) (t : Ty) (q : Int × Vl), vt n x l = some t → pv p x l = some q → p.length < n := by
  intro p
  induction p with
  | nil => intro n x l t q h _; cases n with
    | zero => cases h
    | succ n => simp
  | cons i r ih =>
    intro n x l t q h e
    cases n with
    | zero => cases h
    | succ n =>
      rcases vt_cases h with ⟨rfl, rfl, _, _⟩ | ⟨a, b, s1, u1, rfl, rfl, rfl, h1, h2⟩
      · cases e
      · rw [pv_two] at e
        split at e
        · have := ih n _ _ _ _ h1 e; simp; omega
        · split at e
          · have := ih n _ _ _ _ h2 e; simp; omega
          · cases e
theorem valWith_ev : ∀ (p : List Int) (n : Nat) (x : Int) (l : Vl) (t : Ty) (q : Int × Vl) (y : Int) (m : Vl) (u : Ty) (k : Nat), vt n x l = some t → pv p x l = some q → vt 4 y m = some u → 5 * p.length + n + 8 ≤ k →
    impl_valWith.f k x l p y m = some (wp p x l y m) := by
  intro p
  induction p with
  | nil =>
    intro n x l t q y m u k h e hy hk
    obtain ⟨k, rfl⟩ : ∃ m, k = m + 1 := ⟨k - 1, by omega⟩
    simp only [impl_valWith.f]
    rw [if_pos (by first | (simp; done) | (simp; omega)), valCopy_ev 4 y m u k hy (by omega), wp_nil]; rfl
  | cons i r ih =>
    intro n x l t q y m u k h e hy hk
    simp only [List.length_cons] at hk
    obtain ⟨k, rfl⟩ : ∃ m, k = m + 4 := ⟨k - 4, by omega⟩
    simp only [impl_valWith.f]
    cases n with
    | zero => cases h
    | succ n =>
      rcases vt_cases h with ⟨rfl, rfl, _, _⟩ | ⟨a, b, s1, u1, rfl, rfl, rfl, h1, h2⟩
      · cases e
      · rw [pv_two] at e
        have r0 : rd (i :: r) 0 = i := rfl
        have d1 : (i :: r).drop 1 = r := rfl
        rw [if_neg (by first | omega | (simp; done) | (simp; omega))]
        simp only [impl_valWith.l0, r0, d1, w01, w12]
        rw [if_pos (by first | (simp; done) | (simp; omega)), if_pos (by first | omega | (simp; omega)), if_pos (by first | (simp; done) | (simp; omega)), if_pos (by first | omega | (simp; done) | (simp; omega)), wp_two]
        by_cases h0 : i = 0
        · rw [if_pos h0] at e
          subst h0
          rw [if_pos (by trivial), if_pos (by first | (simp; done) | (simp; omega)), rv0, ih n _ _ _ _ _ _ _ (k + 2) h1 e hy (by omega)]; simp only [Option.bind_some]
          rw [if_pos (by first | (simp; done) | (simp; omega)), if_pos (by first | (simp; done) | (simp; omega)), if_pos (by first | omega | (simp; omega)), if_pos (by first | (simp; done) | (simp; omega)), if_pos (by first | omega | (simp; done) | (simp; omega)), if_neg (by omega), rv1, valCopy_ev n _ _ _ (k + 1) h2 (by omega)]; simp only [Option.bind_some]
          rw [if_pos (by simp), if_neg (by simp), if_pos (by trivial)]
          cases b; rfl
        · rw [if_neg h0] at e
          by_cases h3 : i = 1
          · rw [if_pos h3] at e
            subst h3
            rw [if_neg (by omega), rv0, valCopy_ev n _ _ _ (k + 2) h1 (by omega)]; simp only [Option.bind_some]
            rw [if_pos (by first | (simp; done) | (simp; omega)), if_pos (by first | (simp; done) | (simp; omega)), if_pos (by first | omega | (simp; omega)), if_pos (by first | (simp; done) | (simp; omega)), if_pos (by first | omega | (simp; done) | (simp; omega)), if_pos (by trivial), if_pos (by first | (simp; done) | (simp; omega)), rv1, ih n _ _ _ _ _ _ _ (k + 1) h2 e hy (by omega)]; simp only [Option.bind_some]
            rw [if_pos (by first | (simp; done) | (simp; omega)), if_neg (by first | (simp; done) | (simp; omega)), if_neg (by omega)]
            cases a; rfl
          · rw [if_neg h3] at e; cases e
theorem l1Put_ev : ∀ (p : List Int) (n : Nat) (x : Int) (l : Vl) (t : Ty) (q : Int × Vl) (y : Int) (m : Vl) (u : Ty) (k : Nat), vt n x l = some t → pv p x l = some q → vt 4 y m = some u → p.length + 4 * n + 20 ≤ k →
    spec_l1Put.f k x l p y m = some (wp p x l y m) := by
  intro p
  induction p with
  | nil =>
    intro n x l t q y m u k h e hy hk
    obtain ⟨k, rfl⟩ : ∃ m, k = m + 1 := ⟨k - 1, by omega⟩
    simp only [spec_l1Put.f]
    rw [if_pos (by first | (simp; done) | (simp; omega)), anew_ev 4 y m u k hy (by omega), wp_nil]; rfl
  | cons i r ih =>
    intro n x l t q y m u k h e hy hk
    simp only [List.length_cons] at hk
    obtain ⟨k, rfl⟩ : ∃ m, k = m + 1 := ⟨k - 1, by omega⟩
    simp only [spec_l1Put.f]
    have h' := h
    cases n with
    | zero => cases h
    | succ n =>
      rcases vt_cases h with ⟨rfl, rfl, _, _⟩ | ⟨a, b, s1, u1, rfl, rfl, rfl, h1, h2⟩
      · cases e
      · rw [pv_two] at e
        have r0 : rd (i :: r) 0 = i := rfl
        have d1 : (i :: r).drop 1 = r := rfl
        rw [if_neg (by first | omega | (simp; done) | (simp; omega)), anew_ev (n + 1) _ _ _ k h' (by omega)]; simp only [Option.bind_some, r0, d1]
        rw [if_pos (by first | omega | (simp; done) | (simp; omega)), wp_two]
        by_cases h0 : i = 0
        · rw [if_pos h0] at e
          subst h0
          rw [if_pos (by first | omega | (simp; omega)), if_pos (by first | (simp; done) | (simp; omega)), if_pos (by first | (simp; done) | (simp; omega)), rv0, ih n _ _ _ _ _ _ _ k h1 e hy (by omega)]; simp only [Option.bind_some]
          rw [if_pos (by first | (simp; done) | (simp; omega)), if_pos (by trivial)]; rfl
        · rw [if_neg h0] at e
          by_cases h3 : i = 1
          · rw [if_pos h3] at e
            subst h3
            rw [if_pos (by first | omega | (simp; omega)), if_pos (by first | (simp; done) | (simp; omega)), if_pos (by first | (simp; done) | (simp; omega)), rv1, ih n _ _ _ _ _ _ _ k h2 e hy (by omega)]; simp only [Option.bind_some]
            rw [if_pos (by first | (simp; done) | (simp; omega)), if_neg (by omega)]; rfl
          · rw [if_neg h3] at e; cases e
theorem l1Same_ev : ∀ (n : Nat) (a b : Ty) (k : Nat), dp n a = true → dp n b = true → 4 * n ≤ k → spec_l1Same.f k a b = some (teq n a b) := by
  intro n
  induction n with
  | zero => intro a b k h; simp [dp] at h
  | succ n ih =>
    intro a b k ha hb hk
    obtain ⟨k, rfl⟩ : ∃ m, k = m + 4 := ⟨k - 4, by omega⟩
    simp only [spec_l1Same.f]
    rcases Types.shape a with rfl | ⟨a1, a2, rfl⟩ | ⟨h0, h2⟩
    · rcases Types.shape b with rfl | ⟨b1, b2, rfl⟩ | ⟨h0, h2⟩
      · rw [if_pos (by trivial)]; simp only [spec_l1Same.l0]; rw [if_neg (by first | (simp; done) | (simp; omega))]; rfl
      · rw [if_neg (by first | (simp; done) | (simp; omega))]; rfl
      · rw [dp_odd _ _ h0 h2] at hb; cases hb
    · rcases Types.shape b with rfl | ⟨b1, b2, rfl⟩ | ⟨h0, h2⟩
      · rw [if_neg (by first | (simp; done) | (simp; omega))]; rfl
      · rw [dp_two, Bool.and_eq_true] at ha hb
        rw [if_pos (by first | (simp; done) | (simp; omega))]
        simp only [spec_l1Same.l0, w01, w12]
        rw [if_pos (by first | (simp; done) | (simp; omega)), if_pos (by first | omega | (simp; omega)), if_pos (by first | (simp; done) | (simp; omega)), rd0, rd0, ih _ _ _ ha.1 hb.1 (by omega)]
        simp only [Option.bind_some]
        have e : teq (n + 1) [a1, a2] [b1, b2] = (teq n a1.f0 b1.f0 && teq n a2.f0 b2.f0) := rfl
        rw [e]
        cases h1 : teq n a1.f0 b1.f0 with
        | false => simp
        | true =>
          rw [if_pos (by trivial), if_pos (by first | (simp; done) | (simp; omega)), if_pos (by first | omega | (simp; omega)), if_pos (by first | (simp; done) | (simp; omega)), rd1, rd1, ih _ _ _ ha.2 hb.2 (by omega)]
          simp only [Option.bind_some]
          cases h2 : teq n a2.f0 b2.f0 with
          | false => simp
          | true => rw [if_pos (by trivial), if_neg (by first | (simp; done) | (simp; omega))]; rfl
      · rw [dp_odd _ _ h0 h2] at hb; cases hb
    · rw [dp_odd _ _ h0 h2] at ha; cases ha
def vput (x : Int) (l : Vl) (p : List Int) (y : Int) (m : Vl) : Int × Vl × Bool :=
  match vt 4 x l, pv p x l, vt 4 y m with
  | some _, some q, some u => match vt 4 q.1 q.2 with
    | some s => if teq 4 s u = true then ((wp p x l y m).1, (wp p x l y m).2, true) else (0, [], false)
    | none => (0, [], false)
  | _, _, _ => (0, [], false)
theorem implPut_ev (x : Int) (l : Vl) (p : List Int) (y : Int) (m : Vl) (k : Nat) (h : p.length ≤ 1000) (hk : 6000 ≤ k) : impl_ValPut.f k x l p y m = some (vput x l p y m) := by
  unfold impl_ValPut.f
  rw [implValAt_ev x l p k (by omega) (by omega)]; simp only [Option.bind_some]
  unfold vat vput
  cases e : vt 4 x l with
  | none => rfl
  | some t =>
    cases e2 : pv p x l with
    | none => rfl
    | some q =>
      obtain ⟨s, _, hs⟩ := (vt_pv 4 p x l t e).1 q.1 q.2 e2
      simp only [Option.isSome_some, if_true, av]
      rw [typed_ev _ _ k (by omega)]; simp only [Option.bind_some]
      rw [typed_ev _ _ k (by omega)]; simp only [Option.bind_some]
      cases e3 : vt 4 y m with
      | none => rfl
      | some u =>
        simp only [hs, at_, if_true]
        rw [same_ev 4 s u k (vt_dp _ _ _ _ hs) (vt_dp _ _ _ _ e3) (by omega)]; simp only [Option.bind_some]
        cases g : teq 4 s u with
        | false => rfl
        | true =>
          simp only [if_true]
          rw [valWith_ev p 4 x l t q y m u k e e2 e3 (by omega)]; rfl
theorem specPut_ev (x : Int) (l : Vl) (p : List Int) (y : Int) (m : Vl) (k : Nat) (h : p.length ≤ 1000) (hk : 6000 ≤ k) : spec_ValPut.f k x l p y m = some (vput x l p y m) := by
  obtain ⟨k, rfl⟩ : ∃ m, k = m + 1 := ⟨k - 1, by omega⟩
  unfold spec_ValPut.f
  rw [specValAt_ev x l p (k + 1) (by omega) (by omega)]; simp only [Option.bind_some]
  have bad : ∀ a b c d e f, spec_ValPut.j0 (k + 1) p true a b c d e f = some (0, [], false) := fun a b c d e f => by simp only [spec_ValPut.j0, if_true]
  unfold vat vput
  cases e : vt 4 x l with
  | none => simp [spec_ValPut.j0, av]
  | some t =>
    cases e2 : pv p x l with
    | none => simp [spec_ValPut.j0, av]
    | some q =>
      obtain ⟨s, _, hs⟩ := (vt_pv 4 p x l t e).1 q.1 q.2 e2
      simp only [Option.isSome_some, if_true, av]
      rw [any_ok _ _ (k + 1) (by omega)]; simp only [Option.bind_some]
      cases e3 : vt 4 y m with
      | none => simp [spec_ValPut.j0, av]
      | some u =>
        simp only [spec_ValPut.j0, Option.isSome_some, Bool.not_true]
        rw [if_neg (by simp), show (4 : Int) = ((4 : Nat) : Int) from rfl, (of_ev 4 (by omega) q.1 q.2 k (by omega)).1 s (st_vt _ _ _ _ hs)]; simp only [Option.bind_some]
        rw [(of_ev 4 (by omega) y m k (by omega)).1 u (st_vt _ _ _ _ e3)]; simp only [Option.bind_some]
        rw [l1Same_ev 4 s u k (vt_dp _ _ _ _ hs) (vt_dp _ _ _ _ e3) (by omega)]; simp only [Option.bind_some, hs]
        cases g : teq 4 s u with
        | false => rfl
        | true =>
          simp only [if_true]
          rw [l1Put_ev p 4 x l t q y m u k e e2 e3 (by omega)]; rfl
end Go.Proofs.Ythfflieeifakdaa.Puts
end
section
set_option linter.unusedVariables false
namespace Go.Proofs.Ythfflieeifakdaa.DrawV
open Go.RowKit Go.Proofs.Ythfflieeifakdaa.PA Go.Proofs.YthfflieeifakdaaW.PrintWords Go.Proofs.YthfflieeifakdaaW.PrintLast Go.Proofs.Ythfflieeifakdaa.Draw Go.Proofs.Ythfflieeifakdaa.Types Go.Proofs.Ythfflieeifakdaa.Paths Go.Proofs.Ythfflieeifakdaa.Vals
theorem dph_dp : ∀ (n : Nat) (t : Ty), dp (n + 1) t = true → Dph n t := by
  intro n
  induction n with
  | zero =>
    intro t h
    rcases Types.shape t with rfl | ⟨a, b, rfl⟩ | ⟨h0, h2⟩
    · rfl
    · rw [dp_two, Bool.and_eq_true] at h; simp [dp] at h
    · rw [dp_odd _ _ h0 h2] at h; cases h
  | succ n ih =>
    intro t h
    rcases Types.shape t with rfl | ⟨a, b, rfl⟩ | ⟨h0, h2⟩
    · exact dph_nil _
    · rw [dp_two, Bool.and_eq_true] at h
      intro x hx
      rcases List.mem_cons.1 hx with rfl | hx
      · exact ih _ h.1
      · rw [List.mem_singleton.1 hx]; exact ih _ h.2
    · rw [dp_odd _ _ h0 h2] at h; cases h
theorem drawValAt_ev (l : List Int) (h : ∀ x ∈ l, (Lit.int .u8 x).wf = true) : ∃ x v p, (∀ k, 60 ≤ k → spec_DrawValAt.f k l = some (x, v, p)) ∧ p.length ≤ 11 := by
  obtain ⟨s, ho, hs⟩ := open_ev l h
  obtain ⟨c, hc, c0, c1⟩ := pick_ev s hs 0 3 (by omega) (by omega) (by omega)
  obtain ⟨cn, rfl⟩ := Int.eq_ofNat_of_zero_le c0
  have ew : wrap64 (2 + (cn : Int)) = ((2 + cn : Nat) : Int) := by rw [w64 (by omega) (by omega)]; omega
  obtain ⟨t, q1, ht, g1, g2, d1⟩ := typeN_ev s hs (2 + cn) (by omega) (0 + 1) (by omega) (by omega)
  obtain ⟨x, v, q2, hx, g3, g4⟩ := bad_ev s hs (2 + cn + 1) (by omega) t d1 q1 (by omega) (by omega)
  obtain ⟨p, q3, hp, _, _, hl⟩ := any_ev s hs (2 + cn) t (by omega) (dph_dp _ _ d1) q2 (by omega) (by omega)
  refine ⟨x, v, p, fun k hk => ?_, by omega⟩
  unfold spec_DrawValAt.f
  rw [ho]; simp only [Option.bind_some]
  rw [hc k (by omega)]; simp only [Option.bind_some]
  rw [ew, ht k (by omega)]; simp only [Option.bind_some]
  rw [hx k (by omega)]; simp only [Option.bind_some]
  rw [hp k (by omega)]; rfl
end Go.Proofs.Ythfflieeifakdaa.DrawV
end
