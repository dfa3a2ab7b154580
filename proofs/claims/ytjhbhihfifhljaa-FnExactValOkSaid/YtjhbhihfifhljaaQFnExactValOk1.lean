-- Ytjhbhihfifhljaa's texts for the statement FnExactValOk, one behind the other (merge.py).
import Derived.Test.YtjhbhihfifhljaaQFnExactValOk0
section
namespace Go.Proofs.Ytjhbhihfifhljaa.PA
open Go.RowKit Go.Proofs.YtjhbhihfifhljaaW.PrintWords Go.Proofs.YtjhbhihfifhljaaW.PrintLast Go.Proofs.YtjhbhihfifhljaaW.PrintMore
attribute [local go_sem] max2_int min2_int max_two min_two max_three min_three max_four min_four
set_option linter.unusedVariables false
set_option linter.unusedSimpArgs false
def laws_eqType.F (rec_ : List (S30) → List (S30) → Option (Bool)) (k : Nat) (l0_0 : List (S30)) (l1_0 : List (S30)) : Option (Bool) := (rec_ l0_0 l1_0).bind fun t159 => (if t159 = true then (some true) else (some false))
mutual
def laws_eqTypeS.l0 : Nat → List (S30) → List (S30) → Int → Option (Bool)
 | 0, _, _, _ => none
 | k + 1, x0, x1, x5 => if x5 < (x0.length : Int) then (if 0 ≤ x5 then (if x5 < (x1.length : Int) then ((laws_eqType.F (laws_eqTypeS.f k) k ((rd_T30 x0 x5).f0) ((rd_T30 x1 x5).f0)).bind fun t162 => (if t162 = true then (laws_eqTypeS.l0 k x0 x1 (wrap64 (x5 + 1))) else (some false))) else (none)) else (none)) else (some true)
def laws_eqTypeS.f : Nat → List (S30) → List (S30) → Option (Bool)
 | 0, _, _ => none
 | k + 1, l0, l1 => if (l0.length : Int) = (l1.length : Int) then (laws_eqTypeS.l0 k l0 l1 0) else (some false)
end
theorem laws_eqType.Fmono {rec_ rec2_ : List (S30) → List (S30) → Option (Bool)} (hrec : (∀ y0 y1, LeO (rec_ y0 y1) (rec2_ y0 y1))) : ∀ a0 a1 k, LeO (laws_eqType.F rec_ k a0 a1) (laws_eqType.F rec2_ (k + 1) a0 a1) := by
 intro a0 a1 k
 unfold laws_eqType.F
 repeat' first
   | (with_reducible exact hrec _ _)
   | (with_reducible exact LeO.refl _)
   | (with_reducible exact LeO.none _)
   | (with_reducible refine LeO.ite ?_ ?_)
   | (with_reducible refine LeO.bind ?_ (fun _ => ?_))
   | exact hrec _ _
   | exact LeO.none _
   | refine LeO.ite ?_ ?_
   | refine LeO.bind ?_ (fun _ => ?_)
theorem laws_eqTypeS.mono_l : ∀ k, (∀ y0 y1, LeO (laws_eqTypeS.f k y0 y1) (laws_eqTypeS.f (k + 1) y0 y1)) ∧ (∀ y0 y1 y2, LeO (laws_eqTypeS.l0 k y0 y1 y2) (laws_eqTypeS.l0 (k + 1) y0 y1 y2))
 | 0 => ⟨fun _ _ r h => by simp [laws_eqTypeS.f] at h, fun _ _ _ r h => by simp [laws_eqTypeS.l0] at h⟩
 | k + 1 => by
  obtain ⟨ih0, ih1⟩ := laws_eqTypeS.mono_l k
  refine ⟨?_, ?_⟩
  ·intro y0 y1
   unfold laws_eqTypeS.f
   repeat' first
   | (with_reducible exact ih0 _ _)
   | (with_reducible exact ih1 _ _ _)
   | (with_reducible exact laws_eqType.Fmono ih0 _ _ _)
   | (with_reducible exact LeO.refl _)
   | (with_reducible exact LeO.none _)
   | (with_reducible refine LeO.ite ?_ ?_)
   | (with_reducible refine LeO.bind ?_ (fun _ => ?_))
   | exact ih0 _ _
   | exact ih1 _ _ _
   | exact laws_eqType.Fmono ih0 _ _ _
   | exact LeO.none _
   | refine LeO.ite ?_ ?_
   | refine LeO.bind ?_ (fun _ => ?_)
  ·intro y0 y1 y2
   unfold laws_eqTypeS.l0
   repeat' first
   | (with_reducible exact ih0 _ _)
   | (with_reducible exact ih1 _ _ _)
   | (with_reducible exact laws_eqType.Fmono ih0 _ _ _)
   | (with_reducible exact LeO.refl _)
   | (with_reducible exact LeO.none _)
   | (with_reducible refine LeO.ite ?_ ?_)
   | (with_reducible refine LeO.bind ?_ (fun _ => ?_))
   | exact ih0 _ _
   | exact ih1 _ _ _
   | exact laws_eqType.Fmono ih0 _ _ _
   | exact LeO.none _
   | refine LeO.ite ?_ ?_
   | refine LeO.bind ?_ (fun _ => ?_)
theorem laws_eqTypeS.mono : ∀ a0 a1 k, LeO (laws_eqTypeS.f k a0 a1) (laws_eqTypeS.f (k + 1) a0 a1) := by
 intro a0 a1 k
 obtain ⟨ih0, ih1⟩ := laws_eqTypeS.mono_l k
 exact ih0 a0 a1
set_option maxHeartbeats 8000000 in
set_option maxRecDepth 100000 in
theorem laws_eqType.Fcalls (rec_ : List (S30) → List (S30) → Option (Bool)) (IH : ∀ (A0 : Option Addr) (c0 : Nat) (l0 : List (S30)) (A1 : Option Addr) (c1 : Nat) (l1 : List (S30)) (r : Bool) (w : World) (hr0 : Kd.C k30 w A0 l0.length l0) (hc0 : l0.length ≤ c0) (hr1 : Kd.C k30 w A1 l1.length l1) (hc1 : l1.length ≤ c1) (h : rec_ l0 l1 = some r),
  Calls Try.prog 50 #[.slice A0 l0.length c0, .slice A1 l1.length c1] w fun e w' => e = .returned (.bool r) ∧ Below w.heap.size w w') (k : Nat) (A0_0 : Option Addr) (c0_0 : Nat) (l0_0 : List (S30)) (A1_0 : Option Addr) (c1_0 : Nat) (l1_0 : List (S30)) (r : Bool) (w : World) (hr0_0 : Kd.C k30 w A0_0 l0_0.length l0_0) (hc0_0 : l0_0.length ≤ c0_0) (hr1_0 : Kd.C k30 w A1_0 l1_0.length l1_0) (hc1_0 : l1_0.length ≤ c1_0) (h : laws_eqType.F rec_ k l0_0 l1_0 = some r) :
  Calls Try.prog 19 #[.agg #[.slice A0_0 l0_0.length c0_0], .agg #[.slice A1_0 l1_0.length c1_0]] w fun e w' => e = .returned (.bool r) ∧ Below w.heap.size w w' := by
 have hu30 := Try.underlying30
 have HR0_0 := Aside0.mk hr0_0
 have HC0_0 := Aside0.mk hc0_0
 clear hr0_0 hc0_0
 have HR1_0 := Aside0.mk hr1_0
 have HC1_0 := Aside0.mk hc1_0
 clear hr1_0 hc1_0
 have HB := Aside0.mk (Below.refl w.heap.size w)
 have H : ((rec_ l0_0 l1_0).bind fun t159 => (if t159 = true then (some true) else (some false))) = some r := h
 clear h
 obtain ⟨t159, A30, H⟩ := ob H
 have A3 := Aside0.mk A30
 clear A30
 by_cases c4 : t159 = true
 ·subst c4
  rw [if_pos rfl] at H
  obtain rfl := Option.some.inj H
  go_enter Try.func19, Try.ntmps19
  go_wp2_with (first | ((with_reducible refine gate_dst (N := 2) rfl ?_); refine zbx 2 #[.slice A0_0 l0_0.length c0_0] 30 ?_; intro gb157 hg w5 hbox hb; have BK157 := Aside0.mk hbox; have GW157 := Aside0.mk ((y5 hg HB.out : w.heap.size ≤ gb157)); have GE157 := Aside0.mk ((y5 hg HB.out : w.heap.size ≤ gb157)); replace HB := Aside0.mk (below_step (y2 HB.out) hb); clear hb hbox hg) | ((with_reducible refine gate_dst (N := 3) rfl ?_); refine zbx 3 #[.slice A1_0 l1_0.length c1_0] 30 ?_; intro gb158 hg w6 hbox hb; have BK158 := Aside0.mk hbox; have GW158 := Aside0.mk ((y6 hg HB.out GE157.out : w.heap.size ≤ gb158)); have GE158 := Aside0.mk ((y6 hg HB.out GE157.out : w.heap.size ≤ gb158)); replace HB := Aside0.mk (below_step (y3 HB.out GE157.out) hb); have NB157_158 := zltn hg BK157; have NB158_157 := zgtn hg BK157; replace BK157 := zbb BK157 hb; clear hb hbox hg; have hnb7 := NB157_158.out; have hnc7 := NB158_157.out; have hcz8_0 := zh BK157; have hfz8_0 := zfr BK157 0; have hcz9_0 := zh BK158; have hfz9_0 := zfr BK158 0) | ((with_reducible refine gate_callee (f := 50) rfl ?_); refine goesL_ (some 9) rfl rfl Try.func50 (by kernel_rfl) rfl #[.slice A0_0 l0_0.length c0_0, .slice A1_0 l1_0.length c1_0] rfl y4 ?_; (with_reducible refine (IH  _ _ l0_0 _ _ l1_0 true _ ?side1 ?side2 ?side3 ?side4 A3.out).mono ?_); (case side1 => exact y8 HR0_0.out HB.out); (case side2 => exact HC0_0.out); (case side3 => exact y8 HR1_0.out HB.out); (case side4 => exact HC1_0.out); rintro e w10 ⟨rfl, hb⟩; refine ⟨_, rfl, ?_⟩; replace BK157 := zbb BK157 hb; replace BK158 := zbb BK158 hb; replace HB := Aside0.mk (below_step (y1 HB.out GE157.out GE158.out) hb); (try clear hb); (try clear hb2); (try clear hk); (try clear hi)))
  go_ret
  exact ⟨y14, (y1 HB.out GE157.out GE158.out)⟩
 ·replace c4 := Bool.eq_false_iff.mpr c4
  subst c4
  rw [if_neg (show ¬ (false = true) by decide)] at H
  obtain rfl := Option.some.inj H
  go_enter Try.func19, Try.ntmps19
  go_wp2_with (first | ((with_reducible refine gate_dst (N := 2) rfl ?_); refine zbx 2 #[.slice A0_0 l0_0.length c0_0] 30 ?_; intro gb157 hg w11 hbox hb; have BK157 := Aside0.mk hbox; have GW157 := Aside0.mk ((y5 hg HB.out : w.heap.size ≤ gb157)); have GE157 := Aside0.mk ((y5 hg HB.out : w.heap.size ≤ gb157)); replace HB := Aside0.mk (below_step (y2 HB.out) hb); clear hb hbox hg) | ((with_reducible refine gate_dst (N := 3) rfl ?_); refine zbx 3 #[.slice A1_0 l1_0.length c1_0] 30 ?_; intro gb158 hg w12 hbox hb; have BK158 := Aside0.mk hbox; have GW158 := Aside0.mk ((y6 hg HB.out GE157.out : w.heap.size ≤ gb158)); have GE158 := Aside0.mk ((y6 hg HB.out GE157.out : w.heap.size ≤ gb158)); replace HB := Aside0.mk (below_step (y3 HB.out GE157.out) hb); have NB157_158 := zltn hg BK157; have NB158_157 := zgtn hg BK157; replace BK157 := zbb BK157 hb; clear hb hbox hg; have hnb13 := NB157_158.out; have hnc13 := NB158_157.out; have hcz14_0 := zh BK157; have hfz14_0 := zfr BK157 0; have hcz15_0 := zh BK158; have hfz15_0 := zfr BK158 0) | ((with_reducible refine gate_callee (f := 50) rfl ?_); refine goesL_ (some 9) rfl rfl Try.func50 (by kernel_rfl) rfl #[.slice A0_0 l0_0.length c0_0, .slice A1_0 l1_0.length c1_0] rfl y4 ?_; (with_reducible refine (IH  _ _ l0_0 _ _ l1_0 false _ ?side1 ?side2 ?side3 ?side4 A3.out).mono ?_); (case side1 => exact y8 HR0_0.out HB.out); (case side2 => exact HC0_0.out); (case side3 => exact y8 HR1_0.out HB.out); (case side4 => exact HC1_0.out); rintro e w16 ⟨rfl, hb⟩; refine ⟨_, rfl, ?_⟩; replace BK157 := zbb BK157 hb; replace BK158 := zbb BK158 hb; replace HB := Aside0.mk (below_step (y1 HB.out GE157.out GE158.out) hb); (try clear hb); (try clear hb2); (try clear hk); (try clear hi)))
  go_ret
  exact ⟨y14, (y1 HB.out GE157.out GE158.out)⟩
def laws_eqTypeS.T6 : Bool × List (List Nat × List Nat) := (true, [([], []), ([], []), ([0, 1], [0, 1]), ([2], [2]), ([], []), ([], []), ([4, 5], [4, 5]), ([6], [6]), ([3, 7], [3, 7]), ([8], [8])])
def laws_eqTypeS.B6 : List Nat := [0, 0, 3, 7, 0, 0, 48, 112, 255, 511]
theorem laws_eqTypeS.tab6 : rtab .any (opsOf Try.f50 6) = laws_eqTypeS.T6 := by kernel_rfl
theorem laws_eqTypeS.bits6 : waitsOk laws_eqTypeS.T6.2 laws_eqTypeS.B6 = true := by kernel_rfl
set_option maxHeartbeats 8000000 in
set_option maxRecDepth 100000 in
theorem laws_eqTypeS.calls (k : Nat) : ∀ (A0 : Option Addr) (c0 : Nat) (l0 : List (S30)) (A1 : Option Addr) (c1 : Nat) (l1 : List (S30)) (r : Bool) (w : World) (hr0 : Kd.C k30 w A0 l0.length l0) (hc0 : l0.length ≤ c0) (hr1 : Kd.C k30 w A1 l1.length l1) (hc1 : l1.length ≤ c1) (h : laws_eqTypeS.f k l0 l1 = some r),
  Calls Try.prog 50 #[.slice A0 l0.length c0, .slice A1 l1.length c1] w fun e w' => e = .returned (.bool r) ∧ Below w.heap.size w w' := by
 induction k using Nat.strongRecOn with
 | _ k ih =>
 intro A0 c0 l0 A1 c1 l1 r w hr0 hc0 hr1 hc1 h
 cases k with
 | zero => exact absurd h (by simp [laws_eqTypeS.f])
 | succ k =>
 simp only [laws_eqTypeS.f] at h
 have hu30 := Try.underlying30
 have HR0 := Aside0.mk hr0
 have HC0 := Aside0.mk hc0
 clear hr0 hc0
 have HR1 := Aside0.mk hr1
 have HC1 := Aside0.mk hc1
 clear hr1 hc1
 have HB := Aside0.mk (Below.refl w.heap.size w)
 have H : (if (l0.length : Int) = (l1.length : Int) then (laws_eqTypeS.l0 k l0 l1 0) else (some false)) = some r := h
 clear h
 by_cases c3 : (l0.length : Int) = (l1.length : Int)
 ·rw [if_pos c3] at H
  have c3b0 : ((l0.length : Int) == (l1.length : Int)) = true := beq_iff_eq.mpr c3
  have c3b1 : ((l0.length : Int) != (l1.length : Int)) = false := bne_eq_false_iff_eq.mpr c3
  have c3b2 : (l0.length == l1.length) = true := by first | simpa using c3 | (simp at c3 ⊢; omega)
  clear c3
  have H' := Aside0.mk H
  clear H
  go_enter Try.func50, Try.ntmps50
  go_wp2
  go_loopg [5] k (fun kq v5 w' => ∃ (x5_1 : Int), v5 = .int .i64 x5_1 ∧ Aside0 (laws_eqTypeS.l0 kq l0 l1 x5_1 = some r) ∧ Aside0 (kq ≤ k) ∧ Aside0 (Below w.heap.size w w'))
  case atStart => exact ⟨(0), y26, H', ⟨Nat.le_refl _⟩, ⟨(y2 HB.out)⟩⟩
  case round =>
   clear H'
   try clear c1
   try clear p2
   try clear c3
   try clear c3b0
   try clear c3b1
   try clear c3b2
   obtain ⟨x5_1, rfl, HA, HK1, HB⟩ := hrel
   cases gk with
   | zero => exact absurd HA.out (by simp [laws_eqTypeS.l0])
   | succ k1 =>
    have H := HA.out
    clear HA
    simp only [laws_eqTypeS.l0] at H
    by_cases c4 : x5_1 < (l0.length : Int)
    ·rw [if_pos c4] at H
     have c4b0 : decide (x5_1 < (l0.length : Int)) = true := decide_eq_true c4
     clear c4
     by_cases c5 : 0 ≤ x5_1
     ·rw [if_pos c5] at H
      have c5b0 : decide (0 ≤ x5_1) = true := decide_eq_true c5
      clear c5
      by_cases c6 : x5_1 < (l1.length : Int)
      ·rw [if_pos c6] at H
       have c6b0 : decide (x5_1 < (l1.length : Int)) = true := decide_eq_true c6
       clear c6
       obtain ⟨t162, A70, H⟩ := ob H
       have A7 := Aside0.mk A70
       clear A70
       by_cases c8 : t162 = true
       ·subst c8
        rw [if_pos rfl] at H
        have H' := Aside0.mk H
        clear H
        try go_wp2
        replace HB := Aside0.mk (below_drew1 HB.out)
        have p160 : 0 ≤ (x5_1 : Int) := of_decide_eq_true y19
        have q160 : x5_1 < (l0.length : Int) := of_decide_eq_true y19
        obtain ⟨ad160, A160_0, c160_0, e160, hx160_0, hl160_0, hi160_0⟩ := at_T30 HR0.out x5_1 p160 q160
        have hw160_0 := hx160_0
        cases e160
        replace hx160_0 := (HB.out.cell (World.block_lt_of_cell? w _ hx160_0)).trans hx160_0
        have HR160_0 := Aside0.mk hi160_0
        have HC160_0 := Aside0.mk hl160_0
        clear hi160_0 hl160_0
        replace p160 := eq_true p160
        replace q160 := eq_true q160
        have p161 : 0 ≤ (x5_1 : Int) := of_decide_eq_true y19
        have q161 : x5_1 < (l1.length : Int) := of_decide_eq_true y19
        obtain ⟨ad161, A161_0, c161_0, e161, hx161_0, hl161_0, hi161_0⟩ := at_T30 HR1.out x5_1 p161 q161
        have hw161_0 := hx161_0
        cases e161
        replace hx161_0 := (HB.out.cell (World.block_lt_of_cell? w _ hx161_0)).trans hx161_0
        have HR161_0 := Aside0.mk hi161_0
        have HC161_0 := Aside0.mk hl161_0
        clear hi161_0 hl161_0
        replace p161 := eq_true p161
        replace q161 := eq_true q161
        refine start_ (n := 10) (S := fun w' => w'.cell? (ad160.add (x5_1).toNat) = some (.slice A160_0 ((rd_T30 l0 x5_1).f0).length c160_0) ∧ w'.cell? (ad161.add (x5_1).toNat) = some (.slice A161_0 ((rd_T30 l1 x5_1).f0).length c161_0)) (ds := []) #[false, false, false, false, false, false, false, false, false, false] (by kernel_rfl) rfl rfl ⟨((HB.out.cell (World.block_lt_of_cell? w _ hw160_0)).trans hw160_0), ((HB.out.cell (World.block_lt_of_cell? w _ hw161_0)).trans hw161_0)⟩ (fun hHeld => ?_); refine with_tabW laws_eqTypeS.tab6 laws_eqTypeS.bits6 (fun HT_ HW_ => ?_)
        generalize wr.drew = w9 at HB HR160_0 HR161_0 hx160_0 hx161_0 hHeld ⊢
        refine zp 0 (some 17) HT_ ?_
        refine zp 1 (some 18) HT_ ?_
        refine zp 2 (some 19) HT_ ?_
        refine zp 4 (some 21) HT_ ?_
        refine zp 5 (some 22) HT_ ?_
        refine zp 6 (some 23) HT_ ?_
        refine zt2 3 (some 20) HT_ HW_ hHeld ?_
        refine zt2 7 (some 24) HT_ HW_ hHeld ?_
        refine one_ (i := 8) (N := some 25) #[true, true, true, true, true, true, true, true, true, false] rfl rfl (one_of HT_.out (by kernel_rfl)) (by decide) (fun K hK => ?_)
        refine goes_ Try.func19 (by kernel_rfl) rfl #[.agg #[.slice A160_0 ((rd_T30 l0 x5_1).f0).length c160_0], .agg #[.slice A161_0 ((rd_T30 l1 x5_1).f0).length c161_0]] (by rfl) rfl rfl y4 ?_
        with_reducible refine (laws_eqType.Fcalls (laws_eqTypeS.f k1) (ih k1 (y46 HK1.out)) k1 _ _ ((rd_T30 l0 x5_1).f0) _ _ ((rd_T30 l1 x5_1).f0) true _ ?side1 ?side2 ?side3 ?side4 A7.out).mono ?_
        (case side1 => exact y8 HR160_0.out HB.out)
        (case side2 => exact HC160_0.out)
        (case side3 => exact y8 HR161_0.out HB.out)
        (case side4 => exact HC161_0.out)
        rintro e w10 ⟨rfl, hb⟩
        refine ⟨_, rfl, ?_⟩
        replace HB := Aside0.mk (below_step (y2 HB.out) hb)
        (try clear hb)
        (try clear hb2)
        (try clear hk)
        (try clear hi)
        refine hK.out _ _ ⟨((HB.out.cell (World.block_lt_of_cell? w _ hw160_0)).trans hw160_0), ((HB.out.cell (World.block_lt_of_cell? w _ hw161_0)).trans hw161_0)⟩ (fun hHeld => ?_)
        clear hK K
        refine norm_ (a' := ?_) ?_ ?_
        rotate_left
        ·show Act.put _ (some 25) _ = _
         simp only [Act.put, List.setIfInBounds_toArray, List.set_cons_zero, List.set_cons_succ, i64_w, i32_w]
         rfl
        refine zp 9 (some 26) HT_ ?_
        refine done_ (done_of HT_.out (by kernel_rfl)) ?_
        try go_wp2
        go_roundg k1
        case measure => have := HK1.out; omega
        case rel => exact ⟨(wrap64 (x5_1 + 1)), y26, H', ⟨(y46 HK1.out)⟩, ⟨(y2 HB.out)⟩⟩
       ·replace c8 := Bool.eq_false_iff.mpr c8
        subst c8
        rw [if_neg (show ¬ (false = true) by decide)] at H
        obtain rfl := Option.some.inj H
        try go_wp2
        replace HB := Aside0.mk (below_drew1 HB.out)
        have p160 : 0 ≤ (x5_1 : Int) := of_decide_eq_true y19
        have q160 : x5_1 < (l0.length : Int) := of_decide_eq_true y19
        obtain ⟨ad160, A160_0, c160_0, e160, hx160_0, hl160_0, hi160_0⟩ := at_T30 HR0.out x5_1 p160 q160
        have hw160_0 := hx160_0
        cases e160
        replace hx160_0 := (HB.out.cell (World.block_lt_of_cell? w _ hx160_0)).trans hx160_0
        have HR160_0 := Aside0.mk hi160_0
        have HC160_0 := Aside0.mk hl160_0
        clear hi160_0 hl160_0
        replace p160 := eq_true p160
        replace q160 := eq_true q160
        have p161 : 0 ≤ (x5_1 : Int) := of_decide_eq_true y19
        have q161 : x5_1 < (l1.length : Int) := of_decide_eq_true y19
        obtain ⟨ad161, A161_0, c161_0, e161, hx161_0, hl161_0, hi161_0⟩ := at_T30 HR1.out x5_1 p161 q161
        have hw161_0 := hx161_0
        cases e161
        replace hx161_0 := (HB.out.cell (World.block_lt_of_cell? w _ hx161_0)).trans hx161_0
        have HR161_0 := Aside0.mk hi161_0
        have HC161_0 := Aside0.mk hl161_0
        clear hi161_0 hl161_0
        replace p161 := eq_true p161
        replace q161 := eq_true q161
        refine start_ (n := 10) (S := fun w' => w'.cell? (ad160.add (x5_1).toNat) = some (.slice A160_0 ((rd_T30 l0 x5_1).f0).length c160_0) ∧ w'.cell? (ad161.add (x5_1).toNat) = some (.slice A161_0 ((rd_T30 l1 x5_1).f0).length c161_0)) (ds := []) #[false, false, false, false, false, false, false, false, false, false] (by kernel_rfl) rfl rfl ⟨((HB.out.cell (World.block_lt_of_cell? w _ hw160_0)).trans hw160_0), ((HB.out.cell (World.block_lt_of_cell? w _ hw161_0)).trans hw161_0)⟩ (fun hHeld => ?_); refine with_tabW laws_eqTypeS.tab6 laws_eqTypeS.bits6 (fun HT_ HW_ => ?_)
        generalize wr.drew = w11 at HB HR160_0 HR161_0 hx160_0 hx161_0 hHeld ⊢
        refine zp 0 (some 17) HT_ ?_
        refine zp 1 (some 18) HT_ ?_
        refine zp 2 (some 19) HT_ ?_
        refine zp 4 (some 21) HT_ ?_
        refine zp 5 (some 22) HT_ ?_
        refine zp 6 (some 23) HT_ ?_
        refine zt2 3 (some 20) HT_ HW_ hHeld ?_
        refine zt2 7 (some 24) HT_ HW_ hHeld ?_
        refine one_ (i := 8) (N := some 25) #[true, true, true, true, true, true, true, true, true, false] rfl rfl (one_of HT_.out (by kernel_rfl)) (by decide) (fun K hK => ?_)
        refine goes_ Try.func19 (by kernel_rfl) rfl #[.agg #[.slice A160_0 ((rd_T30 l0 x5_1).f0).length c160_0], .agg #[.slice A161_0 ((rd_T30 l1 x5_1).f0).length c161_0]] (by rfl) rfl rfl y4 ?_
        with_reducible refine (laws_eqType.Fcalls (laws_eqTypeS.f k1) (ih k1 (y46 HK1.out)) k1 _ _ ((rd_T30 l0 x5_1).f0) _ _ ((rd_T30 l1 x5_1).f0) false _ ?side1 ?side2 ?side3 ?side4 A7.out).mono ?_
        (case side1 => exact y8 HR160_0.out HB.out)
        (case side2 => exact HC160_0.out)
        (case side3 => exact y8 HR161_0.out HB.out)
        (case side4 => exact HC161_0.out)
        rintro e w12 ⟨rfl, hb⟩
        refine ⟨_, rfl, ?_⟩
        replace HB := Aside0.mk (below_step (y2 HB.out) hb)
        (try clear hb)
        (try clear hb2)
        (try clear hk)
        (try clear hi)
        refine hK.out _ _ ⟨((HB.out.cell (World.block_lt_of_cell? w _ hw160_0)).trans hw160_0), ((HB.out.cell (World.block_lt_of_cell? w _ hw161_0)).trans hw161_0)⟩ (fun hHeld => ?_)
        clear hK K
        refine norm_ (a' := ?_) ?_ ?_
        rotate_left
        ·show Act.put _ (some 25) _ = _
         simp only [Act.put, List.setIfInBounds_toArray, List.set_cons_zero, List.set_cons_succ, i64_w, i32_w]
         rfl
        refine zp 9 (some 26) HT_ ?_
        refine done_ (done_of HT_.out (by kernel_rfl)) ?_
        try go_wp2
        go_ret
        exact ⟨y14, (y2 HB.out)⟩
      ·rw [if_neg c6] at H
       exact absurd H (by simp)
     ·rw [if_neg c5] at H
      exact absurd H (by simp)
    ·rw [if_neg c4] at H
     have c4b0 : decide (x5_1 < (l0.length : Int)) = false := decide_eq_false c4
     clear c4
     obtain rfl := Option.some.inj H
     go_wp2
     go_ret
     exact ⟨y14, (y2 HB.out)⟩
 ·rw [if_neg c3] at H
  have c3b0 : ((l0.length : Int) == (l1.length : Int)) = false := beq_eq_false_iff_ne.mpr c3
  have c3b1 : ((l0.length : Int) != (l1.length : Int)) = true := bne_iff_ne.mpr c3
  have c3b2 : (l0.length == l1.length) = false := by first | simpa using c3 | (simp at c3 ⊢; omega)
  obtain rfl := Option.some.inj H
  go_enter Try.func50, Try.ntmps50
  go_wp2
  go_ret
  exact ⟨y14, (y2 HB.out)⟩
def laws_eqType.f (k : Nat) (l0_0 : List (S30)) (l1_0 : List (S30)) : Option (Bool) := laws_eqType.F (laws_eqTypeS.f k) k l0_0 l1_0
theorem laws_eqType.mono : ∀ a0 a1 k, LeO (laws_eqType.f k a0 a1) (laws_eqType.f (k + 1) a0 a1) := fun a0 a1 k => laws_eqType.Fmono (fun y0 y1 => laws_eqTypeS.mono y0 y1 k) a0 a1 k
theorem laws_eqType.calls (k : Nat) (A0_0 : Option Addr) (c0_0 : Nat) (l0_0 : List (S30)) (A1_0 : Option Addr) (c1_0 : Nat) (l1_0 : List (S30)) (r : Bool) (w : World) (hr0_0 : Kd.C k30 w A0_0 l0_0.length l0_0) (hc0_0 : l0_0.length ≤ c0_0) (hr1_0 : Kd.C k30 w A1_0 l1_0.length l1_0) (hc1_0 : l1_0.length ≤ c1_0) (h : laws_eqType.f k l0_0 l1_0 = some r) :
  Calls Try.prog 19 #[.agg #[.slice A0_0 l0_0.length c0_0], .agg #[.slice A1_0 l1_0.length c1_0]] w fun e w' => e = .returned (.bool r) ∧ Below w.heap.size w w' := laws_eqType.Fcalls (laws_eqTypeS.f k) (laws_eqTypeS.calls k) k A0_0 c0_0 l0_0 A1_0 c1_0 l1_0 r w hr0_0 hc0_0 hr1_0 hc1_0 h
end Go.Proofs.Ytjhbhihfifhljaa.PA
end
section
namespace Go.Proofs.Ytjhbhihfifhljaa.PA
open Go.RowKit Go.Proofs.YtjhbhihfifhljaaW.PrintWords Go.Proofs.YtjhbhihfifhljaaW.PrintLast Go.Proofs.YtjhbhihfifhljaaW.PrintMore
attribute [local go_sem] max2_int min2_int max_two min_two max_three min_three max_four min_four
set_option linter.unusedVariables false
set_option linter.unusedSimpArgs false
def impl_typeFits.f : Nat → List (S30) → Int → Option (Bool)
 | 0, _, _ => none
 | k + 1, l0_0, a1 => if a1 < 1 then (some false) else (if (l0_0.length : Int) = 0 then (some true) else (if (l0_0.length : Int) = 2 then (if 0 < (l0_0.length : Int) then ((impl_typeFits.f k ((rd_T30 l0_0 0).f0) (wrap64 (a1 - 1))).bind fun t146 => (if t146 = true then (if 1 < (l0_0.length : Int) then ((impl_typeFits.f k ((rd_T30 l0_0 1).f0) (wrap64 (a1 - 1))).bind fun t148 => (some t148)) else (none)) else (some false))) else (none)) else (some false)))
theorem impl_typeFits.mono_l : ∀ k, (∀ y0 y1, LeO (impl_typeFits.f k y0 y1) (impl_typeFits.f (k + 1) y0 y1))
 | 0 => fun _ _ r h => by simp [impl_typeFits.f] at h
 | k + 1 => by
  have ih0 := impl_typeFits.mono_l k
  ·intro y0 y1
   unfold impl_typeFits.f
   repeat' first
   | (with_reducible exact ih0 _ _)
   | (with_reducible exact LeO.refl _)
   | (with_reducible exact LeO.none _)
   | (with_reducible refine LeO.ite ?_ ?_)
   | (with_reducible refine LeO.bind ?_ (fun _ => ?_))
   | exact ih0 _ _
   | exact LeO.none _
   | refine LeO.ite ?_ ?_
   | refine LeO.bind ?_ (fun _ => ?_)
theorem impl_typeFits.mono : ∀ a0 a1 k, LeO (impl_typeFits.f k a0 a1) (impl_typeFits.f (k + 1) a0 a1) := by
 intro a0 a1 k
 have ih0 := impl_typeFits.mono_l k
 exact ih0 a0 a1
set_option maxHeartbeats 8000000 in
set_option maxRecDepth 100000 in
theorem impl_typeFits.calls (k : Nat) : ∀ (A0_0 : Option Addr) (c0_0 : Nat) (l0_0 : List (S30)) (a1 : Int) (r : Bool) (w : World) (hr0_0 : Kd.C k30 w A0_0 l0_0.length l0_0) (hc0_0 : l0_0.length ≤ c0_0) (h : impl_typeFits.f k l0_0 a1 = some r),
  Calls Try.prog 49 #[.agg #[.slice A0_0 l0_0.length c0_0], .int .i64 a1] w fun e w' => e = .returned (.bool r) ∧ Below w.heap.size w w' := by
 induction k using Nat.strongRecOn with
 | _ k ih =>
 intro A0_0 c0_0 l0_0 a1 r w hr0_0 hc0_0 h
 cases k with
 | zero => exact absurd h (by simp [impl_typeFits.f])
 | succ k =>
 simp only [impl_typeFits.f] at h
 have hu30 := Try.underlying30
 have HR0_0 := Aside0.mk hr0_0
 have HC0_0 := Aside0.mk hc0_0
 clear hr0_0 hc0_0
 have HB := Aside0.mk (Below.refl w.heap.size w)
 have H : (if a1 < 1 then (some false) else (if (l0_0.length : Int) = 0 then (some true) else (if (l0_0.length : Int) = 2 then (if 0 < (l0_0.length : Int) then ((impl_typeFits.f k ((rd_T30 l0_0 0).f0) (wrap64 (a1 - 1))).bind fun t146 => (if t146 = true then (if 1 < (l0_0.length : Int) then ((impl_typeFits.f k ((rd_T30 l0_0 1).f0) (wrap64 (a1 - 1))).bind fun t148 => (some t148)) else (none)) else (some false))) else (none)) else (some false)))) = some r := h
 clear h
 by_cases c3 : a1 < 1
 ·rw [if_pos c3] at H
  have c3b0 : decide (a1 < 1) = true := decide_eq_true c3
  clear c3
  obtain rfl := Option.some.inj H
  go_enter Try.func49, Try.ntmps49
  go_wp2_with (first | ((with_reducible refine gate_dst (N := 2) rfl ?_); refine zbx 2 #[.slice A0_0 l0_0.length c0_0] 30 ?_; intro gb144 hg w4 hbox hb; have BK144 := Aside0.mk hbox; have GW144 := Aside0.mk ((y5 hg HB.out : w.heap.size ≤ gb144)); have GE144 := Aside0.mk ((y5 hg HB.out : w.heap.size ≤ gb144)); replace HB := Aside0.mk (below_step (y2 HB.out) hb); clear hb hbox hg))
  go_ret
  exact ⟨y14, (y3 HB.out GE144.out)⟩
 ·rw [if_neg c3] at H
  have c3b0 : decide (a1 < 1) = false := decide_eq_false c3
  clear c3
  by_cases c5 : (l0_0.length : Int) = 0
  ·rw [if_pos c5] at H
   have c5b0 : ((l0_0.length : Int) == 0) = true := beq_iff_eq.mpr c5
   have c5b1 : ((l0_0.length : Int) != 0) = false := bne_eq_false_iff_eq.mpr c5
   clear c5
   obtain rfl := Option.some.inj H
   go_enter Try.func49, Try.ntmps49
   go_wp2_with (first | ((with_reducible refine gate_dst (N := 2) rfl ?_); refine zbx 2 #[.slice A0_0 l0_0.length c0_0] 30 ?_; intro gb144 hg w6 hbox hb; have BK144 := Aside0.mk hbox; have GW144 := Aside0.mk ((y5 hg HB.out : w.heap.size ≤ gb144)); have GE144 := Aside0.mk ((y5 hg HB.out : w.heap.size ≤ gb144)); replace HB := Aside0.mk (below_step (y2 HB.out) hb); clear hb hbox hg; have hcz7_0 := zh BK144; have hfz7_0 := zfr BK144 0))
   go_ret
   exact ⟨y14, (y3 HB.out GE144.out)⟩
  ·rw [if_neg c5] at H
   have c5b0 : ((l0_0.length : Int) == 0) = false := beq_eq_false_iff_ne.mpr c5
   have c5b1 : ((l0_0.length : Int) != 0) = true := bne_iff_ne.mpr c5
   have c5b2 : ¬ (l0_0 = []) := fun h_ => c5 (by rw [h_]; rfl)
   by_cases c8 : (l0_0.length : Int) = 2
   ·rw [if_pos c8] at H
    have c8b0 : ((l0_0.length : Int) == 2) = true := beq_iff_eq.mpr c8
    have c8b1 : ((l0_0.length : Int) != 2) = false := bne_eq_false_iff_eq.mpr c8
    clear c8
    by_cases c9 : 0 < (l0_0.length : Int)
    ·rw [if_pos c9] at H
     have c9b0 : decide (0 < (l0_0.length : Int)) = true := decide_eq_true c9
     have c9b1 : decide (0 < l0_0.length) = true := decide_eq_true (by omega)
     clear c9
     obtain ⟨t146, A100, H⟩ := ob H
     have A10 := Aside0.mk A100
     clear A100
     by_cases c11 : t146 = true
     ·subst c11
      rw [if_pos rfl] at H
      by_cases c12 : 1 < (l0_0.length : Int)
      ·rw [if_pos c12] at H
       have c12b0 : decide (1 < (l0_0.length : Int)) = true := decide_eq_true c12
       have c12b1 : decide (1 < l0_0.length) = true := decide_eq_true (by omega)
       clear c12
       obtain ⟨t148, A130, H⟩ := ob H
       have A13 := Aside0.mk A130
       clear A130
       obtain rfl := Option.some.inj H
       go_enter Try.func49, Try.ntmps49
       go_wp2_with (first | ((with_reducible refine gate_dst (N := 2) rfl ?_); refine zbx 2 #[.slice A0_0 l0_0.length c0_0] 30 ?_; intro gb144 hg w14 hbox hb; have BK144 := Aside0.mk hbox; have GW144 := Aside0.mk ((y5 hg HB.out : w.heap.size ≤ gb144)); have GE144 := Aside0.mk ((y5 hg HB.out : w.heap.size ≤ gb144)); replace HB := Aside0.mk (below_step (y2 HB.out) hb); clear hb hbox hg; have hcz15_0 := zh BK144; have hfz15_0 := zfr BK144 0; have p145 : 0 ≤ (0 : Int) := (by omega); have q145 : 0 < (l0_0.length : Int) := of_decide_eq_true y19; obtain ⟨ad145, A145_0, c145_0, e145, hx145_0, hl145_0, hi145_0⟩ := at_T30 HR0_0.out 0 p145 q145; cases e145; have qi145 : (0 < l0_0.length) = True := eq_true (by omega); (try rw [show ((0 : Int)).toNat = 0 from rfl] at hx145_0); (try rw [Addr.add_zero'] at hx145_0); replace hx145_0 := (HB.out.cell (World.block_lt_of_cell? w _ hx145_0)).trans hx145_0; have HR145_0 := Aside0.mk hi145_0; have HC145_0 := Aside0.mk hl145_0; clear hi145_0 hl145_0; replace p145 := eq_true p145; replace q145 := eq_true q145) | (go_at_call 49; (with_reducible refine (ih k (by omega) _ _ ((rd_T30 l0_0 0).f0) (wrap64 (a1 - 1)) true _ ?side1 ?side2 A10.out).mono ?_); (case side1 => exact y8 HR145_0.out HB.out); (case side2 => exact HC145_0.out); rintro e w16 ⟨rfl, hb⟩; replace BK144 := zbb BK144 hb; replace HB := Aside0.mk (below_step (y3 HB.out GE144.out) hb); (try clear hb); (try clear hb2); (try clear hk); (try clear hi); have hcz17_0 := zh BK144; have hfz17_0 := zfr BK144 0; have p147 : 0 ≤ (1 : Int) := (by omega); have q147 : 1 < (l0_0.length : Int) := of_decide_eq_true y19; obtain ⟨ad147, A147_0, c147_0, e147, hx147_0, hl147_0, hi147_0⟩ := at_T30 HR0_0.out 1 p147 q147; obtain rfl : ad145 = ad147 := (by injection e147); (try simp only [show (1 : Int).toNat = 1 from rfl, Nat.reduceMul, Nat.reduceEqDiff, Go.Addr.add, ↓reduceIte] at hx147_0); have qi147 : (1 < l0_0.length) = True := eq_true (by omega); (try rw [show ((1 : Int)).toNat = 1 from rfl] at hx147_0); replace hx147_0 := (HB.out.cell (World.block_lt_of_cell? w _ hx147_0)).trans hx147_0; have HR147_0 := Aside0.mk hi147_0; have HC147_0 := Aside0.mk hl147_0; clear hi147_0 hl147_0; replace p147 := eq_true p147; replace q147 := eq_true q147) | (go_at_call 49; (with_reducible refine (ih k (by omega) _ _ ((rd_T30 l0_0 1).f0) (wrap64 (a1 - 1)) t148 _ ?side1 ?side2 A13.out).mono ?_); (case side1 => exact y8 HR147_0.out HB.out); (case side2 => exact HC147_0.out); rintro e w18 ⟨rfl, hb⟩; replace BK144 := zbb BK144 hb; replace HB := Aside0.mk (below_step (y3 HB.out GE144.out) hb); (try clear hb); (try clear hb2); (try clear hk); (try clear hi)))
       go_ret
       exact ⟨y14, (y3 HB.out GE144.out)⟩
      ·rw [if_neg c12] at H
       exact absurd H (by simp)
     ·replace c11 := Bool.eq_false_iff.mpr c11
      subst c11
      rw [if_neg (show ¬ (false = true) by decide)] at H
      obtain rfl := Option.some.inj H
      go_enter Try.func49, Try.ntmps49
      go_wp2_with (first | ((with_reducible refine gate_dst (N := 2) rfl ?_); refine zbx 2 #[.slice A0_0 l0_0.length c0_0] 30 ?_; intro gb144 hg w19 hbox hb; have BK144 := Aside0.mk hbox; have GW144 := Aside0.mk ((y5 hg HB.out : w.heap.size ≤ gb144)); have GE144 := Aside0.mk ((y5 hg HB.out : w.heap.size ≤ gb144)); replace HB := Aside0.mk (below_step (y2 HB.out) hb); clear hb hbox hg; have hcz20_0 := zh BK144; have hfz20_0 := zfr BK144 0; have p145 : 0 ≤ (0 : Int) := (by omega); have q145 : 0 < (l0_0.length : Int) := of_decide_eq_true y19; obtain ⟨ad145, A145_0, c145_0, e145, hx145_0, hl145_0, hi145_0⟩ := at_T30 HR0_0.out 0 p145 q145; cases e145; have qi145 : (0 < l0_0.length) = True := eq_true (by omega); (try rw [show ((0 : Int)).toNat = 0 from rfl] at hx145_0); (try rw [Addr.add_zero'] at hx145_0); replace hx145_0 := (HB.out.cell (World.block_lt_of_cell? w _ hx145_0)).trans hx145_0; have HR145_0 := Aside0.mk hi145_0; have HC145_0 := Aside0.mk hl145_0; clear hi145_0 hl145_0; replace p145 := eq_true p145; replace q145 := eq_true q145) | (go_at_call 49; (with_reducible refine (ih k (by omega) _ _ ((rd_T30 l0_0 0).f0) (wrap64 (a1 - 1)) false _ ?side1 ?side2 A10.out).mono ?_); (case side1 => exact y8 HR145_0.out HB.out); (case side2 => exact HC145_0.out); rintro e w21 ⟨rfl, hb⟩; replace BK144 := zbb BK144 hb; replace HB := Aside0.mk (below_step (y3 HB.out GE144.out) hb); (try clear hb); (try clear hb2); (try clear hk); (try clear hi)))
      go_ret
      exact ⟨y14, (y3 HB.out GE144.out)⟩
    ·rw [if_neg c9] at H
     exact absurd H (by simp)
   ·rw [if_neg c8] at H
    have c8b0 : ((l0_0.length : Int) == 2) = false := beq_eq_false_iff_ne.mpr c8
    have c8b1 : ((l0_0.length : Int) != 2) = true := bne_iff_ne.mpr c8
    obtain rfl := Option.some.inj H
    go_enter Try.func49, Try.ntmps49
    go_wp2_with (first | ((with_reducible refine gate_dst (N := 2) rfl ?_); refine zbx 2 #[.slice A0_0 l0_0.length c0_0] 30 ?_; intro gb144 hg w22 hbox hb; have BK144 := Aside0.mk hbox; have GW144 := Aside0.mk ((y5 hg HB.out : w.heap.size ≤ gb144)); have GE144 := Aside0.mk ((y5 hg HB.out : w.heap.size ≤ gb144)); replace HB := Aside0.mk (below_step (y2 HB.out) hb); clear hb hbox hg; have hcz23_0 := zh BK144; have hfz23_0 := zfr BK144 0))
    go_ret
    exact ⟨y14, (y3 HB.out GE144.out)⟩
end Go.Proofs.Ytjhbhihfifhljaa.PA
end
section
namespace Go.Proofs.Ytjhbhihfifhljaa.PA
open Go.RowKit Go.Proofs.YtjhbhihfifhljaaW.PrintWords Go.Proofs.YtjhbhihfifhljaaW.PrintLast Go.Proofs.YtjhbhihfifhljaaW.PrintMore
attribute [local go_sem] max2_int min2_int max_two min_two max_three min_three max_four min_four
set_option linter.unusedVariables false
set_option linter.unusedSimpArgs false
def impl_TypeOk.f (k : Nat) (l0_0 : List (S30)) : Option (Bool) := (impl_typeFits.f k l0_0 4).bind fun t150 => (some t150)
theorem impl_TypeOk.mono : ∀ a0 k, LeO (impl_TypeOk.f k a0) (impl_TypeOk.f (k + 1) a0) := by
 intro a0 k
 unfold impl_TypeOk.f
 repeat' first
   | (with_reducible exact impl_typeFits.mono _ _ _)
   | (with_reducible exact LeO.refl _)
   | (with_reducible exact LeO.none _)
   | (with_reducible refine LeO.ite ?_ ?_)
   | (with_reducible refine LeO.bind ?_ (fun _ => ?_))
   | exact impl_typeFits.mono _ _ _
   | exact LeO.none _
   | refine LeO.ite ?_ ?_
   | refine LeO.bind ?_ (fun _ => ?_)
set_option maxHeartbeats 8000000 in
set_option maxRecDepth 100000 in
theorem impl_TypeOk.calls (k : Nat) (A0_0 : Option Addr) (c0_0 : Nat) (l0_0 : List (S30)) (r : Bool) (w : World) (hr0_0 : Kd.C k30 w A0_0 l0_0.length l0_0) (hc0_0 : l0_0.length ≤ c0_0) (h : impl_TypeOk.f k l0_0 = some r) :
  Calls Try.prog 18 #[.agg #[.slice A0_0 l0_0.length c0_0]] w fun e w' => e = .returned (.bool r) ∧ Below w.heap.size w w' := by
 have hu30 := Try.underlying30
 have HR0_0 := Aside0.mk hr0_0
 have HC0_0 := Aside0.mk hc0_0
 clear hr0_0 hc0_0
 have HB := Aside0.mk (Below.refl w.heap.size w)
 have H : ((impl_typeFits.f k l0_0 4).bind fun t150 => (some t150)) = some r := h
 clear h
 obtain ⟨t150, A20, H⟩ := ob H
 have A2 := Aside0.mk A20
 clear A20
 obtain rfl := Option.some.inj H
 go_enter Try.func18, Try.ntmps18
 go_wp2_with (first | ((with_reducible refine gate_dst (N := 1) rfl ?_); refine zbx 1 #[.slice A0_0 l0_0.length c0_0] 30 ?_; intro gb149 hg w3 hbox hb; have BK149 := Aside0.mk hbox; have GW149 := Aside0.mk ((y5 hg HB.out : w.heap.size ≤ gb149)); have GE149 := Aside0.mk ((y5 hg HB.out : w.heap.size ≤ gb149)); replace HB := Aside0.mk (below_step (y2 HB.out) hb); clear hb hbox hg; have hcz4_0 := zh BK149; have hfz4_0 := zfr BK149 0) | ((with_reducible refine gate_callee (f := 49) rfl ?_); refine goesL_ (some 4) rfl rfl Try.func49 (by kernel_rfl) rfl #[.agg #[.slice A0_0 l0_0.length c0_0], .int .i64 4] rfl y4 ?_; (with_reducible refine (impl_typeFits.calls k _ _ l0_0 4 t150 _ ?side1 ?side2 A2.out).mono ?_); (case side1 => exact y8 HR0_0.out HB.out); (case side2 => exact HC0_0.out); rintro e w5 ⟨rfl, hb⟩; refine ⟨_, rfl, ?_⟩; replace BK149 := zbb BK149 hb; replace HB := Aside0.mk (below_step (y3 HB.out GE149.out) hb); (try clear hb); (try clear hb2); (try clear hk); (try clear hi)))
 go_ret
 exact ⟨y14, (y3 HB.out GE149.out)⟩
end Go.Proofs.Ytjhbhihfifhljaa.PA
end
section
namespace Go.Proofs.Ytjhbhihfifhljaa.PA
open Go.RowKit Go.Proofs.YtjhbhihfifhljaaW.PrintWords Go.Proofs.YtjhbhihfifhljaaW.PrintLast Go.Proofs.YtjhbhihfifhljaaW.PrintMore
attribute [local go_sem] max2_int min2_int max_two min_two max_three min_three max_four min_four
set_option linter.unusedVariables false
set_option linter.unusedSimpArgs false
mutual
def impl_valType.j0 : Nat → Int → Bool → Int → List (S55) → Option ((List (S30)) × Bool)
 | 0, _, _, _, _ => none
 | k + 1, x1, x34, x709000, x709001 => if x34 = true then (some (([] : List (S30)), false)) else (if 0 < (x709001.length : Int) then ((impl_valType.f k ((rd_T55 x709001 0).f0) ((rd_T55 x709001 0).f1) (wrap64 (x1 - 1))).bind fun bt711 => (if 1 < (x709001.length : Int) then ((impl_valType.f k ((rd_T55 x709001 1).f0) ((rd_T55 x709001 1).f1) (wrap64 (x1 - 1))).bind fun bt717 => (if bt711.2 = true then (if bt717.2 = true then (some ((([(⟨bt711.1⟩ : S30), (⟨bt717.1⟩ : S30)] : List (S30))), true)) else (some (([] : List (S30)), false))) else (some (([] : List (S30)), false)))) else (none))) else (none))
def impl_valType.f : Nat → Int → List (S55) → Int → Option ((List (S30)) × Bool)
 | 0, _, _, _ => none
 | k + 1, a0_0, l0_1, a1 => if a1 < 1 then (some (([] : List (S30)), false)) else (if (l0_1.length : Int) = 0 then (if a0_0 ≥ 0 then (some (([] : List (S30)), decide (a0_0 ≤ 9999))) else (some (([] : List (S30)), false))) else (if (l0_1.length : Int) = 2 then (impl_valType.j0 k a1 (a0_0 != 0) a0_0 l0_1) else (impl_valType.j0 k a1 true a0_0 l0_1)))
end
theorem impl_valType.mono_l : ∀ k, (∀ y0 y1 y2, LeO (impl_valType.f k y0 y1 y2) (impl_valType.f (k + 1) y0 y1 y2)) ∧ (∀ y0 y1 y2 y3, LeO (impl_valType.j0 k y0 y1 y2 y3) (impl_valType.j0 (k + 1) y0 y1 y2 y3))
 | 0 => ⟨fun _ _ _ r h => by simp [impl_valType.f] at h, fun _ _ _ _ r h => by simp [impl_valType.j0] at h⟩
 | k + 1 => by
  obtain ⟨ih0, ih1⟩ := impl_valType.mono_l k
  refine ⟨?_, ?_⟩
  ·intro y0 y1 y2
   unfold impl_valType.f
   repeat' first
   | (with_reducible exact ih0 _ _ _)
   | (with_reducible exact ih1 _ _ _ _)
   | (with_reducible exact LeO.refl _)
   | (with_reducible exact LeO.none _)
   | (with_reducible refine LeO.ite ?_ ?_)
   | (with_reducible refine LeO.bind ?_ (fun _ => ?_))
   | exact ih0 _ _ _
   | exact ih1 _ _ _ _
   | exact LeO.none _
   | refine LeO.ite ?_ ?_
   | refine LeO.bind ?_ (fun _ => ?_)
  ·intro y0 y1 y2 y3
   unfold impl_valType.j0
   repeat' first
   | (with_reducible exact ih0 _ _ _)
   | (with_reducible exact ih1 _ _ _ _)
   | (with_reducible exact LeO.refl _)
   | (with_reducible exact LeO.none _)
   | (with_reducible refine LeO.ite ?_ ?_)
   | (with_reducible refine LeO.bind ?_ (fun _ => ?_))
   | exact ih0 _ _ _
   | exact ih1 _ _ _ _
   | exact LeO.none _
   | refine LeO.ite ?_ ?_
   | refine LeO.bind ?_ (fun _ => ?_)
theorem impl_valType.mono : ∀ a0 a1 a2 k, LeO (impl_valType.f k a0 a1 a2) (impl_valType.f (k + 1) a0 a1 a2) := by
 intro a0 a1 a2 k
 obtain ⟨ih0, ih1⟩ := impl_valType.mono_l k
 exact ih0 a0 a1 a2
def impl_valType.T4 : Bool × List (List Nat × List Nat) := (true, [([], []), ([], []), ([1], [1]), ([2], [2]), ([3], [3]), ([4], [4]), ([5, 4], [4, 5]), ([6, 4], [4, 6]), ([4, 7], [4, 7]), ([0, 4, 0], [0]), ([8, 9, 0, 1, 2, 3, 4, 5, 6, 7, 8, 9], [8])])
def impl_valType.B4 : List Nat := [0, 0, 2, 6, 14, 30, 62, 126, 254, 31, 1023]
theorem impl_valType.tab4 : rtab .any (opsOf Try.f88 4) = impl_valType.T4 := by kernel_rfl
theorem impl_valType.bits4 : waitsOk impl_valType.T4.2 impl_valType.B4 = true := by kernel_rfl
set_option maxHeartbeats 8000000 in
set_option maxRecDepth 100000 in
theorem impl_valType.calls (k : Nat) : ∀ (a0_0 : Int) (A0_1 : Option Addr) (c0_1 : Nat) (l0_1 : List (S55)) (a1 : Int) (r1 : List (S30)) (r2 : Bool) (w : World) (hr0_1 : Kd.C k55 w A0_1 l0_1.length l0_1) (hc0_1 : l0_1.length ≤ c0_1) (h : impl_valType.f k a0_0 l0_1 a1 = some (r1, r2)),
  Calls Try.prog 88 #[.agg #[.int .i64 a0_0, .slice A0_1 l0_1.length c0_1], .int .i64 a1] w fun e w' => ∃ v0_ : Value, e = .returned (.tuple #[.agg #[v0_], .bool r2]) ∧ Kd.N k30 30 w' w.heap.size (fun k_ => (w.heap.size ≤ k_)) v0_ r1 ∧ Below w.heap.size w w' := by
 induction k using Nat.strongRecOn with
 | _ k ih =>
 intro a0_0 A0_1 c0_1 l0_1 a1 r1 r2 w hr0_1 hc0_1 h
 cases k with
 | zero => exact absurd h (by simp [impl_valType.f])
 | succ k =>
 simp only [impl_valType.f] at h
 have hu55 := Try.underlying55
 have hu30 := Try.underlying30
 have HR0_1 := Aside0.mk hr0_1
 have HC0_1 := Aside0.mk hc0_1
 clear hr0_1 hc0_1
 have HB := Aside0.mk (Below.refl w.heap.size w)
 have H : (if a1 < 1 then (some (([] : List (S30)), false)) else (if (l0_1.length : Int) = 0 then (if a0_0 ≥ 0 then (some (([] : List (S30)), decide (a0_0 ≤ 9999))) else (some (([] : List (S30)), false))) else (if (l0_1.length : Int) = 2 then (impl_valType.j0 k a1 (a0_0 != 0) a0_0 l0_1) else (impl_valType.j0 k a1 true a0_0 l0_1)))) = some (r1, r2) := h
 clear h
 by_cases c3 : a1 < 1
 ·rw [if_pos c3] at H
  have c3b0 : decide (a1 < 1) = true := decide_eq_true c3
  clear c3
  simp only [Option.some.injEq, Prod.mk.injEq] at H
  obtain ⟨rfl, rfl⟩ := H
  go_enter Try.func88, Try.ntmps88
  go_wp2_with (first | ((with_reducible refine gate_dst (N := 2) rfl ?_); refine zbx 2 #[.int .i64 a0_0, .slice A0_1 l0_1.length c0_1] 55 ?_; intro gb708 hg w4 hbox hb; have BK708 := Aside0.mk hbox; have GW708 := Aside0.mk ((y5 hg HB.out : w.heap.size ≤ gb708)); have GE708 := Aside0.mk ((y5 hg HB.out : w.heap.size ≤ gb708)); replace HB := Aside0.mk (below_step (y2 HB.out) hb); clear hb hbox hg) | ((with_reducible refine gate_dst (N := 4) rfl ?_); refine zbx 4 #[.slice none 0 0] 30 ?_; intro gb709 hg w5 hbox hb; have BK709 := Aside0.mk hbox; have GW709 := Aside0.mk ((y6 hg HB.out GE708.out : w.heap.size ≤ gb709)); have GE709 := Aside0.mk ((y6 hg HB.out GE708.out : w.heap.size ≤ gb709)); replace HB := Aside0.mk (below_step (y3 HB.out GE708.out) hb); have NB708_709 := zltn hg BK708; have NB709_708 := zgtn hg BK708; replace BK708 := zbb BK708 hb; clear hb hbox hg; have hnb6 := NB709_708.out; have hnc6 := NB708_709.out; have hcz7_0 := zh BK709; have hfz7_0 := zfr BK709 0))
  refine bodyPost_ret (results_ct rfl _ _ gb709 30 #[.slice none 0 0] (0, 0) _ rfl (by (with_reducible repeat (first | refine blk_drewN ?_ _ | refine blk_drew ?_ | refine blk_alloc ?_ _)); apply blk_put (i := 0); (case h => exact y0 BK709.out); (case e => rfl)) Try.underlying30 rfl (by kernel_rfl)) rfl ?_
  exact ⟨_, y14, y36, (y1 HB.out GE708.out GE709.out)⟩
 ·rw [if_neg c3] at H
  have c3b0 : decide (a1 < 1) = false := decide_eq_false c3
  clear c3
  by_cases c8 : (l0_1.length : Int) = 0
  ·rw [if_pos c8] at H
   have c8b0 : ((l0_1.length : Int) == 0) = true := beq_iff_eq.mpr c8
   have c8b1 : ((l0_1.length : Int) != 0) = false := bne_eq_false_iff_eq.mpr c8
   clear c8
   by_cases c9 : a0_0 ≥ 0
   ·rw [if_pos c9] at H
    have c9b0 : decide (0 ≤ a0_0) = true := decide_eq_true c9
    clear c9
    simp only [Option.some.injEq, Prod.mk.injEq] at H
    obtain ⟨rfl, rfl⟩ := H
    go_enter Try.func88, Try.ntmps88
    try go_wp2_with (first | ((with_reducible refine gate_dst (N := 2) rfl ?_); refine zbx 2 #[.int .i64 a0_0, .slice A0_1 l0_1.length c0_1] 55 ?_; intro gb708 hg w10 hbox hb; have BK708 := Aside0.mk hbox; have GW708 := Aside0.mk ((y5 hg HB.out : w.heap.size ≤ gb708)); have GE708 := Aside0.mk ((y5 hg HB.out : w.heap.size ≤ gb708)); replace HB := Aside0.mk (below_step (y2 HB.out) hb); clear hb hbox hg) | ((with_reducible refine gate_dst (N := 4) rfl ?_); refine zbx 4 #[.slice none 0 0] 30 ?_; intro gb709 hg w11 hbox hb; have BK709 := Aside0.mk hbox; have GW709 := Aside0.mk ((y6 hg HB.out GE708.out : w.heap.size ≤ gb709)); have GE709 := Aside0.mk ((y6 hg HB.out GE708.out : w.heap.size ≤ gb709)); replace HB := Aside0.mk (below_step (y3 HB.out GE708.out) hb); have NB708_709 := zltn hg BK708; have NB709_708 := zgtn hg BK708; replace BK708 := zbb BK708 hb; clear hb hbox hg; have hnb12 := NB708_709.out; have hnc12 := NB709_708.out; have hcz13_0 := zh BK708; have hcz13_1 := zh1 BK708; have hfz13_0 := zfr BK708 0; have hfz13_1 := zfr BK708 1))
    replace BK708 := Aside0.mk (blk_drew BK708.out)
    replace BK709 := Aside0.mk (blk_drew BK709.out)
    replace HB := Aside0.mk (below_drew1 HB.out)
    refine start_ (n := 11) (S := fun w' => w'.cell? ⟨gb708, 0, none⟩ = some (.int .i64 a0_0) ∧ w'.cell? ⟨gb708, 1, none⟩ = some (.slice A0_1 l0_1.length c0_1)) (ds := []) #[false, false, false, false, false, false, false, false, false, false, false] (by kernel_rfl) rfl rfl ⟨(blk_cell BK708.out 0).trans rfl, (blk_cell BK708.out 1).trans rfl⟩ (fun hHeld => ?_); refine with_tabW impl_valType.tab4 impl_valType.bits4 (fun HT_ HW_ => ?_)
    generalize w11.drew = w14 at BK708 BK709 HB hHeld ⊢
    refine zp 0 (some 17) HT_ ?_
    refine zp 1 (some 18) HT_ ?_
    refine zt2 2 (some 19) HT_ HW_ hHeld ?_
    refine zp 3 (some 20) HT_ ?_
    refine zp 4 (some 21) HT_ ?_
    refine zp 5 (some 22) HT_ ?_
    refine zt2 6 (some 23) HT_ HW_ hHeld ?_
    refine zp 7 (some 24) HT_ ?_
    refine zp 8 (some 25) HT_ ?_
    refine one_ (i := 9) (N := none) #[true, true, true, true, true, true, true, true, true, true, false] rfl rfl (one_of HT_.out (by kernel_rfl)) (by decide) (fun K hK => ?_)
    have hs15 : w14.cell? ⟨gb709, 0, none⟩ = some (.slice none 0 0) := (blk_cell BK709.out 0).trans rfl
    have hfs15 := zfr BK709 0
    have hns15_0 := NB708_709.out
    have hms15_0 := NB709_708.out
    refine skip_ (w1 := ?_) (by rfl) rfl ?_ ?_
    rotate_left
    ·go_simp
     rfl
    refine hK.out _ _ ⟨((cell_far (p := ⟨gb709, _, none⟩) NB708_709.out _).trans (hHeld.1)), ((cell_far (p := ⟨gb709, _, none⟩) NB708_709.out _).trans (hHeld.2))⟩ (fun hHeld => ?_)
    clear hK K
    refine zp 10 (some 5) HT_ ?_
    refine done_ (done_of HT_.out (by kernel_rfl)) ?_
    try go_wp2
    refine bodyPost_ret (results_ct rfl _ _ gb709 30 #[.slice none 0 0] (0, 0) _ rfl (by (with_reducible repeat (first | refine blk_drewN ?_ _ | refine blk_drew ?_ | refine blk_alloc ?_ _)); apply blk_put (i := 0); (case h => exact y0 BK709.out); (case e => rfl)) Try.underlying30 rfl (by kernel_rfl)) rfl ?_
    exact ⟨_, y14, y36, (y1 HB.out GE708.out GE709.out)⟩
   ·rw [if_neg c9] at H
    have c9b0 : decide (0 ≤ a0_0) = false := decide_eq_false c9
    clear c9
    simp only [Option.some.injEq, Prod.mk.injEq] at H
    obtain ⟨rfl, rfl⟩ := H
    go_enter Try.func88, Try.ntmps88
    try go_wp2_with (first | ((with_reducible refine gate_dst (N := 2) rfl ?_); refine zbx 2 #[.int .i64 a0_0, .slice A0_1 l0_1.length c0_1] 55 ?_; intro gb708 hg w16 hbox hb; have BK708 := Aside0.mk hbox; have GW708 := Aside0.mk ((y5 hg HB.out : w.heap.size ≤ gb708)); have GE708 := Aside0.mk ((y5 hg HB.out : w.heap.size ≤ gb708)); replace HB := Aside0.mk (below_step (y2 HB.out) hb); clear hb hbox hg) | ((with_reducible refine gate_dst (N := 4) rfl ?_); refine zbx 4 #[.slice none 0 0] 30 ?_; intro gb709 hg w17 hbox hb; have BK709 := Aside0.mk hbox; have GW709 := Aside0.mk ((y6 hg HB.out GE708.out : w.heap.size ≤ gb709)); have GE709 := Aside0.mk ((y6 hg HB.out GE708.out : w.heap.size ≤ gb709)); replace HB := Aside0.mk (below_step (y3 HB.out GE708.out) hb); have NB708_709 := zltn hg BK708; have NB709_708 := zgtn hg BK708; replace BK708 := zbb BK708 hb; clear hb hbox hg; have hnb18 := NB708_709.out; have hnc18 := NB709_708.out; have hcz19_0 := zh BK708; have hcz19_1 := zh1 BK708; have hfz19_0 := zfr BK708 0; have hfz19_1 := zfr BK708 1))
    replace BK708 := Aside0.mk (blk_drew BK708.out)
    replace BK709 := Aside0.mk (blk_drew BK709.out)
    replace HB := Aside0.mk (below_drew1 HB.out)
    refine start_ (n := 11) (S := fun w' => w'.cell? ⟨gb708, 0, none⟩ = some (.int .i64 a0_0) ∧ w'.cell? ⟨gb708, 1, none⟩ = some (.slice A0_1 l0_1.length c0_1)) (ds := []) #[false, false, false, false, false, false, false, false, false, false, false] (by kernel_rfl) rfl rfl ⟨(blk_cell BK708.out 0).trans rfl, (blk_cell BK708.out 1).trans rfl⟩ (fun hHeld => ?_); refine with_tabW impl_valType.tab4 impl_valType.bits4 (fun HT_ HW_ => ?_)
    generalize w17.drew = w20 at BK708 BK709 HB hHeld ⊢
    refine zp 0 (some 17) HT_ ?_
    refine zp 1 (some 18) HT_ ?_
    refine zt2 2 (some 19) HT_ HW_ hHeld ?_
    refine zp 3 (some 20) HT_ ?_
    refine zp 4 (some 21) HT_ ?_
    refine pure_ (i := 5) (N := some 22) (v := undef) (a' := ?_) #[true, true, true, true, true, true, false, false, false, false, false] rfl rfl (any_of HT_.out (by kernel_rfl)) (fun _ _ _ h => h) (Or.inr ⟨(by rfl), rfl⟩) ?_ ?_
    rotate_left
    ·simp only [Act.put, List.setIfInBounds_toArray, List.set_cons_zero, List.set_cons_succ, i64_w, i32_w]
     rfl
    refine pure_ (i := 6) (N := some 23) (v := undef) (a' := ?_) #[true, true, true, true, true, true, true, false, false, false, false] rfl rfl (any_of HT_.out (by kernel_rfl)) (fun _ _ _ h => h) (Or.inr ⟨(by rfl), rfl⟩) ?_ ?_
    rotate_left
    ·simp only [Act.put, List.setIfInBounds_toArray, List.set_cons_zero, List.set_cons_succ, i64_w, i32_w]
     rfl
    refine pure_ (i := 7) (N := some 24) (v := undef) (a' := ?_) #[true, true, true, true, true, true, true, true, false, false, false] rfl rfl (any_of HT_.out (by kernel_rfl)) (fun _ _ _ h => h) (Or.inr ⟨(by rfl), rfl⟩) ?_ ?_
    rotate_left
    ·simp only [Act.put, List.setIfInBounds_toArray, List.set_cons_zero, List.set_cons_succ, i64_w, i32_w]
     rfl
    refine zp 8 (some 25) HT_ ?_
    refine one_ (i := 9) (N := none) #[true, true, true, true, true, true, true, true, true, true, false] rfl rfl (one_of HT_.out (by kernel_rfl)) (by decide) (fun K hK => ?_)
    have hs21 : w20.cell? ⟨gb709, 0, none⟩ = some (.slice none 0 0) := (blk_cell BK709.out 0).trans rfl
    have hfs21 := zfr BK709 0
    have hns21_0 := NB708_709.out
    have hms21_0 := NB709_708.out
    refine skip_ (w1 := ?_) (by rfl) rfl ?_ ?_
    rotate_left
    ·go_simp
     rfl
    refine hK.out _ _ ⟨((cell_far (p := ⟨gb709, _, none⟩) NB708_709.out _).trans (hHeld.1)), ((cell_far (p := ⟨gb709, _, none⟩) NB708_709.out _).trans (hHeld.2))⟩ (fun hHeld => ?_)
    clear hK K
    refine zp 10 (some 5) HT_ ?_
    refine done_ (done_of HT_.out (by kernel_rfl)) ?_
    try go_wp2
    refine bodyPost_ret (results_ct rfl _ _ gb709 30 #[.slice none 0 0] (0, 0) _ rfl (by (with_reducible repeat (first | refine blk_drewN ?_ _ | refine blk_drew ?_ | refine blk_alloc ?_ _)); apply blk_put (i := 0); (case h => exact y0 BK709.out); (case e => rfl)) Try.underlying30 rfl (by kernel_rfl)) rfl ?_
    exact ⟨_, y14, y36, (y1 HB.out GE708.out GE709.out)⟩
  ·rw [if_neg c8] at H
   have c8b0 : ((l0_1.length : Int) == 0) = false := beq_eq_false_iff_ne.mpr c8
   have c8b1 : ((l0_1.length : Int) != 0) = true := bne_iff_ne.mpr c8
   have c8b2 : ¬ (l0_1 = []) := fun h_ => c8 (by rw [h_]; rfl)
   have HC22 := Aside0.mk H
   clear H
   go_enter Try.func88, Try.ntmps88
   go_upto_region 5 with (first | ((with_reducible refine gate_dst (N := 2) rfl ?_); refine zbx 2 #[.int .i64 a0_0, .slice A0_1 l0_1.length c0_1] 55 ?_; intro gb708 hg w23 hbox hb; have BK708 := Aside0.mk hbox; have GW708 := Aside0.mk ((y5 hg HB.out : w.heap.size ≤ gb708)); have GE708 := Aside0.mk ((y5 hg HB.out : w.heap.size ≤ gb708)); replace HB := Aside0.mk (below_step (y2 HB.out) hb); clear hb hbox hg) | ((with_reducible refine gate_dst (N := 4) rfl ?_); refine zbx 4 #[.slice none 0 0] 30 ?_; intro gb709 hg w24 hbox hb; have BK709 := Aside0.mk hbox; have GW709 := Aside0.mk ((y6 hg HB.out GE708.out : w.heap.size ≤ gb709)); have GE709 := Aside0.mk ((y6 hg HB.out GE708.out : w.heap.size ≤ gb709)); replace HB := Aside0.mk (below_step (y3 HB.out GE708.out) hb); have NB708_709 := zltn hg BK708; have NB709_708 := zgtn hg BK708; replace BK708 := zbb BK708 hb; clear hb hbox hg; have hnb25 := NB708_709.out; have hnc25 := NB709_708.out; have hcz26_0 := zh BK708; have hcz26_1 := zh1 BK708; have hfz26_0 := zfr BK708 0; have hfz26_1 := zfr BK708 1))
   (try simp only [Act.put, List.setIfInBounds_toArray, List.set_cons_zero, List.set_cons_succ])
   go_cut [34] (fun v34 wc => ∃ (kq : Nat) (x34_21 : Bool), v34 = .bool x34_21 ∧ Aside0 (impl_valType.j0 kq a1 x34_21 a0_0 l0_1 = some (r1, r2)) ∧ Aside0 (kq ≤ k) ∧ Aside0 (wc.heap[gb708]? = some (.cells #[.int .i64 a0_0, (.slice A0_1 l0_1.length c0_1)] 55 (0, 0))) ∧ Aside0 (wc.heap[gb709]? = some (.cells #[(.slice none 0 0)] 30 (0, 0))) ∧ Aside0 (Below w.heap.size w wc))
   case first =>
    have H := HC22.out
    clear HC22
    by_cases c27 : (l0_1.length : Int) = 2
    ·rw [if_pos c27] at H
     have c27b0 : ((l0_1.length : Int) == 2) = true := beq_iff_eq.mpr c27
     have c27b1 : ((l0_1.length : Int) != 2) = false := bne_eq_false_iff_eq.mpr c27
     clear c27
     (first | rw [c27b0] | (simp only [i64_w, i32_w]; rw [c27b0]) | skip)
     have H' := Aside0.mk H
     clear H
     have hnb28 := NB708_709.out
     have hnc28 := NB709_708.out
     have hcz29_0 := zh BK708
     have hcz29_1 := zh1 BK708
     have hfz29_0 := zfr BK708 0
     have hfz29_1 := zfr BK708 1
     go_wp2
     go_meet
     case rel => exact ⟨_, ((a0_0 != 0)), y26, H', ⟨y43⟩, ⟨(y0 BK708.out)⟩, ⟨(y0 BK709.out)⟩, ⟨(y1 HB.out GE708.out GE709.out)⟩⟩
    ·rw [if_neg c27] at H
     have c27b0 : ((l0_1.length : Int) == 2) = false := beq_eq_false_iff_ne.mpr c27
     have c27b1 : ((l0_1.length : Int) != 2) = true := bne_iff_ne.mpr c27
     (first | rw [c27b0] | (simp only [i64_w, i32_w]; rw [c27b0]) | skip)
     have H' := Aside0.mk H
     clear H
     have hnb30 := NB708_709.out
     have hnc30 := NB709_708.out
     have hcz31_0 := zh BK708
     have hcz31_1 := zh1 BK708
     have hfz31_0 := zfr BK708 0
     have hfz31_1 := zfr BK708 1
     go_wp2
     go_meet
     case rel => exact ⟨_, (true), y26, H', ⟨y43⟩, ⟨(y0 BK708.out)⟩, ⟨(y0 BK709.out)⟩, ⟨(y1 HB.out GE708.out GE709.out)⟩⟩
   case rest =>
    clear HC22
    try clear c1
    try clear c2
    try clear p2
    try clear c3
    try clear c3b0
    try clear c6
    try clear c8
    try clear c8b0
    try clear c8b1
    try clear c8b2
    try clear c9
    try clear c9b0
    try clear c12
    try clear c18
    try clear c25
    try clear c27
    try clear c27b0
    try clear c27b1
    try clear c28
    try clear c30
    try clear hcz13_0
    try clear hcz13_1
    try clear hcz19_0
    try clear hcz19_1
    try clear hcz26_0
    try clear hcz26_1
    try clear hcz29_0
    try clear hcz29_1
    try clear hcz31_0
    try clear hcz31_1
    try clear hcz7_0
    try clear hfz13_0
    try clear hfz13_1
    try clear hfz19_0
    try clear hfz19_1
    try clear hfz26_0
    try clear hfz26_1
    try clear hfz29_0
    try clear hfz29_1
    try clear hfz31_0
    try clear hfz31_1
    try clear hfz7_0
    obtain ⟨kq, x34_21, rfl, HA, HJ21, BK708, BK709, HB⟩ := hcut
    cases kq with
    | zero => exact absurd HA.out (by simp [impl_valType.j0])
    | succ kj21 =>
     have H := HA.out
     clear HA
     simp only [impl_valType.j0] at H
     by_cases c32 : x34_21 = true
     ·subst c32
      rw [if_pos rfl] at H
      simp only [Option.some.injEq, Prod.mk.injEq] at H
      obtain ⟨rfl, rfl⟩ := H
      have hnb33 := NB709_708.out
      have hnc33 := NB708_709.out
      have hcz34_0 := zh BK709
      have hfz34_0 := zfr BK709 0
      go_wp2
      refine bodyPost_ret (results_ct rfl _ _ gb709 30 #[.slice none 0 0] (0, 0) _ rfl (by (with_reducible repeat (first | refine blk_drewN ?_ _ | refine blk_drew ?_ | refine blk_alloc ?_ _)); apply blk_put (i := 0); (case h => exact y0 BK709.out); (case e => rfl)) Try.underlying30 rfl (by kernel_rfl)) rfl ?_
      exact ⟨_, y14, y36, (y1 HB.out GE708.out GE709.out)⟩
     ·replace c32 := Bool.eq_false_iff.mpr c32
      subst c32
      rw [if_neg (show ¬ (false = true) by decide)] at H
      by_cases c35 : 0 < (l0_1.length : Int)
      ·rw [if_pos c35] at H
       have c35b0 : decide (0 < (l0_1.length : Int)) = true := decide_eq_true c35
       have c35b1 : decide (0 < l0_1.length) = true := decide_eq_true (by omega)
       clear c35
       obtain ⟨⟨t711, t714⟩, A360, H⟩ := ob H
       have A36 := Aside0.mk A360
       clear A360
       by_cases c37 : 1 < (l0_1.length : Int)
       ·rw [if_pos c37] at H
        have c37b0 : decide (1 < (l0_1.length : Int)) = true := decide_eq_true c37
        have c37b1 : decide (1 < l0_1.length) = true := decide_eq_true (by omega)
        clear c37
        obtain ⟨⟨t717, t720⟩, A380, H⟩ := ob H
        have A38 := Aside0.mk A380
        clear A380
        by_cases c39 : t714 = true
        ·subst c39
         rw [if_pos rfl] at H
         by_cases c40 : t720 = true
         ·subst c40
          rw [if_pos rfl] at H
          obtain ⟨y722, hy722⟩ : ∃ y_ : List (S30), y_ = (([(⟨t711⟩ : S30), (⟨t717⟩ : S30)] : List (S30))) := ⟨_, rfl⟩
          replace H : (some (y722, true)) = some (r1, r2) := by first | (rw [hy722]; with_reducible exact H) | (have H2_ := (Option.bind_some _ _).symm.trans H; rw [hy722]; with_reducible exact H2_) | (have H2_ := (Option.bind_some _ _).symm.trans H; with_reducible exact H2_) | with_reducible exact H | (rw [hy722]; exact H) | exact H
          have Ny722 := Aside0.mk hy722
          clear hy722
          simp only [Option.some.injEq, Prod.mk.injEq] at H
          obtain ⟨rfl, rfl⟩ := H
          have hnb41 := NB708_709.out
          have hnc41 := NB709_708.out
          have hcz42_0 := zh BK708
          have hcz42_1 := zh1 BK708
          have hfz42_0 := zfr BK708 0
          have hfz42_1 := zfr BK708 1
          have p710 : 0 ≤ (0 : Int) := (by omega)
          have q710 : 0 < (l0_1.length : Int) := of_decide_eq_true y19
          obtain ⟨ad710, A710_1, c710_1, e710, hx710_0, hx710_1, hl710_1, hi710_1⟩ := at_T55 HR0_1.out 0 p710 q710
          cases e710
          have qi710 : (0 < l0_1.length) = True := eq_true (by omega)
          (try rw [show ((0 : Int)).toNat = 0 from rfl] at hx710_0)
          (try rw [show 0 * 2 = 0 from rfl] at hx710_0)
          (try rw [Addr.add_zero'] at hx710_0)
          (try rw [show ((0 : Int)).toNat = 0 from rfl] at hx710_1)
          (try rw [show 0 * 2 = 0 from rfl] at hx710_1)
          (try rw [Addr.add_zero'] at hx710_1)
          replace hx710_0 := (HB.out.cell (World.block_lt_of_cell? w _ hx710_0)).trans hx710_0
          replace hx710_1 := (HB.out.cell (World.block_lt_of_cell? w _ hx710_1)).trans hx710_1
          have HR710_1 := Aside0.mk hi710_1
          have HC710_1 := Aside0.mk hl710_1
          clear hi710_1 hl710_1
          replace p710 := eq_true p710
          replace q710 := eq_true q710
          go_wp2_with (first | ((with_reducible refine gate_callee (f := 88) rfl ?_); refine goesL_ (some 43) rfl rfl Try.func88 (by kernel_rfl) rfl #[.agg #[.int .i64 ((rd_T55 l0_1 0).f0), .slice A710_1 ((rd_T55 l0_1 0).f1).length c710_1], .int .i64 (wrap64 (a1 - 1))] rfl y4 ?_; (with_reducible refine (ih kj21 (y46 HJ21.out) ((rd_T55 l0_1 0).f0) _ _ ((rd_T55 l0_1 0).f1) (wrap64 (a1 - 1)) t711 true _ ?side1 ?side2 A36.out).mono ?_); (case side1 => exact y8 HR710_1.out HB.out); (case side2 => exact HC710_1.out); rintro e w43 ⟨v712, rfl, ho0, hb⟩; refine ⟨_, rfl, ?_⟩; have HO713 := Aside0.mk (Kd.N_lower (Kd.N_mono (ok' := fun k_ => (w.heap.size ≤ k_) ∧ k_ ≠ gb708 ∧ k_ ≠ gb709) ho0 (fun k_ hk_ => ⟨(Nat.le_trans (below_size (y1 HB.out GE708.out GE709.out)) hk_), (Kd.freshB (g := gb708) (o := .cells #[.int .i64 a0_0, .slice (some ad710) l0_1.length c0_1] 55 (0, 0)) (y0 BK708.out) k_ hk_), (Kd.freshB (g := gb709) (o := .cells #[.slice none 0 0] 30 (0, 0)) (y0 BK709.out) k_ hk_)⟩)) (below_size (y1 HB.out GE708.out GE709.out))); replace BK708 := zbb BK708 hb; replace BK709 := zbb BK709 hb; replace HB := Aside0.mk (below_step (y1 HB.out GE708.out GE709.out) hb); (try clear hb); (try clear hb2); (try clear hk); (try clear hi); (try clear ho0)) | ((with_reducible refine gate_dst (N := 6) rfl ?_); refine zbx 6 #[.slice none 0 0] 30 ?_; intro gb715 hg w44 hbox hb; replace HO713 := Aside0.mk (Kd.N_below (Kd.N_elderB (y9 HO713.out) gb715 (Nat.le_of_eq hg.symm)) hb); have BK715 := Aside0.mk hbox; have GW715 := Aside0.mk ((y20 hg HB.out GE708.out GE709.out : w.heap.size ≤ gb715)); have GE715 := Aside0.mk ((y20 hg HB.out GE708.out GE709.out : w.heap.size ≤ gb715)); replace HB := Aside0.mk (below_step (y1 HB.out GE708.out GE709.out) hb); have NB708_715 := zltn hg BK708; have NB715_708 := zgtn hg BK708; replace BK708 := zbb BK708 hb; have NB709_715 := zltn hg BK709; have NB715_709 := zgtn hg BK709; replace BK709 := zbb BK709 hb; clear hb hbox hg; obtain ⟨Ao45, co45, eo45⟩ := Kd.N_slice HO713.out; subst eo45; have hnb46 := NB715_708.out; have hnc46 := NB708_715.out; have hnb47 := NB715_709.out; have hnc47 := NB709_715.out; have hcz48_0 := zh BK715; have hfz48_0 := zfr BK715 0; have hcz49_0 := zh BK708; have hcz49_1 := zh1 BK708; have hfz49_0 := zfr BK708 0; have hfz49_1 := zfr BK708 1; have p716 : 0 ≤ (1 : Int) := (by omega); have q716 : 1 < (l0_1.length : Int) := of_decide_eq_true y19; obtain ⟨ad716, A716_1, c716_1, e716, hx716_0, hx716_1, hl716_1, hi716_1⟩ := at_T55 HR0_1.out 1 p716 q716; obtain rfl : ad710 = ad716 := (by injection e716); (try simp only [show (1 : Int).toNat = 1 from rfl, Nat.reduceMul, Nat.reduceEqDiff, Go.Addr.add, ↓reduceIte] at hx716_0); (try simp only [show (1 : Int).toNat = 1 from rfl, Nat.reduceMul, Nat.reduceEqDiff, Go.Addr.add, ↓reduceIte] at hx716_1); have qi716 : (1 < l0_1.length) = True := eq_true (by omega); (try rw [show ((1 : Int)).toNat = 1 from rfl] at hx716_0); (try rw [show 1 * 2 = 2 from rfl] at hx716_0); (try rw [show ((1 : Int)).toNat = 1 from rfl] at hx716_1); (try rw [show 1 * 2 = 2 from rfl] at hx716_1); have hn716_0 : ad710.block ≠ gb715 := Nat.ne_of_lt (Nat.lt_of_lt_of_le (by have := World.block_lt_of_cell? _ _ hx716_0; first | rwa [add_block] at this | exact this) GW715.out); replace hx716_0 := (HB.out.cell (World.block_lt_of_cell? w _ hx716_0)).trans hx716_0; replace hx716_1 := (HB.out.cell (World.block_lt_of_cell? w _ hx716_1)).trans hx716_1; have HR716_1 := Aside0.mk hi716_1; have HC716_1 := Aside0.mk hl716_1; clear hi716_1 hl716_1; replace hx716_0 := (cell_far (p := ⟨gb715, 0, none⟩) (by first | (rw [add_block]; exact hn716_0) | (show (Addr.add _ _).block ≠ _; rw [add_block]; exact hn716_0) | exact hn716_0) (.slice Ao45 t711.length co45)).trans hx716_0; replace hx716_1 := (cell_far (p := ⟨gb715, 0, none⟩) (by first | (rw [add_block]; exact hn716_0) | (show (Addr.add _ _).block ≠ _; rw [add_block]; exact hn716_0) | exact hn716_0) (.slice Ao45 t711.length co45)).trans hx716_1; clear hn716_0; replace p716 := eq_true p716; replace q716 := eq_true q716) | ((with_reducible refine gate_callee (f := 88) rfl ?_); refine goesL_ (some 53) rfl rfl Try.func88 (by kernel_rfl) rfl #[.agg #[.int .i64 ((rd_T55 l0_1 1).f0), .slice A716_1 ((rd_T55 l0_1 1).f1).length c716_1], .int .i64 (wrap64 (a1 - 1))] rfl y4 ?_; (with_reducible refine (ih kj21 (y46 HJ21.out) ((rd_T55 l0_1 1).f0) _ _ ((rd_T55 l0_1 1).f1) (wrap64 (a1 - 1)) t717 true _ ?side1 ?side2 A38.out).mono ?_); (case side1 => exact y38 HR716_1.out HB.out GE708.out GE709.out GE715.out); (case side2 => exact HC716_1.out); rintro e w50 ⟨v718, rfl, ho0, hb⟩; refine ⟨_, rfl, ?_⟩; have HO719 := Aside0.mk (Kd.N_lower (Kd.N_mono (ok' := fun k_ => (w.heap.size ≤ k_) ∧ some k_ ≠ (.slice Ao45 t711.length co45 : Value).ownBlock ∧ k_ ≠ gb708 ∧ k_ ≠ gb709 ∧ k_ ≠ gb715) ho0 (fun k_ hk_ => ⟨(Nat.le_trans (below_size (y7 HB.out GE708.out GE709.out GE715.out)) hk_), (Kd.fresh' (Kd.N_lt (by (with_reducible repeat (first | apply Kd.N_alloc | apply Kd.N_drewN | apply Kd.N_drew)); exact (Kd.N_mono (Kd.N_far (p := ⟨gb715, 0, none⟩) (Kd.N_mono HO713.out (fun k_ hk => (⟨hk, hk.2⟩ : _ ∧ k_ ≠ gb715))) (fun _ hk => hk.2) (.slice Ao45 t711.length co45)) (fun _ h_ => h_.1)))) k_ hk_), (Kd.freshB (g := gb708) (o := .cells #[.int .i64 a0_0, .slice (some ad710) l0_1.length c0_1] 55 (0, 0)) (y21 NB708_715.out BK708.out) k_ hk_), (Kd.freshB (g := gb709) (o := .cells #[.slice none 0 0] 30 (0, 0)) (y21 NB709_715.out BK709.out) k_ hk_), (Kd.freshB (g := gb715) (o := .cells #[.slice Ao45 t711.length co45] 30 (0, 0)) (by (with_reducible repeat (first | refine blk_drewN ?_ _ | refine blk_drew ?_ | refine blk_alloc ?_ _)); apply blk_put (i := 0); (case h => exact y0 BK715.out); (case e => rfl)) k_ hk_)⟩)) (below_size (y7 HB.out GE708.out GE709.out GE715.out))); replace HO713 := Aside0.mk (Kd.N_elder' (by (with_reducible repeat (first | apply Kd.N_alloc | apply Kd.N_drewN | apply Kd.N_drew)); exact (Kd.N_mono (Kd.N_far (p := ⟨gb715, 0, none⟩) (Kd.N_mono HO713.out (fun k_ hk => (⟨hk, hk.2⟩ : _ ∧ k_ ≠ gb715))) (fun _ hk => hk.2) (.slice Ao45 t711.length co45)) (fun _ h_ => h_.1))) (Kd.N_base ho0) hb); replace BK708 := zbf BK708 NB708_715 hb; replace BK709 := zbf BK709 NB709_715 hb; replace BK715 := Aside0.mk (blk_below (g := gb715) (o := .cells #[.slice Ao45 t711.length co45] 30 (0, 0)) (by (with_reducible repeat (first | refine blk_drewN ?_ _ | refine blk_drew ?_ | refine blk_alloc ?_ _)); apply blk_put (i := 0); (case h => exact y0 BK715.out); (case e => rfl)) hb); replace HB := Aside0.mk (below_step (y7 HB.out GE708.out GE709.out GE715.out) hb); (try clear hb); (try clear hb2); (try clear hk); (try clear hi); (try clear ho0)) | ((with_reducible refine gate_dst (N := 8) rfl ?_); refine zbx 8 #[.slice none 0 0] 30 ?_; intro gb721 hg w51 hbox hb; replace HO713 := Aside0.mk (Kd.N_below (Kd.N_elderB (y9 HO713.out) gb721 (Nat.le_of_eq hg.symm)) hb); replace HO719 := Aside0.mk (Kd.N_below (Kd.N_elderB (y9 HO719.out) gb721 (Nat.le_of_eq hg.symm)) hb); have BK721 := Aside0.mk hbox; have GW721 := Aside0.mk ((y29 hg HB.out GE708.out GE709.out GE715.out : w.heap.size ≤ gb721)); have GE721 := Aside0.mk ((y29 hg HB.out GE708.out GE709.out GE715.out : w.heap.size ≤ gb721)); replace HB := Aside0.mk (below_step (y7 HB.out GE708.out GE709.out GE715.out) hb); have NB708_721 := zltn hg BK708; have NB721_708 := zgtn hg BK708; replace BK708 := zbb BK708 hb; have NB709_721 := zltn hg BK709; have NB721_709 := zgtn hg BK709; replace BK709 := zbb BK709 hb; have NB715_721 := zltn hg BK715; have NB721_715 := zgtn hg BK715; replace BK715 := zbb BK715 hb; clear hb hbox hg; obtain ⟨Ao52, co52, eo52⟩ := Kd.N_slice HO719.out; subst eo52; have hnb53 := NB721_708.out; have hnc53 := NB708_721.out; have hnb54 := NB721_709.out; have hnc54 := NB709_721.out; have hnb55 := NB721_715.out; have hnc55 := NB715_721.out; have hcz56_0 := zh BK721; have hfz56_0 := zfr BK721 0) | ((with_reducible refine gate_store (t := 30) (p := 8) rfl ?_); refine store_event (t := 30) (p := 8) (v := ?vo_w57) (w1 := (w51.setCell ⟨gb721, 0, none⟩ (.slice Ao52 t717.length co52))) ?hg ?ho ?hn ?hr ?_; (case ho => rfl); (case hg => rfl); (case hn => rfl); (case hr => first | (go_simp; done) | (go_simp; rfl)); intro w57 hw; have n0_ : Aside0 (Kd.N k30 30 w57 w.heap.size (fun k_ => (w.heap.size ≤ k_) ∧ some k_ ≠ (.slice Ao52 t717.length co52 : Value).ownBlock ∧ k_ ≠ gb708 ∧ k_ ≠ gb709 ∧ k_ ≠ gb715 ∧ k_ ≠ gb721) (.slice Ao45 t711.length co45) t711) := ⟨(by rw [hw]; exact (by (with_reducible repeat (first | apply Kd.N_alloc | apply Kd.N_drewN | apply Kd.N_drew)); exact Kd.N_mono (Kd.N_far (p := ⟨gb721, 0, none⟩) (Kd.N_mono HO713.out (fun k_ hk => (⟨hk, hk.2⟩ : _ ∧ k_ ≠ gb721))) (fun _ hk => hk.2) (.slice Ao52 t717.length co52)) (fun _ hk => ⟨hk.1.1.1.1.1, ⟨hk.1.1.2, ⟨hk.1.1.1.1.2.1, ⟨hk.1.1.1.1.2.2, ⟨hk.1.1.1.2, hk.1.2⟩⟩⟩⟩⟩)))⟩; have n1_ : Aside0 (Kd.N k30 30 w57 w.heap.size (fun k_ => (w.heap.size ≤ k_) ∧ some k_ ≠ (.slice Ao45 t711.length co45 : Value).ownBlock ∧ k_ ≠ gb708 ∧ k_ ≠ gb709 ∧ k_ ≠ gb715 ∧ k_ ≠ gb721) (.slice Ao52 t717.length co52) t717) := ⟨(by rw [hw]; exact (by (with_reducible repeat (first | apply Kd.N_alloc | apply Kd.N_drewN | apply Kd.N_drew)); exact Kd.N_mono (Kd.N_far (p := ⟨gb721, 0, none⟩) (Kd.N_mono HO719.out (fun k_ hk => (⟨hk, hk.2⟩ : _ ∧ k_ ≠ gb721))) (fun _ hk => hk.2) (.slice Ao52 t717.length co52)) (fun _ hk => ⟨hk.1.1.1, ⟨hk.1.1.2.1, ⟨hk.1.1.2.2.1, ⟨hk.1.1.2.2.2.1, ⟨hk.1.1.2.2.2.2, hk.1.2⟩⟩⟩⟩⟩)))⟩; have n2_ : Aside0 (w57.heap[gb708]? = some (.cells #[.int .i64 a0_0, .slice (some ad710) l0_1.length c0_1] 55 (0, 0))) := ⟨(by rw [hw]; exact (y21 NB708_721.out BK708.out))⟩; have n3_ : Aside0 (w57.heap[gb709]? = some (.cells #[.slice none 0 0] 30 (0, 0))) := ⟨(by rw [hw]; exact (y21 NB709_721.out BK709.out))⟩; have n4_ : Aside0 (w57.heap[gb715]? = some (.cells #[.slice Ao45 t711.length co45] 30 (0, 0))) := ⟨(by rw [hw]; exact (y21 NB715_721.out BK715.out))⟩; have n5_ : Aside0 (w57.heap[gb721]? = some (.cells #[.slice Ao52 t717.length co52] 30 (0, 0))) := ⟨(by rw [hw]; exact (by (with_reducible repeat (first | refine blk_drewN ?_ _ | refine blk_drew ?_ | refine blk_alloc ?_ _)); apply blk_put (i := 0); (case h => exact y0 BK721.out); (case e => rfl)))⟩; have n6_ : Aside0 (Below w.heap.size w w57) := ⟨(by rw [hw]; exact (y16 HB.out GE708.out GE709.out GE715.out GE721.out))⟩; clear hw; clear HO713; clear HO719; clear BK708; clear BK709; clear BK715; clear BK721; clear HB; have HO713 := n0_; have HO719 := n1_; have BK708 := n2_; have BK709 := n3_; have BK715 := n4_; have BK721 := n5_; have HB := n6_; clear n0_ n1_ n2_ n3_ n4_ n5_ n6_; have hcz58_0 := zh BK715; have hfz58_0 := zfr BK715 0; have hcz59_0 := zh BK721; have hfz59_0 := zfr BK721 0) | ((with_reducible refine gate_dst (N := 65) rfl ?_); refine Kd.N_lit k30 _ 30 ?hg (N' := 65) ?hd (xs := ([(⟨t711⟩ : S30), (⟨t717⟩ : S30)] : List (S30))) (inner := [.slice Ao45 t711.length co45, .slice Ao52 t717.length co52]) (ok := (fun k_ => (w.heap.size ≤ k_) ∧ k_ ≠ gb708 ∧ k_ ≠ gb709 ∧ k_ ≠ gb715 ∧ k_ ≠ gb721)) (okp := (fun k_ => (w.heap.size ≤ k_) ∧ k_ ≠ gb708 ∧ k_ ≠ gb709 ∧ k_ ≠ gb715 ∧ k_ ≠ gb721)) ?hr ?hp (fun _ hk => hk) ((show ∀ k_, w57.heap.size ≤ k_ → (fun k_ => (w.heap.size ≤ k_) ∧ k_ ≠ gb708 ∧ k_ ≠ gb709 ∧ k_ ≠ gb715 ∧ k_ ≠ gb721) k_ from fun k_ hk => ⟨(Nat.le_trans (below_size (y16 HB.out GE708.out GE709.out GE715.out GE721.out)) hk), Kd.freshB (g := gb708) (o := .cells #[.int .i64 a0_0, .slice (some ad710) l0_1.length c0_1] 55 (0, 0)) (y0 BK708.out) k_ hk, Kd.freshB (g := gb709) (o := .cells #[.slice none 0 0] 30 (0, 0)) (y0 BK709.out) k_ hk, Kd.freshB (g := gb715) (o := .cells #[.slice Ao45 t711.length co45] 30 (0, 0)) (y0 BK715.out) k_ hk, Kd.freshB (g := gb721) (o := .cells #[.slice Ao52 t717.length co52] 30 (0, 0)) (y0 BK721.out) k_ hk⟩) _ (Nat.le_refl _)) (Below.refl _ _) (Nat.le_refl _) (by simp) ?_; (case hd => rfl); (case hg => rfl); (case hr => first | (go_simp; done) | (go_simp; rfl)); (case hp => exact (Reps.one (show Kd.FK k30 _ _ (⟨t711⟩ : S30) [.slice Ao45 t711.length co45] from (k30_mkF _ _ (⟨t711⟩ : S30) (Kd.N_reads' (Kd.N_mono (ok' := (fun k_ => (w.heap.size ≤ k_) ∧ k_ ≠ gb708 ∧ k_ ≠ gb709 ∧ k_ ≠ gb715 ∧ k_ ≠ gb721)) (HO713.out) (fun k_ hk => ⟨hk.1, ⟨hk.2.2.1, ⟨hk.2.2.2.1, ⟨hk.2.2.2.2.1, hk.2.2.2.2.2⟩⟩⟩⟩))).2.1 (Kd.N_F (Kd.N_mono (ok' := (fun k_ => (w.heap.size ≤ k_) ∧ k_ ≠ gb708 ∧ k_ ≠ gb709 ∧ k_ ≠ gb715 ∧ k_ ≠ gb721)) (HO713.out) (fun k_ hk => ⟨hk.1, ⟨hk.2.2.1, ⟨hk.2.2.2.1, ⟨hk.2.2.2.2.1, hk.2.2.2.2.2⟩⟩⟩⟩))))) (Reps.one (show Kd.FK k30 _ _ (⟨t717⟩ : S30) [.slice Ao52 t717.length co52] from (k30_mkF _ _ (⟨t717⟩ : S30) (Kd.N_reads' (Kd.N_mono (ok' := (fun k_ => (w.heap.size ≤ k_) ∧ k_ ≠ gb708 ∧ k_ ≠ gb709 ∧ k_ ≠ gb715 ∧ k_ ≠ gb721)) (HO719.out) (fun k_ hk => ⟨hk.1, ⟨hk.2.2.1, ⟨hk.2.2.2.1, ⟨hk.2.2.2.2.1, hk.2.2.2.2.2⟩⟩⟩⟩))).2.1 (Kd.N_F (Kd.N_mono (ok' := (fun k_ => (w.heap.size ≤ k_) ∧ k_ ≠ gb708 ∧ k_ ≠ gb709 ∧ k_ ≠ gb715 ∧ k_ ≠ gb721)) (HO719.out) (fun k_ hk => ⟨hk.1, ⟨hk.2.2.1, ⟨hk.2.2.2.1, ⟨hk.2.2.2.2.1, hk.2.2.2.2.2⟩⟩⟩⟩))))) (Reps.none _ _)))); intro v723 w60 ho61 hb hg_ hnew_; clear hg_ hnew_; (first | rw [← Ny722.out] at ho61 | (simp only [Int.reduceToNat] at ho61; rw [← Ny722.out] at ho61)); have HO724 := Aside0.mk (Kd.N_lower ho61 (below_size (y16 HB.out GE708.out GE709.out GE715.out GE721.out))); replace BK708 := zbb BK708 hb; replace BK709 := zbb BK709 hb; replace BK715 := zbb BK715 hb; replace BK721 := zbb BK721 hb; replace HB := Aside0.mk (below_step (y16 HB.out GE708.out GE709.out GE715.out GE721.out) hb); clear HO713 HO719; clear hb ho61; obtain ⟨Ao62, co62, eo62⟩ := Kd.N_slice HO724.out; subst eo62; have hcz63_0 := zh BK709; have hfz63_0 := zfr BK709 0))
          refine bodyPost_ret (results_ct rfl _ _ gb709 30 #[.slice Ao62 y722.length co62] (0, 0) _ rfl (by (with_reducible repeat (first | refine blk_drewN ?_ _ | refine blk_drew ?_ | refine blk_alloc ?_ _)); apply blk_put (i := 0); (case h => exact y0 BK709.out); (case e => rfl)) Try.underlying30 rfl (by kernel_rfl)) rfl ?_
          exact ⟨_, y14, (by (with_reducible repeat (first | apply Kd.N_alloc | apply Kd.N_drewN | apply Kd.N_drew)); exact Kd.N_mono (Kd.N_far (p := ⟨gb709, 0, none⟩) (Kd.N_mono HO724.out (fun k_ hk => (⟨hk, hk.2.2.1⟩ : _ ∧ k_ ≠ gb709))) (fun _ hk => hk.2) (.slice Ao62 y722.length co62)) (fun _ hk => hk.1.1)), (y16 HB.out GE708.out GE709.out GE715.out GE721.out)⟩
         ·replace c40 := Bool.eq_false_iff.mpr c40
          subst c40
          rw [if_neg (show ¬ (false = true) by decide)] at H
          simp only [Option.some.injEq, Prod.mk.injEq] at H
          obtain ⟨rfl, rfl⟩ := H
          have hnb64 := NB708_709.out
          have hnc64 := NB709_708.out
          have hcz65_0 := zh BK708
          have hcz65_1 := zh1 BK708
          have hfz65_0 := zfr BK708 0
          have hfz65_1 := zfr BK708 1
          have p710 : 0 ≤ (0 : Int) := (by omega)
          have q710 : 0 < (l0_1.length : Int) := of_decide_eq_true y19
          obtain ⟨ad710, A710_1, c710_1, e710, hx710_0, hx710_1, hl710_1, hi710_1⟩ := at_T55 HR0_1.out 0 p710 q710
          cases e710
          have qi710 : (0 < l0_1.length) = True := eq_true (by omega)
          (try rw [show ((0 : Int)).toNat = 0 from rfl] at hx710_0)
          (try rw [show 0 * 2 = 0 from rfl] at hx710_0)
          (try rw [Addr.add_zero'] at hx710_0)
          (try rw [show ((0 : Int)).toNat = 0 from rfl] at hx710_1)
          (try rw [show 0 * 2 = 0 from rfl] at hx710_1)
          (try rw [Addr.add_zero'] at hx710_1)
          replace hx710_0 := (HB.out.cell (World.block_lt_of_cell? w _ hx710_0)).trans hx710_0
          replace hx710_1 := (HB.out.cell (World.block_lt_of_cell? w _ hx710_1)).trans hx710_1
          have HR710_1 := Aside0.mk hi710_1
          have HC710_1 := Aside0.mk hl710_1
          clear hi710_1 hl710_1
          replace p710 := eq_true p710
          replace q710 := eq_true q710
          go_wp2_with (first | ((with_reducible refine gate_callee (f := 88) rfl ?_); refine goesL_ (some 43) rfl rfl Try.func88 (by kernel_rfl) rfl #[.agg #[.int .i64 ((rd_T55 l0_1 0).f0), .slice A710_1 ((rd_T55 l0_1 0).f1).length c710_1], .int .i64 (wrap64 (a1 - 1))] rfl y4 ?_; (with_reducible refine (ih kj21 (y46 HJ21.out) ((rd_T55 l0_1 0).f0) _ _ ((rd_T55 l0_1 0).f1) (wrap64 (a1 - 1)) t711 true _ ?side1 ?side2 A36.out).mono ?_); (case side1 => exact y8 HR710_1.out HB.out); (case side2 => exact HC710_1.out); rintro e w66 ⟨v712, rfl, ho0, hb⟩; refine ⟨_, rfl, ?_⟩; have HO713 := Aside0.mk (Kd.N_lower (Kd.N_mono (ok' := fun k_ => (w.heap.size ≤ k_) ∧ k_ ≠ gb708 ∧ k_ ≠ gb709) ho0 (fun k_ hk_ => ⟨(Nat.le_trans (below_size (y1 HB.out GE708.out GE709.out)) hk_), (Kd.freshB (g := gb708) (o := .cells #[.int .i64 a0_0, .slice (some ad710) l0_1.length c0_1] 55 (0, 0)) (y0 BK708.out) k_ hk_), (Kd.freshB (g := gb709) (o := .cells #[.slice none 0 0] 30 (0, 0)) (y0 BK709.out) k_ hk_)⟩)) (below_size (y1 HB.out GE708.out GE709.out))); replace BK708 := zbb BK708 hb; replace BK709 := zbb BK709 hb; replace HB := Aside0.mk (below_step (y1 HB.out GE708.out GE709.out) hb); (try clear hb); (try clear hb2); (try clear hk); (try clear hi); (try clear ho0)) | ((with_reducible refine gate_dst (N := 6) rfl ?_); refine zbx 6 #[.slice none 0 0] 30 ?_; intro gb715 hg w67 hbox hb; replace HO713 := Aside0.mk (Kd.N_below (Kd.N_elderB (y9 HO713.out) gb715 (Nat.le_of_eq hg.symm)) hb); have BK715 := Aside0.mk hbox; have GW715 := Aside0.mk ((y20 hg HB.out GE708.out GE709.out : w.heap.size ≤ gb715)); have GE715 := Aside0.mk ((y20 hg HB.out GE708.out GE709.out : w.heap.size ≤ gb715)); replace HB := Aside0.mk (below_step (y1 HB.out GE708.out GE709.out) hb); have NB708_715 := zltn hg BK708; have NB715_708 := zgtn hg BK708; replace BK708 := zbb BK708 hb; have NB709_715 := zltn hg BK709; have NB715_709 := zgtn hg BK709; replace BK709 := zbb BK709 hb; clear hb hbox hg; obtain ⟨Ao68, co68, eo68⟩ := Kd.N_slice HO713.out; subst eo68; have hnb69 := NB715_708.out; have hnc69 := NB708_715.out; have hnb70 := NB715_709.out; have hnc70 := NB709_715.out; have hcz71_0 := zh BK715; have hfz71_0 := zfr BK715 0; have hcz72_0 := zh BK708; have hcz72_1 := zh1 BK708; have hfz72_0 := zfr BK708 0; have hfz72_1 := zfr BK708 1; have p716 : 0 ≤ (1 : Int) := (by omega); have q716 : 1 < (l0_1.length : Int) := of_decide_eq_true y19; obtain ⟨ad716, A716_1, c716_1, e716, hx716_0, hx716_1, hl716_1, hi716_1⟩ := at_T55 HR0_1.out 1 p716 q716; obtain rfl : ad710 = ad716 := (by injection e716); (try simp only [show (1 : Int).toNat = 1 from rfl, Nat.reduceMul, Nat.reduceEqDiff, Go.Addr.add, ↓reduceIte] at hx716_0); (try simp only [show (1 : Int).toNat = 1 from rfl, Nat.reduceMul, Nat.reduceEqDiff, Go.Addr.add, ↓reduceIte] at hx716_1); have qi716 : (1 < l0_1.length) = True := eq_true (by omega); (try rw [show ((1 : Int)).toNat = 1 from rfl] at hx716_0); (try rw [show 1 * 2 = 2 from rfl] at hx716_0); (try rw [show ((1 : Int)).toNat = 1 from rfl] at hx716_1); (try rw [show 1 * 2 = 2 from rfl] at hx716_1); have hn716_0 : ad710.block ≠ gb715 := Nat.ne_of_lt (Nat.lt_of_lt_of_le (by have := World.block_lt_of_cell? _ _ hx716_0; first | rwa [add_block] at this | exact this) GW715.out); replace hx716_0 := (HB.out.cell (World.block_lt_of_cell? w _ hx716_0)).trans hx716_0; replace hx716_1 := (HB.out.cell (World.block_lt_of_cell? w _ hx716_1)).trans hx716_1; have HR716_1 := Aside0.mk hi716_1; have HC716_1 := Aside0.mk hl716_1; clear hi716_1 hl716_1; replace hx716_0 := (cell_far (p := ⟨gb715, 0, none⟩) (by first | (rw [add_block]; exact hn716_0) | (show (Addr.add _ _).block ≠ _; rw [add_block]; exact hn716_0) | exact hn716_0) (.slice Ao68 t711.length co68)).trans hx716_0; replace hx716_1 := (cell_far (p := ⟨gb715, 0, none⟩) (by first | (rw [add_block]; exact hn716_0) | (show (Addr.add _ _).block ≠ _; rw [add_block]; exact hn716_0) | exact hn716_0) (.slice Ao68 t711.length co68)).trans hx716_1; clear hn716_0; replace p716 := eq_true p716; replace q716 := eq_true q716) | ((with_reducible refine gate_callee (f := 88) rfl ?_); refine goesL_ (some 53) rfl rfl Try.func88 (by kernel_rfl) rfl #[.agg #[.int .i64 ((rd_T55 l0_1 1).f0), .slice A716_1 ((rd_T55 l0_1 1).f1).length c716_1], .int .i64 (wrap64 (a1 - 1))] rfl y4 ?_; (with_reducible refine (ih kj21 (y46 HJ21.out) ((rd_T55 l0_1 1).f0) _ _ ((rd_T55 l0_1 1).f1) (wrap64 (a1 - 1)) t717 false _ ?side1 ?side2 A38.out).mono ?_); (case side1 => exact y38 HR716_1.out HB.out GE708.out GE709.out GE715.out); (case side2 => exact HC716_1.out); rintro e w73 ⟨v718, rfl, ho0, hb⟩; refine ⟨_, rfl, ?_⟩; have HO719 := Aside0.mk (Kd.N_lower (Kd.N_mono (ok' := fun k_ => (w.heap.size ≤ k_) ∧ some k_ ≠ (.slice Ao68 t711.length co68 : Value).ownBlock ∧ k_ ≠ gb708 ∧ k_ ≠ gb709 ∧ k_ ≠ gb715) ho0 (fun k_ hk_ => ⟨(Nat.le_trans (below_size (y7 HB.out GE708.out GE709.out GE715.out)) hk_), (Kd.fresh' (Kd.N_lt (by (with_reducible repeat (first | apply Kd.N_alloc | apply Kd.N_drewN | apply Kd.N_drew)); exact (Kd.N_mono (Kd.N_far (p := ⟨gb715, 0, none⟩) (Kd.N_mono HO713.out (fun k_ hk => (⟨hk, hk.2⟩ : _ ∧ k_ ≠ gb715))) (fun _ hk => hk.2) (.slice Ao68 t711.length co68)) (fun _ h_ => h_.1)))) k_ hk_), (Kd.freshB (g := gb708) (o := .cells #[.int .i64 a0_0, .slice (some ad710) l0_1.length c0_1] 55 (0, 0)) (y21 NB708_715.out BK708.out) k_ hk_), (Kd.freshB (g := gb709) (o := .cells #[.slice none 0 0] 30 (0, 0)) (y21 NB709_715.out BK709.out) k_ hk_), (Kd.freshB (g := gb715) (o := .cells #[.slice Ao68 t711.length co68] 30 (0, 0)) (by (with_reducible repeat (first | refine blk_drewN ?_ _ | refine blk_drew ?_ | refine blk_alloc ?_ _)); apply blk_put (i := 0); (case h => exact y0 BK715.out); (case e => rfl)) k_ hk_)⟩)) (below_size (y7 HB.out GE708.out GE709.out GE715.out))); replace HO713 := Aside0.mk (Kd.N_elder' (by (with_reducible repeat (first | apply Kd.N_alloc | apply Kd.N_drewN | apply Kd.N_drew)); exact (Kd.N_mono (Kd.N_far (p := ⟨gb715, 0, none⟩) (Kd.N_mono HO713.out (fun k_ hk => (⟨hk, hk.2⟩ : _ ∧ k_ ≠ gb715))) (fun _ hk => hk.2) (.slice Ao68 t711.length co68)) (fun _ h_ => h_.1))) (Kd.N_base ho0) hb); replace BK708 := zbf BK708 NB708_715 hb; replace BK709 := zbf BK709 NB709_715 hb; replace BK715 := Aside0.mk (blk_below (g := gb715) (o := .cells #[.slice Ao68 t711.length co68] 30 (0, 0)) (by (with_reducible repeat (first | refine blk_drewN ?_ _ | refine blk_drew ?_ | refine blk_alloc ?_ _)); apply blk_put (i := 0); (case h => exact y0 BK715.out); (case e => rfl)) hb); replace HB := Aside0.mk (below_step (y7 HB.out GE708.out GE709.out GE715.out) hb); (try clear hb); (try clear hb2); (try clear hk); (try clear hi); (try clear ho0)) | ((with_reducible refine gate_dst (N := 8) rfl ?_); refine zbx 8 #[.slice none 0 0] 30 ?_; intro gb721 hg w74 hbox hb; replace HO713 := Aside0.mk (Kd.N_below (Kd.N_elderB (y9 HO713.out) gb721 (Nat.le_of_eq hg.symm)) hb); replace HO719 := Aside0.mk (Kd.N_below (Kd.N_elderB (y9 HO719.out) gb721 (Nat.le_of_eq hg.symm)) hb); have BK721 := Aside0.mk hbox; have GW721 := Aside0.mk ((y29 hg HB.out GE708.out GE709.out GE715.out : w.heap.size ≤ gb721)); have GE721 := Aside0.mk ((y29 hg HB.out GE708.out GE709.out GE715.out : w.heap.size ≤ gb721)); replace HB := Aside0.mk (below_step (y7 HB.out GE708.out GE709.out GE715.out) hb); have NB708_721 := zltn hg BK708; have NB721_708 := zgtn hg BK708; replace BK708 := zbb BK708 hb; have NB709_721 := zltn hg BK709; have NB721_709 := zgtn hg BK709; replace BK709 := zbb BK709 hb; have NB715_721 := zltn hg BK715; have NB721_715 := zgtn hg BK715; replace BK715 := zbb BK715 hb; clear hb hbox hg; obtain ⟨Ao75, co75, eo75⟩ := Kd.N_slice HO719.out; subst eo75; have hnb76 := NB721_708.out; have hnc76 := NB708_721.out; have hnb77 := NB721_709.out; have hnc77 := NB709_721.out; have hnb78 := NB721_715.out; have hnc78 := NB715_721.out; have hcz79_0 := zh BK721; have hfz79_0 := zfr BK721 0; have hcz80_0 := zh BK709; have hfz80_0 := zfr BK709 0))
          refine bodyPost_ret (results_ct rfl _ _ gb709 30 #[.slice none 0 0] (0, 0) _ rfl (by (with_reducible repeat (first | refine blk_drewN ?_ _ | refine blk_drew ?_ | refine blk_alloc ?_ _)); refine blk_put (cs := #[.slice none 0 0]) ?_ 0 _ rfl; (with_reducible repeat (first | refine blk_drewN ?_ _ | refine blk_drew ?_ | refine blk_alloc ?_ _)); refine blk_far ?_ NB709_721.out _; (with_reducible repeat (first | refine blk_drewN ?_ _ | refine blk_drew ?_ | refine blk_alloc ?_ _)); exact BK709.out) Try.underlying30 rfl (by kernel_rfl)) rfl ?_
          exact ⟨_, y14, y36, (y16 HB.out GE708.out GE709.out GE715.out GE721.out)⟩
        ·replace c39 := Bool.eq_false_iff.mpr c39
         subst c39
         rw [if_neg (show ¬ (false = true) by decide)] at H
         simp only [Option.some.injEq, Prod.mk.injEq] at H
         obtain ⟨rfl, rfl⟩ := H
         have hnb81 := NB708_709.out
         have hnc81 := NB709_708.out
         have hcz82_0 := zh BK708
         have hcz82_1 := zh1 BK708
         have hfz82_0 := zfr BK708 0
         have hfz82_1 := zfr BK708 1
         have p710 : 0 ≤ (0 : Int) := (by omega)
         have q710 : 0 < (l0_1.length : Int) := of_decide_eq_true y19
         obtain ⟨ad710, A710_1, c710_1, e710, hx710_0, hx710_1, hl710_1, hi710_1⟩ := at_T55 HR0_1.out 0 p710 q710
         cases e710
         have qi710 : (0 < l0_1.length) = True := eq_true (by omega)
         (try rw [show ((0 : Int)).toNat = 0 from rfl] at hx710_0)
         (try rw [show 0 * 2 = 0 from rfl] at hx710_0)
         (try rw [Addr.add_zero'] at hx710_0)
         (try rw [show ((0 : Int)).toNat = 0 from rfl] at hx710_1)
         (try rw [show 0 * 2 = 0 from rfl] at hx710_1)
         (try rw [Addr.add_zero'] at hx710_1)
         replace hx710_0 := (HB.out.cell (World.block_lt_of_cell? w _ hx710_0)).trans hx710_0
         replace hx710_1 := (HB.out.cell (World.block_lt_of_cell? w _ hx710_1)).trans hx710_1
         have HR710_1 := Aside0.mk hi710_1
         have HC710_1 := Aside0.mk hl710_1
         clear hi710_1 hl710_1
         replace p710 := eq_true p710
         replace q710 := eq_true q710
         go_wp2_with (first | ((with_reducible refine gate_callee (f := 88) rfl ?_); refine goesL_ (some 43) rfl rfl Try.func88 (by kernel_rfl) rfl #[.agg #[.int .i64 ((rd_T55 l0_1 0).f0), .slice A710_1 ((rd_T55 l0_1 0).f1).length c710_1], .int .i64 (wrap64 (a1 - 1))] rfl y4 ?_; (with_reducible refine (ih kj21 (y46 HJ21.out) ((rd_T55 l0_1 0).f0) _ _ ((rd_T55 l0_1 0).f1) (wrap64 (a1 - 1)) t711 false _ ?side1 ?side2 A36.out).mono ?_); (case side1 => exact y8 HR710_1.out HB.out); (case side2 => exact HC710_1.out); rintro e w83 ⟨v712, rfl, ho0, hb⟩; refine ⟨_, rfl, ?_⟩; have HO713 := Aside0.mk (Kd.N_lower (Kd.N_mono (ok' := fun k_ => (w.heap.size ≤ k_) ∧ k_ ≠ gb708 ∧ k_ ≠ gb709) ho0 (fun k_ hk_ => ⟨(Nat.le_trans (below_size (y1 HB.out GE708.out GE709.out)) hk_), (Kd.freshB (g := gb708) (o := .cells #[.int .i64 a0_0, .slice (some ad710) l0_1.length c0_1] 55 (0, 0)) (y0 BK708.out) k_ hk_), (Kd.freshB (g := gb709) (o := .cells #[.slice none 0 0] 30 (0, 0)) (y0 BK709.out) k_ hk_)⟩)) (below_size (y1 HB.out GE708.out GE709.out))); replace BK708 := zbb BK708 hb; replace BK709 := zbb BK709 hb; replace HB := Aside0.mk (below_step (y1 HB.out GE708.out GE709.out) hb); (try clear hb); (try clear hb2); (try clear hk); (try clear hi); (try clear ho0)) | ((with_reducible refine gate_dst (N := 6) rfl ?_); refine zbx 6 #[.slice none 0 0] 30 ?_; intro gb715 hg w84 hbox hb; replace HO713 := Aside0.mk (Kd.N_below (Kd.N_elderB (y9 HO713.out) gb715 (Nat.le_of_eq hg.symm)) hb); have BK715 := Aside0.mk hbox; have GW715 := Aside0.mk ((y20 hg HB.out GE708.out GE709.out : w.heap.size ≤ gb715)); have GE715 := Aside0.mk ((y20 hg HB.out GE708.out GE709.out : w.heap.size ≤ gb715)); replace HB := Aside0.mk (below_step (y1 HB.out GE708.out GE709.out) hb); have NB708_715 := zltn hg BK708; have NB715_708 := zgtn hg BK708; replace BK708 := zbb BK708 hb; have NB709_715 := zltn hg BK709; have NB715_709 := zgtn hg BK709; replace BK709 := zbb BK709 hb; clear hb hbox hg; obtain ⟨Ao85, co85, eo85⟩ := Kd.N_slice HO713.out; subst eo85; have hnb86 := NB715_708.out; have hnc86 := NB708_715.out; have hnb87 := NB715_709.out; have hnc87 := NB709_715.out; have hcz88_0 := zh BK715; have hfz88_0 := zfr BK715 0; have hcz89_0 := zh BK708; have hcz89_1 := zh1 BK708; have hfz89_0 := zfr BK708 0; have hfz89_1 := zfr BK708 1; have p716 : 0 ≤ (1 : Int) := (by omega); have q716 : 1 < (l0_1.length : Int) := of_decide_eq_true y19; obtain ⟨ad716, A716_1, c716_1, e716, hx716_0, hx716_1, hl716_1, hi716_1⟩ := at_T55 HR0_1.out 1 p716 q716; obtain rfl : ad710 = ad716 := (by injection e716); (try simp only [show (1 : Int).toNat = 1 from rfl, Nat.reduceMul, Nat.reduceEqDiff, Go.Addr.add, ↓reduceIte] at hx716_0); (try simp only [show (1 : Int).toNat = 1 from rfl, Nat.reduceMul, Nat.reduceEqDiff, Go.Addr.add, ↓reduceIte] at hx716_1); have qi716 : (1 < l0_1.length) = True := eq_true (by omega); (try rw [show ((1 : Int)).toNat = 1 from rfl] at hx716_0); (try rw [show 1 * 2 = 2 from rfl] at hx716_0); (try rw [show ((1 : Int)).toNat = 1 from rfl] at hx716_1); (try rw [show 1 * 2 = 2 from rfl] at hx716_1); have hn716_0 : ad710.block ≠ gb715 := Nat.ne_of_lt (Nat.lt_of_lt_of_le (by have := World.block_lt_of_cell? _ _ hx716_0; first | rwa [add_block] at this | exact this) GW715.out); replace hx716_0 := (HB.out.cell (World.block_lt_of_cell? w _ hx716_0)).trans hx716_0; replace hx716_1 := (HB.out.cell (World.block_lt_of_cell? w _ hx716_1)).trans hx716_1; have HR716_1 := Aside0.mk hi716_1; have HC716_1 := Aside0.mk hl716_1; clear hi716_1 hl716_1; replace hx716_0 := (cell_far (p := ⟨gb715, 0, none⟩) (by first | (rw [add_block]; exact hn716_0) | (show (Addr.add _ _).block ≠ _; rw [add_block]; exact hn716_0) | exact hn716_0) (.slice Ao85 t711.length co85)).trans hx716_0; replace hx716_1 := (cell_far (p := ⟨gb715, 0, none⟩) (by first | (rw [add_block]; exact hn716_0) | (show (Addr.add _ _).block ≠ _; rw [add_block]; exact hn716_0) | exact hn716_0) (.slice Ao85 t711.length co85)).trans hx716_1; clear hn716_0; replace p716 := eq_true p716; replace q716 := eq_true q716) | ((with_reducible refine gate_callee (f := 88) rfl ?_); refine goesL_ (some 53) rfl rfl Try.func88 (by kernel_rfl) rfl #[.agg #[.int .i64 ((rd_T55 l0_1 1).f0), .slice A716_1 ((rd_T55 l0_1 1).f1).length c716_1], .int .i64 (wrap64 (a1 - 1))] rfl y4 ?_; (with_reducible refine (ih kj21 (y46 HJ21.out) ((rd_T55 l0_1 1).f0) _ _ ((rd_T55 l0_1 1).f1) (wrap64 (a1 - 1)) t717 t720 _ ?side1 ?side2 A38.out).mono ?_); (case side1 => exact y38 HR716_1.out HB.out GE708.out GE709.out GE715.out); (case side2 => exact HC716_1.out); rintro e w90 ⟨v718, rfl, ho0, hb⟩; refine ⟨_, rfl, ?_⟩; have HO719 := Aside0.mk (Kd.N_lower (Kd.N_mono (ok' := fun k_ => (w.heap.size ≤ k_) ∧ some k_ ≠ (.slice Ao85 t711.length co85 : Value).ownBlock ∧ k_ ≠ gb708 ∧ k_ ≠ gb709 ∧ k_ ≠ gb715) ho0 (fun k_ hk_ => ⟨(Nat.le_trans (below_size (y7 HB.out GE708.out GE709.out GE715.out)) hk_), (Kd.fresh' (Kd.N_lt (by (with_reducible repeat (first | apply Kd.N_alloc | apply Kd.N_drewN | apply Kd.N_drew)); exact (Kd.N_mono (Kd.N_far (p := ⟨gb715, 0, none⟩) (Kd.N_mono HO713.out (fun k_ hk => (⟨hk, hk.2⟩ : _ ∧ k_ ≠ gb715))) (fun _ hk => hk.2) (.slice Ao85 t711.length co85)) (fun _ h_ => h_.1)))) k_ hk_), (Kd.freshB (g := gb708) (o := .cells #[.int .i64 a0_0, .slice (some ad710) l0_1.length c0_1] 55 (0, 0)) (y21 NB708_715.out BK708.out) k_ hk_), (Kd.freshB (g := gb709) (o := .cells #[.slice none 0 0] 30 (0, 0)) (y21 NB709_715.out BK709.out) k_ hk_), (Kd.freshB (g := gb715) (o := .cells #[.slice Ao85 t711.length co85] 30 (0, 0)) (by (with_reducible repeat (first | refine blk_drewN ?_ _ | refine blk_drew ?_ | refine blk_alloc ?_ _)); apply blk_put (i := 0); (case h => exact y0 BK715.out); (case e => rfl)) k_ hk_)⟩)) (below_size (y7 HB.out GE708.out GE709.out GE715.out))); replace HO713 := Aside0.mk (Kd.N_elder' (by (with_reducible repeat (first | apply Kd.N_alloc | apply Kd.N_drewN | apply Kd.N_drew)); exact (Kd.N_mono (Kd.N_far (p := ⟨gb715, 0, none⟩) (Kd.N_mono HO713.out (fun k_ hk => (⟨hk, hk.2⟩ : _ ∧ k_ ≠ gb715))) (fun _ hk => hk.2) (.slice Ao85 t711.length co85)) (fun _ h_ => h_.1))) (Kd.N_base ho0) hb); replace BK708 := zbf BK708 NB708_715 hb; replace BK709 := zbf BK709 NB709_715 hb; replace BK715 := Aside0.mk (blk_below (g := gb715) (o := .cells #[.slice Ao85 t711.length co85] 30 (0, 0)) (by (with_reducible repeat (first | refine blk_drewN ?_ _ | refine blk_drew ?_ | refine blk_alloc ?_ _)); apply blk_put (i := 0); (case h => exact y0 BK715.out); (case e => rfl)) hb); replace HB := Aside0.mk (below_step (y7 HB.out GE708.out GE709.out GE715.out) hb); (try clear hb); (try clear hb2); (try clear hk); (try clear hi); (try clear ho0)) | ((with_reducible refine gate_dst (N := 8) rfl ?_); refine zbx 8 #[.slice none 0 0] 30 ?_; intro gb721 hg w91 hbox hb; replace HO713 := Aside0.mk (Kd.N_below (Kd.N_elderB (y9 HO713.out) gb721 (Nat.le_of_eq hg.symm)) hb); replace HO719 := Aside0.mk (Kd.N_below (Kd.N_elderB (y9 HO719.out) gb721 (Nat.le_of_eq hg.symm)) hb); have BK721 := Aside0.mk hbox; have GW721 := Aside0.mk ((y29 hg HB.out GE708.out GE709.out GE715.out : w.heap.size ≤ gb721)); have GE721 := Aside0.mk ((y29 hg HB.out GE708.out GE709.out GE715.out : w.heap.size ≤ gb721)); replace HB := Aside0.mk (below_step (y7 HB.out GE708.out GE709.out GE715.out) hb); have NB708_721 := zltn hg BK708; have NB721_708 := zgtn hg BK708; replace BK708 := zbb BK708 hb; have NB709_721 := zltn hg BK709; have NB721_709 := zgtn hg BK709; replace BK709 := zbb BK709 hb; have NB715_721 := zltn hg BK715; have NB721_715 := zgtn hg BK715; replace BK715 := zbb BK715 hb; clear hb hbox hg; obtain ⟨Ao92, co92, eo92⟩ := Kd.N_slice HO719.out; subst eo92; have hnb93 := NB721_708.out; have hnc93 := NB708_721.out; have hnb94 := NB721_709.out; have hnc94 := NB709_721.out; have hnb95 := NB721_715.out; have hnc95 := NB715_721.out; have hcz96_0 := zh BK721; have hfz96_0 := zfr BK721 0; have hcz97_0 := zh BK709; have hfz97_0 := zfr BK709 0))
         refine bodyPost_ret (results_ct rfl _ _ gb709 30 #[.slice none 0 0] (0, 0) _ rfl (by (with_reducible repeat (first | refine blk_drewN ?_ _ | refine blk_drew ?_ | refine blk_alloc ?_ _)); refine blk_put (cs := #[.slice none 0 0]) ?_ 0 _ rfl; (with_reducible repeat (first | refine blk_drewN ?_ _ | refine blk_drew ?_ | refine blk_alloc ?_ _)); refine blk_far ?_ NB709_721.out _; (with_reducible repeat (first | refine blk_drewN ?_ _ | refine blk_drew ?_ | refine blk_alloc ?_ _)); exact BK709.out) Try.underlying30 rfl (by kernel_rfl)) rfl ?_
         exact ⟨_, y14, y36, (y16 HB.out GE708.out GE709.out GE715.out GE721.out)⟩
       ·rw [if_neg c37] at H
        exact absurd H (by simp)
      ·rw [if_neg c35] at H
       exact absurd H (by simp)
end Go.Proofs.Ytjhbhihfifhljaa.PA
end
section
namespace Go.Proofs.Ytjhbhihfifhljaa.PA
open Go.RowKit Go.Proofs.YtjhbhihfifhljaaW.PrintWords Go.Proofs.YtjhbhihfifhljaaW.PrintLast Go.Proofs.YtjhbhihfifhljaaW.PrintMore
attribute [local go_sem] max2_int min2_int max_two min_two max_three min_three max_four min_four
set_option linter.unusedVariables false
set_option linter.unusedSimpArgs false
def impl_valTyped.f (k : Nat) (a0_0 : Int) (l0_1 : List (S55)) : Option ((List (S30)) × Bool) := (impl_valType.f k a0_0 l0_1 4).bind fun bt727 => (some (bt727.1, bt727.2))
theorem impl_valTyped.mono : ∀ a0 a1 k, LeO (impl_valTyped.f k a0 a1) (impl_valTyped.f (k + 1) a0 a1) := by
 intro a0 a1 k
 unfold impl_valTyped.f
 repeat' first
   | (with_reducible exact impl_valType.mono _ _ _ _)
   | (with_reducible exact LeO.refl _)
   | (with_reducible exact LeO.none _)
   | (with_reducible refine LeO.ite ?_ ?_)
   | (with_reducible refine LeO.bind ?_ (fun _ => ?_))
   | exact impl_valType.mono _ _ _ _
   | exact LeO.none _
   | refine LeO.ite ?_ ?_
   | refine LeO.bind ?_ (fun _ => ?_)
set_option maxHeartbeats 8000000 in
set_option maxRecDepth 100000 in
theorem impl_valTyped.calls (k : Nat) (a0_0 : Int) (A0_1 : Option Addr) (c0_1 : Nat) (l0_1 : List (S55)) (r1 : List (S30)) (r2 : Bool) (w : World) (hr0_1 : Kd.C k55 w A0_1 l0_1.length l0_1) (hc0_1 : l0_1.length ≤ c0_1) (h : impl_valTyped.f k a0_0 l0_1 = some (r1, r2)) :
  Calls Try.prog 69 #[.agg #[.int .i64 a0_0, .slice A0_1 l0_1.length c0_1]] w fun e w' => ∃ v0_ : Value, e = .returned (.tuple #[.agg #[v0_], .bool r2]) ∧ Kd.N k30 30 w' w.heap.size (fun k_ => (w.heap.size ≤ k_)) v0_ r1 ∧ Below w.heap.size w w' := by
 have hu55 := Try.underlying55
 have hu30 := Try.underlying30
 have HR0_1 := Aside0.mk hr0_1
 have HC0_1 := Aside0.mk hc0_1
 clear hr0_1 hc0_1
 have HB := Aside0.mk (Below.refl w.heap.size w)
 have H : ((impl_valType.f k a0_0 l0_1 4).bind fun bt727 => (some (bt727.1, bt727.2))) = some (r1, r2) := h
 clear h
 obtain ⟨⟨t727, t730⟩, A20, H⟩ := ob H
 have A2 := Aside0.mk A20
 clear A20
 simp only [Option.some.injEq, Prod.mk.injEq] at H
 obtain ⟨rfl, rfl⟩ := H
 go_enter Try.func69, Try.ntmps69
 go_wp2_with (first | ((with_reducible refine gate_dst (N := 1) rfl ?_); refine zbx 1 #[.int .i64 a0_0, .slice A0_1 l0_1.length c0_1] 55 ?_; intro gb725 hg w3 hbox hb; have BK725 := Aside0.mk hbox; have GW725 := Aside0.mk ((y5 hg HB.out : w.heap.size ≤ gb725)); have GE725 := Aside0.mk ((y5 hg HB.out : w.heap.size ≤ gb725)); replace HB := Aside0.mk (below_step (y2 HB.out) hb); clear hb hbox hg) | ((with_reducible refine gate_dst (N := 2) rfl ?_); refine zbx 2 #[.slice none 0 0] 30 ?_; intro gb726 hg w4 hbox hb; have BK726 := Aside0.mk hbox; have GW726 := Aside0.mk ((y6 hg HB.out GE725.out : w.heap.size ≤ gb726)); have GE726 := Aside0.mk ((y6 hg HB.out GE725.out : w.heap.size ≤ gb726)); replace HB := Aside0.mk (below_step (y3 HB.out GE725.out) hb); have NB725_726 := zltn hg BK725; have NB726_725 := zgtn hg BK725; replace BK725 := zbb BK725 hb; clear hb hbox hg; have hnb5 := NB725_726.out; have hnc5 := NB726_725.out; have hcz6_0 := zh BK725; have hcz6_1 := zh1 BK725; have hfz6_0 := zfr BK725 0; have hfz6_1 := zfr BK725 1) | ((with_reducible refine gate_callee (f := 88) rfl ?_); refine goesL_ (some 5) rfl rfl Try.func88 (by kernel_rfl) rfl #[.agg #[.int .i64 a0_0, .slice A0_1 l0_1.length c0_1], .int .i64 4] rfl y4 ?_; (with_reducible refine (impl_valType.calls k a0_0 _ _ l0_1 4 t727 t730 _ ?side1 ?side2 A2.out).mono ?_); (case side1 => exact y8 HR0_1.out HB.out); (case side2 => exact HC0_1.out); rintro e w7 ⟨v728, rfl, ho0, hb⟩; refine ⟨_, rfl, ?_⟩; have HO729 := Aside0.mk (Kd.N_lower (Kd.N_mono (ok' := fun k_ => (w.heap.size ≤ k_) ∧ k_ ≠ gb725 ∧ k_ ≠ gb726) ho0 (fun k_ hk_ => ⟨(Nat.le_trans (below_size (y1 HB.out GE725.out GE726.out)) hk_), (Kd.freshB (g := gb725) (o := .cells #[.int .i64 a0_0, .slice A0_1 l0_1.length c0_1] 55 (0, 0)) (y0 BK725.out) k_ hk_), (Kd.freshB (g := gb726) (o := .cells #[.slice none 0 0] 30 (0, 0)) (y0 BK726.out) k_ hk_)⟩)) (below_size (y1 HB.out GE725.out GE726.out))); replace BK725 := zbb BK725 hb; replace BK726 := zbb BK726 hb; replace HB := Aside0.mk (below_step (y1 HB.out GE725.out GE726.out) hb); (try clear hb); (try clear hb2); (try clear hk); (try clear hi); (try clear ho0); obtain ⟨Ao8, co8, eo8⟩ := Kd.N_slice HO729.out; subst eo8; have hcz9_0 := zh BK726; have hfz9_0 := zfr BK726 0))
 refine bodyPost_ret (results_ct rfl _ _ gb726 30 #[.slice Ao8 t727.length co8] (0, 0) _ rfl (by (with_reducible repeat (first | refine blk_drewN ?_ _ | refine blk_drew ?_ | refine blk_alloc ?_ _)); apply blk_put (i := 0); (case h => exact y0 BK726.out); (case e => rfl)) Try.underlying30 rfl (by kernel_rfl)) rfl ?_
 exact ⟨_, y14, (by (with_reducible repeat (first | apply Kd.N_alloc | apply Kd.N_drewN | apply Kd.N_drew)); exact Kd.N_mono (Kd.N_far (p := ⟨gb726, 0, none⟩) (Kd.N_mono HO729.out (fun k_ hk => (⟨hk, hk.2.2⟩ : _ ∧ k_ ≠ gb726))) (fun _ hk => hk.2) (.slice Ao8 t727.length co8)) (fun _ hk => hk.1.1)), (y1 HB.out GE725.out GE726.out)⟩
end Go.Proofs.Ytjhbhihfifhljaa.PA
end
section
namespace Go.Proofs.Ytjhbhihfifhljaa.PA
open Go.RowKit Go.Proofs.YtjhbhihfifhljaaW.PrintWords Go.Proofs.YtjhbhihfifhljaaW.PrintLast Go.Proofs.YtjhbhihfifhljaaW.PrintMore
attribute [local go_sem] max2_int min2_int max_two min_two max_three min_three max_four min_four
set_option linter.unusedVariables false
set_option linter.unusedSimpArgs false
mutual
def impl_typeSame.l0 : Nat → Int → Int → List (S30) → List (S30) → Option (Bool)
 | 0, _, _, _, _ => none
 | k + 1, x15, x16, x732000, x733000 => if x16 < x15 then (if 0 ≤ x16 then (if x16 < (x732000.length : Int) then (if x16 < (x733000.length : Int) then ((impl_typeSame.f k ((rd_T30 x732000 x16).f0) ((rd_T30 x733000 x16).f0)).bind fun t735 => (if t735 = true then (impl_typeSame.l0 k x15 (wrap64 (x16 + 1)) x732000 x733000) else (some false))) else (none)) else (none)) else (none)) else (some true)
def impl_typeSame.f : Nat → List (S30) → List (S30) → Option (Bool)
 | 0, _, _ => none
 | k + 1, l0_0, l1_0 => if (l0_0.length : Int) = (l1_0.length : Int) then (impl_typeSame.l0 k (l0_0.length : Int) 0 l0_0 l1_0) else (some false)
end
theorem impl_typeSame.mono_l : ∀ k, (∀ y0 y1, LeO (impl_typeSame.f k y0 y1) (impl_typeSame.f (k + 1) y0 y1)) ∧ (∀ y0 y1 y2 y3, LeO (impl_typeSame.l0 k y0 y1 y2 y3) (impl_typeSame.l0 (k + 1) y0 y1 y2 y3))
 | 0 => ⟨fun _ _ r h => by simp [impl_typeSame.f] at h, fun _ _ _ _ r h => by simp [impl_typeSame.l0] at h⟩
 | k + 1 => by
  obtain ⟨ih0, ih1⟩ := impl_typeSame.mono_l k
  refine ⟨?_, ?_⟩
  ·intro y0 y1
   unfold impl_typeSame.f
   repeat' first
   | (with_reducible exact ih0 _ _)
   | (with_reducible exact ih1 _ _ _ _)
   | (with_reducible exact LeO.refl _)
   | (with_reducible exact LeO.none _)
   | (with_reducible refine LeO.ite ?_ ?_)
   | (with_reducible refine LeO.bind ?_ (fun _ => ?_))
   | exact ih0 _ _
   | exact ih1 _ _ _ _
   | exact LeO.none _
   | refine LeO.ite ?_ ?_
   | refine LeO.bind ?_ (fun _ => ?_)
  ·intro y0 y1 y2 y3
   unfold impl_typeSame.l0
   repeat' first
   | (with_reducible exact ih0 _ _)
   | (with_reducible exact ih1 _ _ _ _)
   | (with_reducible exact LeO.refl _)
   | (with_reducible exact LeO.none _)
   | (with_reducible refine LeO.ite ?_ ?_)
   | (with_reducible refine LeO.bind ?_ (fun _ => ?_))
   | exact ih0 _ _
   | exact ih1 _ _ _ _
   | exact LeO.none _
   | refine LeO.ite ?_ ?_
   | refine LeO.bind ?_ (fun _ => ?_)
theorem impl_typeSame.mono : ∀ a0 a1 k, LeO (impl_typeSame.f k a0 a1) (impl_typeSame.f (k + 1) a0 a1) := by
 intro a0 a1 k
 obtain ⟨ih0, ih1⟩ := impl_typeSame.mono_l k
 exact ih0 a0 a1
def impl_typeSame.T6 : Bool × List (List Nat × List Nat) := (true, [([], []), ([0], [0]), ([], []), ([1, 2], [1, 2]), ([3], [3]), ([], []), ([5], [5]), ([], []), ([6, 7], [6, 7]), ([8], [8]), ([4, 9], [4, 9]), ([10], [10])])
def impl_typeSame.B6 : List Nat := [0, 1, 0, 7, 15, 0, 32, 0, 224, 480, 1023, 2047]
theorem impl_typeSame.tab6 : rtab .any (opsOf Try.f70 6) = impl_typeSame.T6 := by kernel_rfl
theorem impl_typeSame.bits6 : waitsOk impl_typeSame.T6.2 impl_typeSame.B6 = true := by kernel_rfl
set_option maxHeartbeats 8000000 in
set_option maxRecDepth 100000 in
theorem impl_typeSame.calls (k : Nat) : ∀ (A0_0 : Option Addr) (c0_0 : Nat) (l0_0 : List (S30)) (A1_0 : Option Addr) (c1_0 : Nat) (l1_0 : List (S30)) (r : Bool) (w : World) (hr0_0 : Kd.C k30 w A0_0 l0_0.length l0_0) (hc0_0 : l0_0.length ≤ c0_0) (hr1_0 : Kd.C k30 w A1_0 l1_0.length l1_0) (hc1_0 : l1_0.length ≤ c1_0) (h : impl_typeSame.f k l0_0 l1_0 = some r),
  Calls Try.prog 70 #[.agg #[.slice A0_0 l0_0.length c0_0], .agg #[.slice A1_0 l1_0.length c1_0]] w fun e w' => e = .returned (.bool r) ∧ Below w.heap.size w w' := by
 induction k using Nat.strongRecOn with
 | _ k ih =>
 intro A0_0 c0_0 l0_0 A1_0 c1_0 l1_0 r w hr0_0 hc0_0 hr1_0 hc1_0 h
 cases k with
 | zero => exact absurd h (by simp [impl_typeSame.f])
 | succ k =>
 simp only [impl_typeSame.f] at h
 have hu30 := Try.underlying30
 have HR0_0 := Aside0.mk hr0_0
 have HC0_0 := Aside0.mk hc0_0
 clear hr0_0 hc0_0
 have HR1_0 := Aside0.mk hr1_0
 have HC1_0 := Aside0.mk hc1_0
 clear hr1_0 hc1_0
 have HB := Aside0.mk (Below.refl w.heap.size w)
 have H : (if (l0_0.length : Int) = (l1_0.length : Int) then (impl_typeSame.l0 k (l0_0.length : Int) 0 l0_0 l1_0) else (some false)) = some r := h
 clear h
 by_cases c3 : (l0_0.length : Int) = (l1_0.length : Int)
 ·rw [if_pos c3] at H
  have c3b0 : ((l0_0.length : Int) == (l1_0.length : Int)) = true := beq_iff_eq.mpr c3
  have c3b1 : ((l0_0.length : Int) != (l1_0.length : Int)) = false := bne_eq_false_iff_eq.mpr c3
  have c3b2 : (l0_0.length == l1_0.length) = true := by first | simpa using c3 | (simp at c3 ⊢; omega)
  clear c3
  have H' := Aside0.mk H
  clear H
  go_enter Try.func70, Try.ntmps70
  go_wp2_with (first | ((with_reducible refine gate_dst (N := 2) rfl ?_); refine zbx 2 #[.slice A0_0 l0_0.length c0_0] 30 ?_; intro gb731 hg w4 hbox hb; have BK731 := Aside0.mk hbox; have GW731 := Aside0.mk ((y5 hg HB.out : w.heap.size ≤ gb731)); have GE731 := Aside0.mk ((y5 hg HB.out : w.heap.size ≤ gb731)); replace HB := Aside0.mk (below_step (y2 HB.out) hb); clear hb hbox hg) | ((with_reducible refine gate_dst (N := 3) rfl ?_); refine zbx 3 #[.slice A1_0 l1_0.length c1_0] 30 ?_; intro gb732 hg w5 hbox hb; have BK732 := Aside0.mk hbox; have GW732 := Aside0.mk ((y6 hg HB.out GE731.out : w.heap.size ≤ gb732)); have GE732 := Aside0.mk ((y6 hg HB.out GE731.out : w.heap.size ≤ gb732)); replace HB := Aside0.mk (below_step (y3 HB.out GE731.out) hb); have NB731_732 := zltn hg BK731; have NB732_731 := zgtn hg BK731; replace BK731 := zbb BK731 hb; clear hb hbox hg; have hnb6 := NB731_732.out; have hnc6 := NB732_731.out; have hcz7_0 := zh BK731; have hfz7_0 := zfr BK731 0; have hcz8_0 := zh BK732; have hfz8_0 := zfr BK732 0))
  go_loopg [16] k (fun kq v16 w' => ∃ (x16_1 : Int), v16 = .int .i64 x16_1 ∧ Aside0 (impl_typeSame.l0 kq (l0_0.length : Int) x16_1 l0_0 l1_0 = some r) ∧ Aside0 (kq ≤ k) ∧ Aside0 (w'.heap[gb731]? = some (.cells #[(.slice A0_0 l0_0.length c0_0)] 30 (0, 0))) ∧ Aside0 (w'.heap[gb732]? = some (.cells #[(.slice A1_0 l1_0.length c1_0)] 30 (0, 0))) ∧ Aside0 (Below w.heap.size w w'))
  case atStart => exact ⟨(0), y26, H', ⟨Nat.le_refl _⟩, ⟨(y0 BK731.out)⟩, ⟨(y0 BK732.out)⟩, ⟨(y1 HB.out GE731.out GE732.out)⟩⟩
  case round =>
   clear H'
   try clear c1
   try clear p2
   try clear c3
   try clear c3b0
   try clear c3b1
   try clear c3b2
   try clear c6
   try clear c7
   try clear hcz7_0
   try clear hcz8_0
   try clear hfz7_0
   try clear hfz8_0
   obtain ⟨x16_1, rfl, HA, HK1, BK731, BK732, HB⟩ := hrel
   cases gk with
   | zero => exact absurd HA.out (by simp [impl_typeSame.l0])
   | succ k1 =>
    have H := HA.out
    clear HA
    simp only [impl_typeSame.l0] at H
    by_cases c9 : x16_1 < (l0_0.length : Int)
    ·rw [if_pos c9] at H
     have c9b0 : decide (x16_1 < (l0_0.length : Int)) = true := decide_eq_true c9
     clear c9
     by_cases c10 : 0 ≤ x16_1
     ·rw [if_pos c10] at H
      have c10b0 : decide (0 ≤ x16_1) = true := decide_eq_true c10
      clear c10
      by_cases c11 : x16_1 < (l0_0.length : Int)
      ·rw [if_pos c11] at H
       have c11b0 : decide (x16_1 < (l0_0.length : Int)) = true := decide_eq_true c11
       clear c11
       by_cases c12 : x16_1 < (l1_0.length : Int)
       ·rw [if_pos c12] at H
        have c12b0 : decide (x16_1 < (l1_0.length : Int)) = true := decide_eq_true c12
        clear c12
        obtain ⟨t735, A130, H⟩ := ob H
        have A13 := Aside0.mk A130
        clear A130
        by_cases c14 : t735 = true
        ·subst c14
         rw [if_pos rfl] at H
         have H' := Aside0.mk H
         clear H
         try go_wp2
         replace BK731 := Aside0.mk (blk_drew BK731.out)
         replace BK732 := Aside0.mk (blk_drew BK732.out)
         replace HB := Aside0.mk (below_drew1 HB.out)
         have p733 : 0 ≤ (x16_1 : Int) := of_decide_eq_true y19
         have q733 : x16_1 < (l0_0.length : Int) := of_decide_eq_true y19
         obtain ⟨ad733, A733_0, c733_0, e733, hx733_0, hl733_0, hi733_0⟩ := at_T30 HR0_0.out x16_1 p733 q733
         have hw733_0 := hx733_0
         cases e733
         replace hx733_0 := (HB.out.cell (World.block_lt_of_cell? w _ hx733_0)).trans hx733_0
         have HR733_0 := Aside0.mk hi733_0
         have HC733_0 := Aside0.mk hl733_0
         clear hi733_0 hl733_0
         replace p733 := eq_true p733
         replace q733 := eq_true q733
         have p734 : 0 ≤ (x16_1 : Int) := of_decide_eq_true y19
         have q734 : x16_1 < (l1_0.length : Int) := of_decide_eq_true y19
         obtain ⟨ad734, A734_0, c734_0, e734, hx734_0, hl734_0, hi734_0⟩ := at_T30 HR1_0.out x16_1 p734 q734
         have hw734_0 := hx734_0
         cases e734
         replace hx734_0 := (HB.out.cell (World.block_lt_of_cell? w _ hx734_0)).trans hx734_0
         have HR734_0 := Aside0.mk hi734_0
         have HC734_0 := Aside0.mk hl734_0
         clear hi734_0 hl734_0
         replace p734 := eq_true p734
         replace q734 := eq_true q734
         refine start_ (n := 12) (S := fun w' => w'.cell? ⟨gb731, 0, none⟩ = some (.slice (some ad733) l0_0.length c0_0) ∧ w'.cell? ⟨gb732, 0, none⟩ = some (.slice (some ad734) l1_0.length c1_0) ∧ w'.cell? (ad733.add (x16_1).toNat) = some (.slice A733_0 ((rd_T30 l0_0 x16_1).f0).length c733_0) ∧ w'.cell? (ad734.add (x16_1).toNat) = some (.slice A734_0 ((rd_T30 l1_0 x16_1).f0).length c734_0)) (ds := []) #[false, false, false, false, false, false, false, false, false, false, false, false] (by kernel_rfl) rfl rfl ⟨(blk_cell BK731.out 0).trans rfl, (blk_cell BK732.out 0).trans rfl, ((HB.out.cell (World.block_lt_of_cell? w _ hw733_0)).trans hw733_0), ((HB.out.cell (World.block_lt_of_cell? w _ hw734_0)).trans hw734_0)⟩ (fun hHeld => ?_); refine with_tabW impl_typeSame.tab6 impl_typeSame.bits6 (fun HT_ HW_ => ?_)
         generalize wr.drew = w15 at BK731 BK732 HB HR733_0 HR734_0 hx733_0 hx734_0 hHeld ⊢
         refine zp 0 (some 19) HT_ ?_
         refine zp 2 (some 21) HT_ ?_
         refine zp 5 (some 24) HT_ ?_
         refine zp 7 (some 26) HT_ ?_
         refine zt4 1 (some 20) HT_ HW_ hHeld ?_
         refine zp 3 (some 22) HT_ ?_
         refine zt4 4 (some 23) HT_ HW_ hHeld ?_
         refine zt4 6 (some 25) HT_ HW_ hHeld ?_
         refine zp 8 (some 27) HT_ ?_
         refine zt4 9 (some 28) HT_ HW_ hHeld ?_
         refine one_ (i := 10) (N := some 29) #[true, true, true, true, true, true, true, true, true, true, true, false] rfl rfl (one_of HT_.out (by kernel_rfl)) (by decide) (fun K hK => ?_)
         refine goes_ Try.func70 (by kernel_rfl) rfl #[.agg #[.slice A733_0 ((rd_T30 l0_0 x16_1).f0).length c733_0], .agg #[.slice A734_0 ((rd_T30 l1_0 x16_1).f0).length c734_0]] (by rfl) rfl rfl y4 ?_
         with_reducible refine (ih k1 (y46 HK1.out) _ _ ((rd_T30 l0_0 x16_1).f0) _ _ ((rd_T30 l1_0 x16_1).f0) true _ ?side1 ?side2 ?side3 ?side4 A13.out).mono ?_
         (case side1 => exact y8 HR733_0.out HB.out)
         (case side2 => exact HC733_0.out)
         (case side3 => exact y8 HR734_0.out HB.out)
         (case side4 => exact HC734_0.out)
         rintro e w16 ⟨rfl, hb⟩
         refine ⟨_, rfl, ?_⟩
         replace BK731 := zbb BK731 hb
         replace BK732 := zbb BK732 hb
         replace HB := Aside0.mk (below_step (y1 HB.out GE731.out GE732.out) hb)
         (try clear hb)
         (try clear hb2)
         (try clear hk)
         (try clear hi)
         refine hK.out _ _ ⟨(blk_cell BK731.out 0).trans rfl, (blk_cell BK732.out 0).trans rfl, ((HB.out.cell (World.block_lt_of_cell? w _ hw733_0)).trans hw733_0), ((HB.out.cell (World.block_lt_of_cell? w _ hw734_0)).trans hw734_0)⟩ (fun hHeld => ?_)
         clear hK K
         refine norm_ (a' := ?_) ?_ ?_
         rotate_left
         ·show Act.put _ (some 29) _ = _
          simp only [Act.put, List.setIfInBounds_toArray, List.set_cons_zero, List.set_cons_succ, i64_w, i32_w]
          rfl
         refine zp 11 (some 30) HT_ ?_
         refine done_ (done_of HT_.out (by kernel_rfl)) ?_
         try go_wp2
         go_roundg k1
         case measure => have := HK1.out; omega
         case rel => exact ⟨(wrap64 (x16_1 + 1)), y26, H', ⟨(y46 HK1.out)⟩, ⟨(y0 BK731.out)⟩, ⟨(y0 BK732.out)⟩, ⟨(y1 HB.out GE731.out GE732.out)⟩⟩
        ·replace c14 := Bool.eq_false_iff.mpr c14
         subst c14
         rw [if_neg (show ¬ (false = true) by decide)] at H
         obtain rfl := Option.some.inj H
         try go_wp2
         replace BK731 := Aside0.mk (blk_drew BK731.out)
         replace BK732 := Aside0.mk (blk_drew BK732.out)
         replace HB := Aside0.mk (below_drew1 HB.out)
         have p733 : 0 ≤ (x16_1 : Int) := of_decide_eq_true y19
         have q733 : x16_1 < (l0_0.length : Int) := of_decide_eq_true y19
         obtain ⟨ad733, A733_0, c733_0, e733, hx733_0, hl733_0, hi733_0⟩ := at_T30 HR0_0.out x16_1 p733 q733
         have hw733_0 := hx733_0
         cases e733
         replace hx733_0 := (HB.out.cell (World.block_lt_of_cell? w _ hx733_0)).trans hx733_0
         have HR733_0 := Aside0.mk hi733_0
         have HC733_0 := Aside0.mk hl733_0
         clear hi733_0 hl733_0
         replace p733 := eq_true p733
         replace q733 := eq_true q733
         have p734 : 0 ≤ (x16_1 : Int) := of_decide_eq_true y19
         have q734 : x16_1 < (l1_0.length : Int) := of_decide_eq_true y19
         obtain ⟨ad734, A734_0, c734_0, e734, hx734_0, hl734_0, hi734_0⟩ := at_T30 HR1_0.out x16_1 p734 q734
         have hw734_0 := hx734_0
         cases e734
         replace hx734_0 := (HB.out.cell (World.block_lt_of_cell? w _ hx734_0)).trans hx734_0
         have HR734_0 := Aside0.mk hi734_0
         have HC734_0 := Aside0.mk hl734_0
         clear hi734_0 hl734_0
         replace p734 := eq_true p734
         replace q734 := eq_true q734
         refine start_ (n := 12) (S := fun w' => w'.cell? ⟨gb731, 0, none⟩ = some (.slice (some ad733) l0_0.length c0_0) ∧ w'.cell? ⟨gb732, 0, none⟩ = some (.slice (some ad734) l1_0.length c1_0) ∧ w'.cell? (ad733.add (x16_1).toNat) = some (.slice A733_0 ((rd_T30 l0_0 x16_1).f0).length c733_0) ∧ w'.cell? (ad734.add (x16_1).toNat) = some (.slice A734_0 ((rd_T30 l1_0 x16_1).f0).length c734_0)) (ds := []) #[false, false, false, false, false, false, false, false, false, false, false, false] (by kernel_rfl) rfl rfl ⟨(blk_cell BK731.out 0).trans rfl, (blk_cell BK732.out 0).trans rfl, ((HB.out.cell (World.block_lt_of_cell? w _ hw733_0)).trans hw733_0), ((HB.out.cell (World.block_lt_of_cell? w _ hw734_0)).trans hw734_0)⟩ (fun hHeld => ?_); refine with_tabW impl_typeSame.tab6 impl_typeSame.bits6 (fun HT_ HW_ => ?_)
         generalize wr.drew = w17 at BK731 BK732 HB HR733_0 HR734_0 hx733_0 hx734_0 hHeld ⊢
         refine zp 0 (some 19) HT_ ?_
         refine zp 2 (some 21) HT_ ?_
         refine zp 5 (some 24) HT_ ?_
         refine zp 7 (some 26) HT_ ?_
         refine zt4 1 (some 20) HT_ HW_ hHeld ?_
         refine zp 3 (some 22) HT_ ?_
         refine zt4 4 (some 23) HT_ HW_ hHeld ?_
         refine zt4 6 (some 25) HT_ HW_ hHeld ?_
         refine zp 8 (some 27) HT_ ?_
         refine zt4 9 (some 28) HT_ HW_ hHeld ?_
         refine one_ (i := 10) (N := some 29) #[true, true, true, true, true, true, true, true, true, true, true, false] rfl rfl (one_of HT_.out (by kernel_rfl)) (by decide) (fun K hK => ?_)
         refine goes_ Try.func70 (by kernel_rfl) rfl #[.agg #[.slice A733_0 ((rd_T30 l0_0 x16_1).f0).length c733_0], .agg #[.slice A734_0 ((rd_T30 l1_0 x16_1).f0).length c734_0]] (by rfl) rfl rfl y4 ?_
         with_reducible refine (ih k1 (y46 HK1.out) _ _ ((rd_T30 l0_0 x16_1).f0) _ _ ((rd_T30 l1_0 x16_1).f0) false _ ?side1 ?side2 ?side3 ?side4 A13.out).mono ?_
         (case side1 => exact y8 HR733_0.out HB.out)
         (case side2 => exact HC733_0.out)
         (case side3 => exact y8 HR734_0.out HB.out)
         (case side4 => exact HC734_0.out)
         rintro e w18 ⟨rfl, hb⟩
         refine ⟨_, rfl, ?_⟩
         replace BK731 := zbb BK731 hb
         replace BK732 := zbb BK732 hb
         replace HB := Aside0.mk (below_step (y1 HB.out GE731.out GE732.out) hb)
         (try clear hb)
         (try clear hb2)
         (try clear hk)
         (try clear hi)
         refine hK.out _ _ ⟨(blk_cell BK731.out 0).trans rfl, (blk_cell BK732.out 0).trans rfl, ((HB.out.cell (World.block_lt_of_cell? w _ hw733_0)).trans hw733_0), ((HB.out.cell (World.block_lt_of_cell? w _ hw734_0)).trans hw734_0)⟩ (fun hHeld => ?_)
         clear hK K
         refine norm_ (a' := ?_) ?_ ?_
         rotate_left
         ·show Act.put _ (some 29) _ = _
          simp only [Act.put, List.setIfInBounds_toArray, List.set_cons_zero, List.set_cons_succ, i64_w, i32_w]
          rfl
         refine zp 11 (some 30) HT_ ?_
         refine done_ (done_of HT_.out (by kernel_rfl)) ?_
         try go_wp2
         go_ret
         exact ⟨y14, (y1 HB.out GE731.out GE732.out)⟩
       ·rw [if_neg c12] at H
        exact absurd H (by simp)
      ·rw [if_neg c11] at H
       exact absurd H (by simp)
     ·rw [if_neg c10] at H
      exact absurd H (by simp)
    ·rw [if_neg c9] at H
     have c9b0 : decide (x16_1 < (l0_0.length : Int)) = false := decide_eq_false c9
     clear c9
     obtain rfl := Option.some.inj H
     go_wp2
     go_ret
     exact ⟨y14, (y1 HB.out GE731.out GE732.out)⟩
 ·rw [if_neg c3] at H
  have c3b0 : ((l0_0.length : Int) == (l1_0.length : Int)) = false := beq_eq_false_iff_ne.mpr c3
  have c3b1 : ((l0_0.length : Int) != (l1_0.length : Int)) = true := bne_iff_ne.mpr c3
  have c3b2 : (l0_0.length == l1_0.length) = false := by first | simpa using c3 | (simp at c3 ⊢; omega)
  obtain rfl := Option.some.inj H
  go_enter Try.func70, Try.ntmps70
  go_wp2_with (first | ((with_reducible refine gate_dst (N := 2) rfl ?_); refine zbx 2 #[.slice A0_0 l0_0.length c0_0] 30 ?_; intro gb731 hg w19 hbox hb; have BK731 := Aside0.mk hbox; have GW731 := Aside0.mk ((y5 hg HB.out : w.heap.size ≤ gb731)); have GE731 := Aside0.mk ((y5 hg HB.out : w.heap.size ≤ gb731)); replace HB := Aside0.mk (below_step (y2 HB.out) hb); clear hb hbox hg) | ((with_reducible refine gate_dst (N := 3) rfl ?_); refine zbx 3 #[.slice A1_0 l1_0.length c1_0] 30 ?_; intro gb732 hg w20 hbox hb; have BK732 := Aside0.mk hbox; have GW732 := Aside0.mk ((y6 hg HB.out GE731.out : w.heap.size ≤ gb732)); have GE732 := Aside0.mk ((y6 hg HB.out GE731.out : w.heap.size ≤ gb732)); replace HB := Aside0.mk (below_step (y3 HB.out GE731.out) hb); have NB731_732 := zltn hg BK731; have NB732_731 := zgtn hg BK731; replace BK731 := zbb BK731 hb; clear hb hbox hg; have hnb21 := NB731_732.out; have hnc21 := NB732_731.out; have hcz22_0 := zh BK731; have hfz22_0 := zfr BK731 0; have hcz23_0 := zh BK732; have hfz23_0 := zfr BK732 0))
  go_ret
  exact ⟨y14, (y1 HB.out GE731.out GE732.out)⟩
end Go.Proofs.Ytjhbhihfifhljaa.PA
end
section
namespace Go.Proofs.Ytjhbhihfifhljaa.PA
open Go.RowKit Go.Proofs.YtjhbhihfifhljaaW.PrintWords Go.Proofs.YtjhbhihfifhljaaW.PrintLast Go.Proofs.YtjhbhihfifhljaaW.PrintMore
attribute [local go_sem] max2_int min2_int max_two min_two max_three min_three max_four min_four
set_option linter.unusedVariables false
set_option linter.unusedSimpArgs false
def impl_ValOk.f (k : Nat) (l0_0 : List (S30)) (a1_0 : Int) (l1_1 : List (S55)) : Option (Bool) := (impl_TypeOk.f k l0_0).bind fun t738 => (if t738 = true then ((impl_valTyped.f k a1_0 l1_1).bind fun bt739 => (if bt739.2 = true then ((impl_typeSame.f k bt739.1 l0_0).bind fun t744 => (some t744)) else (some false))) else (some false))
theorem impl_ValOk.mono : ∀ a0 a1 a2 k, LeO (impl_ValOk.f k a0 a1 a2) (impl_ValOk.f (k + 1) a0 a1 a2) := by
 intro a0 a1 a2 k
 unfold impl_ValOk.f
 repeat' first
   | (with_reducible exact impl_TypeOk.mono _ _)
   | (with_reducible exact impl_typeSame.mono _ _ _)
   | (with_reducible exact impl_valTyped.mono _ _ _)
   | (with_reducible exact LeO.refl _)
   | (with_reducible exact LeO.none _)
   | (with_reducible refine LeO.ite ?_ ?_)
   | (with_reducible refine LeO.bind ?_ (fun _ => ?_))
   | exact impl_TypeOk.mono _ _
   | exact impl_typeSame.mono _ _ _
   | exact impl_valTyped.mono _ _ _
   | exact LeO.none _
   | refine LeO.ite ?_ ?_
   | refine LeO.bind ?_ (fun _ => ?_)
set_option maxHeartbeats 8000000 in
set_option maxRecDepth 100000 in
theorem impl_ValOk.calls (k : Nat) (A0_0 : Option Addr) (c0_0 : Nat) (l0_0 : List (S30)) (a1_0 : Int) (A1_1 : Option Addr) (c1_1 : Nat) (l1_1 : List (S55)) (r : Bool) (w : World) (hr0_0 : Kd.C k30 w A0_0 l0_0.length l0_0) (hc0_0 : l0_0.length ≤ c0_0) (hr1_1 : Kd.C k55 w A1_1 l1_1.length l1_1) (hc1_1 : l1_1.length ≤ c1_1) (h : impl_ValOk.f k l0_0 a1_0 l1_1 = some r) :
  Calls Try.prog 35 #[.agg #[.slice A0_0 l0_0.length c0_0], .agg #[.int .i64 a1_0, .slice A1_1 l1_1.length c1_1]] w fun e w' => e = .returned (.bool r) ∧ Below w.heap.size w w' := by
 have hu30 := Try.underlying30
 have hu55 := Try.underlying55
 have HR0_0 := Aside0.mk hr0_0
 have HC0_0 := Aside0.mk hc0_0
 clear hr0_0 hc0_0
 have HR1_1 := Aside0.mk hr1_1
 have HC1_1 := Aside0.mk hc1_1
 clear hr1_1 hc1_1
 have HB := Aside0.mk (Below.refl w.heap.size w)
 have H : ((impl_TypeOk.f k l0_0).bind fun t738 => (if t738 = true then ((impl_valTyped.f k a1_0 l1_1).bind fun bt739 => (if bt739.2 = true then ((impl_typeSame.f k bt739.1 l0_0).bind fun t744 => (some t744)) else (some false))) else (some false))) = some r := h
 clear h
 obtain ⟨t738, A30, H⟩ := ob H
 have A3 := Aside0.mk A30
 clear A30
 by_cases c4 : t738 = true
 ·subst c4
  rw [if_pos rfl] at H
  obtain ⟨⟨t739, t742⟩, A50, H⟩ := ob H
  have A5 := Aside0.mk A50
  clear A50
  by_cases c6 : t742 = true
  ·subst c6
   rw [if_pos rfl] at H
   obtain ⟨t744, A70, H⟩ := ob H
   have A7 := Aside0.mk A70
   clear A70
   obtain rfl := Option.some.inj H
   go_enter Try.func35, Try.ntmps35
   go_wp2_with (first | ((with_reducible refine gate_dst (N := 2) rfl ?_); refine zbx 2 #[.slice A0_0 l0_0.length c0_0] 30 ?_; intro gb736 hg w8 hbox hb; have BK736 := Aside0.mk hbox; have GW736 := Aside0.mk ((y5 hg HB.out : w.heap.size ≤ gb736)); have GE736 := Aside0.mk ((y5 hg HB.out : w.heap.size ≤ gb736)); replace HB := Aside0.mk (below_step (y2 HB.out) hb); clear hb hbox hg) | ((with_reducible refine gate_dst (N := 3) rfl ?_); refine zbx 3 #[.int .i64 a1_0, .slice A1_1 l1_1.length c1_1] 55 ?_; intro gb737 hg w9 hbox hb; have BK737 := Aside0.mk hbox; have GW737 := Aside0.mk ((y6 hg HB.out GE736.out : w.heap.size ≤ gb737)); have GE737 := Aside0.mk ((y6 hg HB.out GE736.out : w.heap.size ≤ gb737)); replace HB := Aside0.mk (below_step (y3 HB.out GE736.out) hb); have NB736_737 := zltn hg BK736; have NB737_736 := zgtn hg BK736; replace BK736 := zbb BK736 hb; clear hb hbox hg; have hnb10 := NB736_737.out; have hnc10 := NB737_736.out; have hcz11_0 := zh BK736; have hfz11_0 := zfr BK736 0) | ((with_reducible refine gate_callee (f := 18) rfl ?_); refine goesL_ (some 8) rfl rfl Try.func18 (by kernel_rfl) rfl #[.agg #[.slice A0_0 l0_0.length c0_0]] rfl y4 ?_; (with_reducible refine (impl_TypeOk.calls k _ _ l0_0 true _ ?side1 ?side2 A3.out).mono ?_); (case side1 => exact y8 HR0_0.out HB.out); (case side2 => exact HC0_0.out); rintro e w12 ⟨rfl, hb⟩; refine ⟨_, rfl, ?_⟩; replace BK736 := zbb BK736 hb; replace BK737 := zbb BK737 hb; replace HB := Aside0.mk (below_step (y1 HB.out GE736.out GE737.out) hb); (try clear hb); (try clear hb2); (try clear hk); (try clear hi); have hcz13_0 := zh BK737; have hcz13_1 := zh1 BK737; have hfz13_0 := zfr BK737 0; have hfz13_1 := zfr BK737 1) | ((with_reducible refine gate_callee (f := 69) rfl ?_); refine goesL_ (some 12) rfl rfl Try.func69 (by kernel_rfl) rfl #[.agg #[.int .i64 a1_0, .slice A1_1 l1_1.length c1_1]] rfl y4 ?_; (with_reducible refine (impl_valTyped.calls k a1_0 _ _ l1_1 t739 true _ ?side1 ?side2 A5.out).mono ?_); (case side1 => exact y8 HR1_1.out HB.out); (case side2 => exact HC1_1.out); rintro e w14 ⟨v740, rfl, ho0, hb⟩; refine ⟨_, rfl, ?_⟩; have HO741 := Aside0.mk (Kd.N_lower (Kd.N_mono (ok' := fun k_ => k_ ≠ gb736 ∧ k_ ≠ gb737) ho0 (fun k_ hk_ => ⟨(Kd.freshB (g := gb736) (o := .cells #[.slice A0_0 l0_0.length c0_0] 30 (0, 0)) (y0 BK736.out) k_ hk_), (Kd.freshB (g := gb737) (o := .cells #[.int .i64 a1_0, .slice A1_1 l1_1.length c1_1] 55 (0, 0)) (y0 BK737.out) k_ hk_)⟩)) (below_size (y1 HB.out GE736.out GE737.out))); replace BK736 := zbb BK736 hb; replace BK737 := zbb BK737 hb; replace HB := Aside0.mk (below_step (y1 HB.out GE736.out GE737.out) hb); (try clear hb); (try clear hb2); (try clear hk); (try clear hi); (try clear ho0)) | ((with_reducible refine gate_dst (N := 5) rfl ?_); refine zbx 5 #[.slice none 0 0] 30 ?_; intro gb743 hg w15 hbox hb; replace HO741 := Aside0.mk (Kd.N_below (Kd.N_elderB (y9 HO741.out) gb743 (Nat.le_of_eq hg.symm)) hb); have BK743 := Aside0.mk hbox; have GW743 := Aside0.mk ((y20 hg HB.out GE736.out GE737.out : w.heap.size ≤ gb743)); have GE743 := Aside0.mk ((y20 hg HB.out GE736.out GE737.out : w.heap.size ≤ gb743)); replace HB := Aside0.mk (below_step (y1 HB.out GE736.out GE737.out) hb); have NB736_743 := zltn hg BK736; have NB743_736 := zgtn hg BK736; replace BK736 := zbb BK736 hb; have NB737_743 := zltn hg BK737; have NB743_737 := zgtn hg BK737; replace BK737 := zbb BK737 hb; clear hb hbox hg; obtain ⟨Ao16, co16, eo16⟩ := Kd.N_slice HO741.out; subst eo16; have hnb17 := NB743_736.out; have hnc17 := NB736_743.out; have hnb18 := NB743_737.out; have hnc18 := NB737_743.out; have hcz19_0 := zh BK743; have hfz19_0 := zfr BK743 0; have hcz20_0 := zh BK736; have hfz20_0 := zfr BK736 0) | (go_at_call 70; (with_reducible refine (impl_typeSame.calls k _ _ t739 _ _ l0_0 t744 _ ?side1 ?side2 ?side3 ?side4 A7.out).mono ?_); (case side1 => refine (Kd.N_reads' (e := 30) (base := w.heap.size) (ok := fun k_ => ((k_ ≠ gb736 ∧ k_ ≠ gb737) ∧ k_ ≠ gb743)) (n := t739.length) (c := co16) ?_).2.2; exact (by (with_reducible repeat (first | apply Kd.N_alloc | apply Kd.N_drewN | apply Kd.N_drew)); exact (Kd.N_mono (Kd.N_far (p := ⟨gb743, 0, none⟩) (Kd.N_mono HO741.out (fun k_ hk => (⟨hk, hk.2⟩ : _ ∧ k_ ≠ gb743))) (fun _ hk => hk.2) (.slice Ao16 t739.length co16)) (fun _ h_ => h_.1)))); (case side2 => exact (Kd.N_reads' HO741.out).2.1); (case side3 => exact y38 HR0_0.out HB.out GE736.out GE737.out GE743.out); (case side4 => exact HC0_0.out); rintro e w21 ⟨rfl, hb⟩; replace HO741 := Aside0.mk (Kd.N_below (by (with_reducible repeat (first | apply Kd.N_alloc | apply Kd.N_drewN | apply Kd.N_drew)); exact (Kd.N_mono (Kd.N_far (p := ⟨gb743, 0, none⟩) (Kd.N_mono HO741.out (fun k_ hk => (⟨hk, hk.2⟩ : _ ∧ k_ ≠ gb743))) (fun _ hk => hk.2) (.slice Ao16 t739.length co16)) (fun _ h_ => h_.1))) hb); replace BK736 := zbf BK736 NB736_743 hb; replace BK737 := zbf BK737 NB737_743 hb; replace BK743 := Aside0.mk (blk_below (g := gb743) (o := .cells #[.slice Ao16 t739.length co16] 30 (0, 0)) (by (with_reducible repeat (first | refine blk_drewN ?_ _ | refine blk_drew ?_ | refine blk_alloc ?_ _)); apply blk_put (i := 0); (case h => exact y0 BK743.out); (case e => rfl)) hb); replace HB := Aside0.mk (below_step (y7 HB.out GE736.out GE737.out GE743.out) hb); (try clear hb); (try clear hb2); (try clear hk); (try clear hi)))
   go_ret
   exact ⟨y14, (y7 HB.out GE736.out GE737.out GE743.out)⟩
  ·replace c6 := Bool.eq_false_iff.mpr c6
   subst c6
   rw [if_neg (show ¬ (false = true) by decide)] at H
   obtain rfl := Option.some.inj H
   go_enter Try.func35, Try.ntmps35
   go_wp2_with (first | ((with_reducible refine gate_dst (N := 2) rfl ?_); refine zbx 2 #[.slice A0_0 l0_0.length c0_0] 30 ?_; intro gb736 hg w22 hbox hb; have BK736 := Aside0.mk hbox; have GW736 := Aside0.mk ((y5 hg HB.out : w.heap.size ≤ gb736)); have GE736 := Aside0.mk ((y5 hg HB.out : w.heap.size ≤ gb736)); replace HB := Aside0.mk (below_step (y2 HB.out) hb); clear hb hbox hg) | ((with_reducible refine gate_dst (N := 3) rfl ?_); refine zbx 3 #[.int .i64 a1_0, .slice A1_1 l1_1.length c1_1] 55 ?_; intro gb737 hg w23 hbox hb; have BK737 := Aside0.mk hbox; have GW737 := Aside0.mk ((y6 hg HB.out GE736.out : w.heap.size ≤ gb737)); have GE737 := Aside0.mk ((y6 hg HB.out GE736.out : w.heap.size ≤ gb737)); replace HB := Aside0.mk (below_step (y3 HB.out GE736.out) hb); have NB736_737 := zltn hg BK736; have NB737_736 := zgtn hg BK736; replace BK736 := zbb BK736 hb; clear hb hbox hg; have hnb24 := NB736_737.out; have hnc24 := NB737_736.out; have hcz25_0 := zh BK736; have hfz25_0 := zfr BK736 0) | ((with_reducible refine gate_callee (f := 18) rfl ?_); refine goesL_ (some 8) rfl rfl Try.func18 (by kernel_rfl) rfl #[.agg #[.slice A0_0 l0_0.length c0_0]] rfl y4 ?_; (with_reducible refine (impl_TypeOk.calls k _ _ l0_0 true _ ?side1 ?side2 A3.out).mono ?_); (case side1 => exact y8 HR0_0.out HB.out); (case side2 => exact HC0_0.out); rintro e w26 ⟨rfl, hb⟩; refine ⟨_, rfl, ?_⟩; replace BK736 := zbb BK736 hb; replace BK737 := zbb BK737 hb; replace HB := Aside0.mk (below_step (y1 HB.out GE736.out GE737.out) hb); (try clear hb); (try clear hb2); (try clear hk); (try clear hi); have hcz27_0 := zh BK737; have hcz27_1 := zh1 BK737; have hfz27_0 := zfr BK737 0; have hfz27_1 := zfr BK737 1) | ((with_reducible refine gate_callee (f := 69) rfl ?_); refine goesL_ (some 12) rfl rfl Try.func69 (by kernel_rfl) rfl #[.agg #[.int .i64 a1_0, .slice A1_1 l1_1.length c1_1]] rfl y4 ?_; (with_reducible refine (impl_valTyped.calls k a1_0 _ _ l1_1 t739 false _ ?side1 ?side2 A5.out).mono ?_); (case side1 => exact y8 HR1_1.out HB.out); (case side2 => exact HC1_1.out); rintro e w28 ⟨v740, rfl, ho0, hb⟩; refine ⟨_, rfl, ?_⟩; have HO741 := Aside0.mk (Kd.N_lower (Kd.N_mono (ok' := fun k_ => k_ ≠ gb736 ∧ k_ ≠ gb737) ho0 (fun k_ hk_ => ⟨(Kd.freshB (g := gb736) (o := .cells #[.slice A0_0 l0_0.length c0_0] 30 (0, 0)) (y0 BK736.out) k_ hk_), (Kd.freshB (g := gb737) (o := .cells #[.int .i64 a1_0, .slice A1_1 l1_1.length c1_1] 55 (0, 0)) (y0 BK737.out) k_ hk_)⟩)) (below_size (y1 HB.out GE736.out GE737.out))); replace BK736 := zbb BK736 hb; replace BK737 := zbb BK737 hb; replace HB := Aside0.mk (below_step (y1 HB.out GE736.out GE737.out) hb); (try clear hb); (try clear hb2); (try clear hk); (try clear hi); (try clear ho0)) | ((with_reducible refine gate_dst (N := 5) rfl ?_); refine zbx 5 #[.slice none 0 0] 30 ?_; intro gb743 hg w29 hbox hb; replace HO741 := Aside0.mk (Kd.N_below (Kd.N_elderB (y9 HO741.out) gb743 (Nat.le_of_eq hg.symm)) hb); have BK743 := Aside0.mk hbox; have GW743 := Aside0.mk ((y20 hg HB.out GE736.out GE737.out : w.heap.size ≤ gb743)); have GE743 := Aside0.mk ((y20 hg HB.out GE736.out GE737.out : w.heap.size ≤ gb743)); replace HB := Aside0.mk (below_step (y1 HB.out GE736.out GE737.out) hb); have NB736_743 := zltn hg BK736; have NB743_736 := zgtn hg BK736; replace BK736 := zbb BK736 hb; have NB737_743 := zltn hg BK737; have NB743_737 := zgtn hg BK737; replace BK737 := zbb BK737 hb; clear hb hbox hg; obtain ⟨Ao30, co30, eo30⟩ := Kd.N_slice HO741.out; subst eo30; have hnb31 := NB743_736.out; have hnc31 := NB736_743.out; have hnb32 := NB743_737.out; have hnc32 := NB737_743.out; have hcz33_0 := zh BK743; have hfz33_0 := zfr BK743 0))
   go_ret
   exact ⟨y14, (y7 HB.out GE736.out GE737.out GE743.out)⟩
 ·replace c4 := Bool.eq_false_iff.mpr c4
  subst c4
  rw [if_neg (show ¬ (false = true) by decide)] at H
  obtain rfl := Option.some.inj H
  go_enter Try.func35, Try.ntmps35
  go_wp2_with (first | ((with_reducible refine gate_dst (N := 2) rfl ?_); refine zbx 2 #[.slice A0_0 l0_0.length c0_0] 30 ?_; intro gb736 hg w34 hbox hb; have BK736 := Aside0.mk hbox; have GW736 := Aside0.mk ((y5 hg HB.out : w.heap.size ≤ gb736)); have GE736 := Aside0.mk ((y5 hg HB.out : w.heap.size ≤ gb736)); replace HB := Aside0.mk (below_step (y2 HB.out) hb); clear hb hbox hg) | ((with_reducible refine gate_dst (N := 3) rfl ?_); refine zbx 3 #[.int .i64 a1_0, .slice A1_1 l1_1.length c1_1] 55 ?_; intro gb737 hg w35 hbox hb; have BK737 := Aside0.mk hbox; have GW737 := Aside0.mk ((y6 hg HB.out GE736.out : w.heap.size ≤ gb737)); have GE737 := Aside0.mk ((y6 hg HB.out GE736.out : w.heap.size ≤ gb737)); replace HB := Aside0.mk (below_step (y3 HB.out GE736.out) hb); have NB736_737 := zltn hg BK736; have NB737_736 := zgtn hg BK736; replace BK736 := zbb BK736 hb; clear hb hbox hg; have hnb36 := NB736_737.out; have hnc36 := NB737_736.out; have hcz37_0 := zh BK736; have hfz37_0 := zfr BK736 0) | ((with_reducible refine gate_callee (f := 18) rfl ?_); refine goesL_ (some 8) rfl rfl Try.func18 (by kernel_rfl) rfl #[.agg #[.slice A0_0 l0_0.length c0_0]] rfl y4 ?_; (with_reducible refine (impl_TypeOk.calls k _ _ l0_0 false _ ?side1 ?side2 A3.out).mono ?_); (case side1 => exact y8 HR0_0.out HB.out); (case side2 => exact HC0_0.out); rintro e w38 ⟨rfl, hb⟩; refine ⟨_, rfl, ?_⟩; replace BK736 := zbb BK736 hb; replace BK737 := zbb BK737 hb; replace HB := Aside0.mk (below_step (y1 HB.out GE736.out GE737.out) hb); (try clear hb); (try clear hb2); (try clear hk); (try clear hi)))
  go_ret
  exact ⟨y14, (y1 HB.out GE736.out GE737.out)⟩
end Go.Proofs.Ytjhbhihfifhljaa.PA
end
section
namespace Go.Proofs.Ytjhbhihfifhljaa.PA
open Go.RowKit Go.Proofs.YtjhbhihfifhljaaW.PrintWords Go.Proofs.YtjhbhihfifhljaaW.PrintLast Go.Proofs.YtjhbhihfifhljaaW.PrintMore
attribute [local go_sem] max2_int min2_int max_two min_two max_three min_three max_four min_four
set_option linter.unusedVariables false
set_option linter.unusedSimpArgs false
mutual
def spec_l1Deep.j0 : Nat → Int → Bool → List (S30) → Option (Bool)
 | 0, _, _, _ => none
 | k + 1, x1, x19, x112000 => if x19 = true then (some false) else (spec_l1Deep.l0 k x1 0 x112000)
def spec_l1Deep.l0 : Nat → Int → Int → List (S30) → Option (Bool)
 | 0, _, _, _ => none
 | k + 1, x1, x5, x112000 => if x5 < (x112000.length : Int) then (if 0 ≤ x5 then ((spec_l1Deep.f k ((rd_T30 x112000 x5).f0) (wrap64 (x1 - 1))).bind fun t113 => (if t113 = true then (spec_l1Deep.l0 k x1 (wrap64 (x5 + 1)) x112000) else (some false))) else (none)) else (some true)
def spec_l1Deep.f : Nat → List (S30) → Int → Option (Bool)
 | 0, _, _ => none
 | k + 1, l0_0, a1 => if a1 < 1 then (spec_l1Deep.j0 k a1 true l0_0) else (if (l0_0.length : Int) = 0 then (spec_l1Deep.j0 k a1 false l0_0) else (spec_l1Deep.j0 k a1 ((l0_0.length : Int) != 2) l0_0))
end
theorem spec_l1Deep.mono_l : ∀ k, (∀ y0 y1, LeO (spec_l1Deep.f k y0 y1) (spec_l1Deep.f (k + 1) y0 y1)) ∧ (∀ y0 y1 y2, LeO (spec_l1Deep.j0 k y0 y1 y2) (spec_l1Deep.j0 (k + 1) y0 y1 y2)) ∧ (∀ y0 y1 y2, LeO (spec_l1Deep.l0 k y0 y1 y2) (spec_l1Deep.l0 (k + 1) y0 y1 y2))
 | 0 => ⟨fun _ _ r h => by simp [spec_l1Deep.f] at h, fun _ _ _ r h => by simp [spec_l1Deep.j0] at h, fun _ _ _ r h => by simp [spec_l1Deep.l0] at h⟩
 | k + 1 => by
  obtain ⟨ih0, ih1, ih2⟩ := spec_l1Deep.mono_l k
  refine ⟨?_, ?_, ?_⟩
  ·intro y0 y1
   unfold spec_l1Deep.f
   repeat' first
   | (with_reducible exact ih0 _ _)
   | (with_reducible exact ih1 _ _ _)
   | (with_reducible exact ih2 _ _ _)
   | (with_reducible exact LeO.refl _)
   | (with_reducible exact LeO.none _)
   | (with_reducible refine LeO.ite ?_ ?_)
   | (with_reducible refine LeO.bind ?_ (fun _ => ?_))
   | exact ih0 _ _
   | exact ih1 _ _ _
   | exact ih2 _ _ _
   | exact LeO.none _
   | refine LeO.ite ?_ ?_
   | refine LeO.bind ?_ (fun _ => ?_)
  ·intro y0 y1 y2
   unfold spec_l1Deep.j0
   repeat' first
   | (with_reducible exact ih0 _ _)
   | (with_reducible exact ih1 _ _ _)
   | (with_reducible exact ih2 _ _ _)
   | (with_reducible exact LeO.refl _)
   | (with_reducible exact LeO.none _)
   | (with_reducible refine LeO.ite ?_ ?_)
   | (with_reducible refine LeO.bind ?_ (fun _ => ?_))
   | exact ih0 _ _
   | exact ih1 _ _ _
   | exact ih2 _ _ _
   | exact LeO.none _
   | refine LeO.ite ?_ ?_
   | refine LeO.bind ?_ (fun _ => ?_)
  ·intro y0 y1 y2
   unfold spec_l1Deep.l0
   repeat' first
   | (with_reducible exact ih0 _ _)
   | (with_reducible exact ih1 _ _ _)
   | (with_reducible exact ih2 _ _ _)
   | (with_reducible exact LeO.refl _)
   | (with_reducible exact LeO.none _)
   | (with_reducible refine LeO.ite ?_ ?_)
   | (with_reducible refine LeO.bind ?_ (fun _ => ?_))
   | exact ih0 _ _
   | exact ih1 _ _ _
   | exact ih2 _ _ _
   | exact LeO.none _
   | refine LeO.ite ?_ ?_
   | refine LeO.bind ?_ (fun _ => ?_)
theorem spec_l1Deep.mono : ∀ a0 a1 k, LeO (spec_l1Deep.f k a0 a1) (spec_l1Deep.f (k + 1) a0 a1) := by
 intro a0 a1 k
 obtain ⟨ih0, ih1, ih2⟩ := spec_l1Deep.mono_l k
 exact ih0 a0 a1
set_option maxHeartbeats 8000000 in
set_option maxRecDepth 100000 in
theorem spec_l1Deep.calls (k : Nat) : ∀ (A0_0 : Option Addr) (c0_0 : Nat) (l0_0 : List (S30)) (a1 : Int) (r : Bool) (w : World) (hr0_0 : Kd.C k30 w A0_0 l0_0.length l0_0) (hc0_0 : l0_0.length ≤ c0_0) (h : spec_l1Deep.f k l0_0 a1 = some r),
  Calls Try.prog 47 #[.agg #[.slice A0_0 l0_0.length c0_0], .int .i64 a1] w fun e w' => e = .returned (.bool r) ∧ Below w.heap.size w w' := by
 induction k using Nat.strongRecOn with
 | _ k ih =>
 intro A0_0 c0_0 l0_0 a1 r w hr0_0 hc0_0 h
 cases k with
 | zero => exact absurd h (by simp [spec_l1Deep.f])
 | succ k =>
 simp only [spec_l1Deep.f] at h
 have hu30 := Try.underlying30
 have HR0_0 := Aside0.mk hr0_0
 have HC0_0 := Aside0.mk hc0_0
 clear hr0_0 hc0_0
 have HB := Aside0.mk (Below.refl w.heap.size w)
 have H : (if a1 < 1 then (spec_l1Deep.j0 k a1 true l0_0) else (if (l0_0.length : Int) = 0 then (spec_l1Deep.j0 k a1 false l0_0) else (spec_l1Deep.j0 k a1 ((l0_0.length : Int) != 2) l0_0))) = some r := h
 clear h
 have HC3 := Aside0.mk H
 clear H
 go_enter Try.func47, Try.ntmps47
 go_upto_region 1 with (first | ((with_reducible refine gate_dst (N := 2) rfl ?_); (try (refine gate_guard (by rfl) ?_; dsimp only)); refine zbx 2 #[.slice A0_0 l0_0.length c0_0] 30 ?_; intro gb111 hg w4 hbox hb; have BK111 := Aside0.mk hbox; have GW111 := Aside0.mk ((y5 hg HB.out : w.heap.size ≤ gb111)); have GE111 := Aside0.mk ((y5 hg HB.out : w.heap.size ≤ gb111)); replace HB := Aside0.mk (below_step (y2 HB.out) hb); clear hb hbox hg))
 (try simp only [Act.put, List.setIfInBounds_toArray, List.set_cons_zero, List.set_cons_succ])
 go_cut [19] (fun v19 wc => ∃ (kq : Nat) (x19_2 : Bool), v19 = .bool x19_2 ∧ Aside0 (spec_l1Deep.j0 kq a1 x19_2 l0_0 = some r) ∧ Aside0 (kq ≤ k) ∧ Aside0 (wc.heap[gb111]? = some (.cells #[(.slice A0_0 l0_0.length c0_0)] 30 (0, 0))) ∧ Aside0 (Below w.heap.size w wc))
 case first =>
  have H := HC3.out
  clear HC3
  by_cases c5 : a1 < 1
  ·rw [if_pos c5] at H
   have c5b0 : decide (a1 < 1) = true := decide_eq_true c5
   clear c5
   (first | rw [c5b0] | (simp only [i64_w, i32_w]; rw [c5b0]) | skip)
   have H' := Aside0.mk H
   clear H
   go_wp2
   go_meet
   case rel => exact ⟨_, (true), y26, H', ⟨y43⟩, ⟨(y0 BK111.out)⟩, ⟨(y3 HB.out GE111.out)⟩⟩
  ·rw [if_neg c5] at H
   have c5b0 : decide (a1 < 1) = false := decide_eq_false c5
   clear c5
   (first | rw [c5b0] | (simp only [i64_w, i32_w]; rw [c5b0]) | skip)
   by_cases c6 : (l0_0.length : Int) = 0
   ·rw [if_pos c6] at H
    have c6b0 : ((l0_0.length : Int) == 0) = true := beq_iff_eq.mpr c6
    have c6b1 : ((l0_0.length : Int) != 0) = false := bne_eq_false_iff_eq.mpr c6
    clear c6
    have H' := Aside0.mk H
    clear H
    have hcz7_0 := zh BK111
    have hfz7_0 := zfr BK111 0
    go_wp2
    go_meet
    case rel => exact ⟨_, (false), y26, H', ⟨y43⟩, ⟨(y0 BK111.out)⟩, ⟨(y3 HB.out GE111.out)⟩⟩
   ·rw [if_neg c6] at H
    have c6b0 : ((l0_0.length : Int) == 0) = false := beq_eq_false_iff_ne.mpr c6
    have c6b1 : ((l0_0.length : Int) != 0) = true := bne_iff_ne.mpr c6
    have c6b2 : ¬ (l0_0 = []) := fun h_ => c6 (by rw [h_]; rfl)
    have H' := Aside0.mk H
    clear H
    have hcz8_0 := zh BK111
    have hfz8_0 := zfr BK111 0
    go_wp2
    go_meet
    case rel => exact ⟨_, (((l0_0.length : Int) != 2)), y26, H', ⟨y43⟩, ⟨(y0 BK111.out)⟩, ⟨(y3 HB.out GE111.out)⟩⟩
 case rest =>
  clear HC3
  try clear p2
  try clear c4
  try clear c5
  try clear c5b0
  try clear c6
  try clear c6b0
  try clear c6b1
  try clear c6b2
  try clear hcz7_0
  try clear hcz8_0
  try clear hfz7_0
  try clear hfz8_0
  obtain ⟨kq, x19_2, rfl, HA, HJ2, BK111, HB⟩ := hcut
  cases kq with
  | zero => exact absurd HA.out (by simp [spec_l1Deep.j0])
  | succ kj2 =>
   have H := HA.out
   clear HA
   simp only [spec_l1Deep.j0] at H
   by_cases c9 : x19_2 = true
   ·subst c9
    rw [if_pos rfl] at H
    obtain rfl := Option.some.inj H
    go_wp2
    go_ret
    exact ⟨y14, (y3 HB.out GE111.out)⟩
   ·replace c9 := Bool.eq_false_iff.mpr c9
    subst c9
    rw [if_neg (show ¬ (false = true) by decide)] at H
    have H' := Aside0.mk H
    clear H
    go_wp2
    go_loopg [5] kj2 (fun kq v5 w' => ∃ (x5_2 : Int), v5 = .int .i64 x5_2 ∧ Aside0 (spec_l1Deep.l0 kq a1 x5_2 l0_0 = some r) ∧ Aside0 (kq ≤ kj2) ∧ Aside0 (w'.heap[gb111]? = some (.cells #[(.slice A0_0 l0_0.length c0_0)] 30 (0, 0))) ∧ Aside0 (Below w.heap.size w w'))
    case atStart => exact ⟨(0), y26, H', ⟨Nat.le_refl _⟩, ⟨(y0 BK111.out)⟩, ⟨(y3 HB.out GE111.out)⟩⟩
    case round =>
     clear H'
     try clear p2
     try clear c4
     try clear c5
     try clear c5b0
     try clear c6
     try clear c6b0
     try clear c6b1
     try clear c6b2
     try clear c9
     try clear hcz7_0
     try clear hcz8_0
     try clear hfz7_0
     try clear hfz8_0
     try clear p2
     obtain ⟨x5_2, rfl, HA, HK2, BK111, HB⟩ := hrel
     cases gk with
     | zero => exact absurd HA.out (by simp [spec_l1Deep.l0])
     | succ k2 =>
      have H := HA.out
      clear HA
      simp only [spec_l1Deep.l0] at H
      by_cases c10 : x5_2 < (l0_0.length : Int)
      ·rw [if_pos c10] at H
       have c10b0 : decide (x5_2 < (l0_0.length : Int)) = true := decide_eq_true c10
       clear c10
       by_cases c11 : 0 ≤ x5_2
       ·rw [if_pos c11] at H
        have c11b0 : decide (0 ≤ x5_2) = true := decide_eq_true c11
        clear c11
        obtain ⟨t113, A120, H⟩ := ob H
        have A12 := Aside0.mk A120
        clear A120
        by_cases c13 : t113 = true
        ·subst c13
         rw [if_pos rfl] at H
         have H' := Aside0.mk H
         clear H
         have hcz14_0 := zh BK111
         have hfz14_0 := zfr BK111 0
         have p112 : 0 ≤ (x5_2 : Int) := of_decide_eq_true y19
         have q112 : x5_2 < (l0_0.length : Int) := of_decide_eq_true y19
         obtain ⟨ad112, A112_0, c112_0, e112, hx112_0, hl112_0, hi112_0⟩ := at_T30 HR0_0.out x5_2 p112 q112
         cases e112
         replace hx112_0 := (HB.out.cell (World.block_lt_of_cell? w _ hx112_0)).trans hx112_0
         have HR112_0 := Aside0.mk hi112_0
         have HC112_0 := Aside0.mk hl112_0
         clear hi112_0 hl112_0
         replace p112 := eq_true p112
         replace q112 := eq_true q112
         go_wp2_with (first | ((with_reducible refine gate_callee (f := 47) rfl ?_); refine goesL_ (some 34) rfl rfl Try.func47 (by kernel_rfl) rfl #[.agg #[.slice A112_0 ((rd_T30 l0_0 x5_2).f0).length c112_0], .int .i64 (wrap64 (a1 - 1))] rfl y4 ?_; (with_reducible refine (ih k2 (y79 HJ2.out HK2.out) _ _ ((rd_T30 l0_0 x5_2).f0) (wrap64 (a1 - 1)) true _ ?side1 ?side2 A12.out).mono ?_); (case side1 => exact y8 HR112_0.out HB.out); (case side2 => exact HC112_0.out); rintro e w15 ⟨rfl, hb⟩; refine ⟨_, rfl, ?_⟩; replace BK111 := zbb BK111 hb; replace HB := Aside0.mk (below_step (y3 HB.out GE111.out) hb); (try clear hb); (try clear hb2); (try clear hk); (try clear hi)))
         go_roundg k2
         case measure => have := HJ2.out; have := HK2.out; omega
         case rel => exact ⟨(wrap64 (x5_2 + 1)), y26, H', ⟨(y79 HJ2.out HK2.out)⟩, ⟨(y0 BK111.out)⟩, ⟨(y3 HB.out GE111.out)⟩⟩
        ·replace c13 := Bool.eq_false_iff.mpr c13
         subst c13
         rw [if_neg (show ¬ (false = true) by decide)] at H
         obtain rfl := Option.some.inj H
         have hcz16_0 := zh BK111
         have hfz16_0 := zfr BK111 0
         have p112 : 0 ≤ (x5_2 : Int) := of_decide_eq_true y19
         have q112 : x5_2 < (l0_0.length : Int) := of_decide_eq_true y19
         obtain ⟨ad112, A112_0, c112_0, e112, hx112_0, hl112_0, hi112_0⟩ := at_T30 HR0_0.out x5_2 p112 q112
         cases e112
         replace hx112_0 := (HB.out.cell (World.block_lt_of_cell? w _ hx112_0)).trans hx112_0
         have HR112_0 := Aside0.mk hi112_0
         have HC112_0 := Aside0.mk hl112_0
         clear hi112_0 hl112_0
         replace p112 := eq_true p112
         replace q112 := eq_true q112
         go_wp2_with (first | ((with_reducible refine gate_callee (f := 47) rfl ?_); refine goesL_ (some 34) rfl rfl Try.func47 (by kernel_rfl) rfl #[.agg #[.slice A112_0 ((rd_T30 l0_0 x5_2).f0).length c112_0], .int .i64 (wrap64 (a1 - 1))] rfl y4 ?_; (with_reducible refine (ih k2 (y79 HJ2.out HK2.out) _ _ ((rd_T30 l0_0 x5_2).f0) (wrap64 (a1 - 1)) false _ ?side1 ?side2 A12.out).mono ?_); (case side1 => exact y8 HR112_0.out HB.out); (case side2 => exact HC112_0.out); rintro e w17 ⟨rfl, hb⟩; refine ⟨_, rfl, ?_⟩; replace BK111 := zbb BK111 hb; replace HB := Aside0.mk (below_step (y3 HB.out GE111.out) hb); (try clear hb); (try clear hb2); (try clear hk); (try clear hi)))
         go_ret
         exact ⟨y14, (y3 HB.out GE111.out)⟩
       ·rw [if_neg c11] at H
        exact absurd H (by simp)
      ·rw [if_neg c10] at H
       have c10b0 : decide (x5_2 < (l0_0.length : Int)) = false := decide_eq_false c10
       clear c10
       obtain rfl := Option.some.inj H
       have hcz18_0 := zh BK111
       have hfz18_0 := zfr BK111 0
       go_wp2
       go_ret
       exact ⟨y14, (y3 HB.out GE111.out)⟩
end Go.Proofs.Ytjhbhihfifhljaa.PA
end
section
namespace Go.Proofs.Ytjhbhihfifhljaa.PA
open Go.RowKit Go.Proofs.YtjhbhihfifhljaaW.PrintWords Go.Proofs.YtjhbhihfifhljaaW.PrintLast Go.Proofs.YtjhbhihfifhljaaW.PrintMore
attribute [local go_sem] max2_int min2_int max_two min_two max_three min_three max_four min_four
set_option linter.unusedVariables false
set_option linter.unusedSimpArgs false
def spec_TypeOk.f (k : Nat) (l0_0 : List (S30)) : Option (Bool) := (spec_l1Deep.f k l0_0 4).bind fun t115 => (some t115)
theorem spec_TypeOk.mono : ∀ a0 k, LeO (spec_TypeOk.f k a0) (spec_TypeOk.f (k + 1) a0) := by
 intro a0 k
 unfold spec_TypeOk.f
 repeat' first
   | (with_reducible exact spec_l1Deep.mono _ _ _)
   | (with_reducible exact LeO.refl _)
   | (with_reducible exact LeO.none _)
   | (with_reducible refine LeO.ite ?_ ?_)
   | (with_reducible refine LeO.bind ?_ (fun _ => ?_))
   | exact spec_l1Deep.mono _ _ _
   | exact LeO.none _
   | refine LeO.ite ?_ ?_
   | refine LeO.bind ?_ (fun _ => ?_)
set_option maxHeartbeats 8000000 in
set_option maxRecDepth 100000 in
theorem spec_TypeOk.calls (k : Nat) (A0_0 : Option Addr) (c0_0 : Nat) (l0_0 : List (S30)) (r : Bool) (w : World) (hr0_0 : Kd.C k30 w A0_0 l0_0.length l0_0) (hc0_0 : l0_0.length ≤ c0_0) (h : spec_TypeOk.f k l0_0 = some r) :
  Calls Try.prog 16 #[.agg #[.slice A0_0 l0_0.length c0_0]] w fun e w' => e = .returned (.bool r) ∧ Below w.heap.size w w' := by
 have hu30 := Try.underlying30
 have HR0_0 := Aside0.mk hr0_0
 have HC0_0 := Aside0.mk hc0_0
 clear hr0_0 hc0_0
 have HB := Aside0.mk (Below.refl w.heap.size w)
 have H : ((spec_l1Deep.f k l0_0 4).bind fun t115 => (some t115)) = some r := h
 clear h
 obtain ⟨t115, A20, H⟩ := ob H
 have A2 := Aside0.mk A20
 clear A20
 obtain rfl := Option.some.inj H
 go_enter Try.func16, Try.ntmps16
 go_wp2_with (first | ((with_reducible refine gate_dst (N := 1) rfl ?_); refine zbx 1 #[.slice A0_0 l0_0.length c0_0] 30 ?_; intro gb114 hg w3 hbox hb; have BK114 := Aside0.mk hbox; have GW114 := Aside0.mk ((y5 hg HB.out : w.heap.size ≤ gb114)); have GE114 := Aside0.mk ((y5 hg HB.out : w.heap.size ≤ gb114)); replace HB := Aside0.mk (below_step (y2 HB.out) hb); clear hb hbox hg; have hcz4_0 := zh BK114; have hfz4_0 := zfr BK114 0) | ((with_reducible refine gate_callee (f := 47) rfl ?_); refine goesL_ (some 4) rfl rfl Try.func47 (by kernel_rfl) rfl #[.agg #[.slice A0_0 l0_0.length c0_0], .int .i64 4] rfl y4 ?_; (with_reducible refine (spec_l1Deep.calls k _ _ l0_0 4 t115 _ ?side1 ?side2 A2.out).mono ?_); (case side1 => exact y8 HR0_0.out HB.out); (case side2 => exact HC0_0.out); rintro e w5 ⟨rfl, hb⟩; refine ⟨_, rfl, ?_⟩; replace BK114 := zbb BK114 hb; replace HB := Aside0.mk (below_step (y3 HB.out GE114.out) hb); (try clear hb); (try clear hb2); (try clear hk); (try clear hi)))
 go_ret
 exact ⟨y14, (y3 HB.out GE114.out)⟩
end Go.Proofs.Ytjhbhihfifhljaa.PA
end
section
namespace Go.Proofs.Ytjhbhihfifhljaa.PA
open Go.RowKit Go.Proofs.YtjhbhihfifhljaaW.PrintWords Go.Proofs.YtjhbhihfifhljaaW.PrintLast Go.Proofs.YtjhbhihfifhljaaW.PrintMore
attribute [local go_sem] max2_int min2_int max_two min_two max_three min_three max_four min_four
set_option linter.unusedVariables false
set_option linter.unusedSimpArgs false
def spec_l6In.f (a0 : Int) (a1 : Int) (a2 : Int) : Option (Bool) := if a0 ≥ a1 then (some (decide (a0 ≤ a2))) else (some false)
set_option maxHeartbeats 8000000 in
set_option maxRecDepth 100000 in
theorem spec_l6In.calls (a0 : Int) (a1 : Int) (a2 : Int) (r : Bool) (w : World) (h : spec_l6In.f a0 a1 a2 = some r) :
  Calls Try.prog 65 #[.int .i64 a0, .int .i64 a1, .int .i64 a2] w fun e w' => e = .returned (.bool r) ∧ Drawn0 w w' := by
 have H : (if a0 ≥ a1 then (some (decide (a0 ≤ a2))) else (some false)) = some r := h
 clear h
 by_cases c4 : a0 ≥ a1
 ·rw [if_pos c4] at H
  have c4b0 : decide (a1 ≤ a0) = true := decide_eq_true c4
  clear c4
  obtain rfl := Option.some.inj H
  go_enter Try.func65, Try.ntmps65
  go_wp2
  go_ret
  exact ⟨y26, y37⟩
 ·rw [if_neg c4] at H
  have c4b0 : decide (a1 ≤ a0) = false := decide_eq_false c4
  clear c4
  obtain rfl := Option.some.inj H
  go_enter Try.func65, Try.ntmps65
  go_wp2
  go_ret
  exact ⟨y26, y37⟩
end Go.Proofs.Ytjhbhihfifhljaa.PA
end
section
namespace Go.Proofs.Ytjhbhihfifhljaa.PA
open Go.RowKit Go.Proofs.YtjhbhihfifhljaaW.PrintWords Go.Proofs.YtjhbhihfifhljaaW.PrintLast Go.Proofs.YtjhbhihfifhljaaW.PrintMore
attribute [local go_sem] max2_int min2_int max_two min_two max_three min_three max_four min_four
set_option linter.unusedVariables false
set_option linter.unusedSimpArgs false
mutual
def spec_l1Val.j0 : Nat → Bool → List (S30) → Int → List (S55) → Option (Bool)
 | 0, _, _, _, _ => none
 | k + 1, x29, x746000, x747000, x747001 => if x29 = true then (some false) else (spec_l1Val.l0 k 0 x746000 x747000 x747001)
def spec_l1Val.l0 : Nat → Int → List (S30) → Int → List (S55) → Option (Bool)
 | 0, _, _, _, _ => none
 | k + 1, x5, x746000, x747000, x747001 => if x5 < (x747001.length : Int) then (if 0 ≤ x5 then (if x5 < (x746000.length : Int) then ((spec_l1Val.f k ((rd_T30 x746000 x5).f0) ((rd_T55 x747001 x5).f0) ((rd_T55 x747001 x5).f1)).bind fun t751 => (if t751 = true then (spec_l1Val.l0 k (wrap64 (x5 + 1)) x746000 x747000 x747001) else (some false))) else (none)) else (none)) else (some true)
def spec_l1Val.f : Nat → List (S30) → Int → List (S55) → Option (Bool)
 | 0, _, _, _ => none
 | k + 1, l0_0, a1_0, l1_1 => if (l1_1.length : Int) = (l0_0.length : Int) then (if (l1_1.length : Int) > 0 then (if a1_0 = 0 then ((spec_l6In.f a1_0 0 9999).bind fun t747 => (spec_l1Val.j0 k (!t747) l0_0 a1_0 l1_1)) else (spec_l1Val.j0 k true l0_0 a1_0 l1_1)) else ((spec_l6In.f a1_0 0 9999).bind fun t748 => (spec_l1Val.j0 k (!t748) l0_0 a1_0 l1_1))) else (spec_l1Val.j0 k true l0_0 a1_0 l1_1)
end
theorem spec_l1Val.mono_l : ∀ k, (∀ y0 y1 y2, LeO (spec_l1Val.f k y0 y1 y2) (spec_l1Val.f (k + 1) y0 y1 y2)) ∧ (∀ y0 y1 y2 y3, LeO (spec_l1Val.j0 k y0 y1 y2 y3) (spec_l1Val.j0 (k + 1) y0 y1 y2 y3)) ∧ (∀ y0 y1 y2 y3, LeO (spec_l1Val.l0 k y0 y1 y2 y3) (spec_l1Val.l0 (k + 1) y0 y1 y2 y3))
 | 0 => ⟨fun _ _ _ r h => by simp [spec_l1Val.f] at h, fun _ _ _ _ r h => by simp [spec_l1Val.j0] at h, fun _ _ _ _ r h => by simp [spec_l1Val.l0] at h⟩
 | k + 1 => by
  obtain ⟨ih0, ih1, ih2⟩ := spec_l1Val.mono_l k
  refine ⟨?_, ?_, ?_⟩
  ·intro y0 y1 y2
   unfold spec_l1Val.f
   repeat' first
   | (with_reducible exact ih0 _ _ _)
   | (with_reducible exact ih1 _ _ _ _)
   | (with_reducible exact ih2 _ _ _ _)
   | (with_reducible exact LeO.refl _)
   | (with_reducible exact LeO.none _)
   | (with_reducible refine LeO.ite ?_ ?_)
   | (with_reducible refine LeO.bind ?_ (fun _ => ?_))
   | exact ih0 _ _ _
   | exact ih1 _ _ _ _
   | exact ih2 _ _ _ _
   | exact LeO.none _
   | refine LeO.ite ?_ ?_
   | refine LeO.bind ?_ (fun _ => ?_)
  ·intro y0 y1 y2 y3
   unfold spec_l1Val.j0
   repeat' first
   | (with_reducible exact ih0 _ _ _)
   | (with_reducible exact ih1 _ _ _ _)
   | (with_reducible exact ih2 _ _ _ _)
   | (with_reducible exact LeO.refl _)
   | (with_reducible exact LeO.none _)
   | (with_reducible refine LeO.ite ?_ ?_)
   | (with_reducible refine LeO.bind ?_ (fun _ => ?_))
   | exact ih0 _ _ _
   | exact ih1 _ _ _ _
   | exact ih2 _ _ _ _
   | exact LeO.none _
   | refine LeO.ite ?_ ?_
   | refine LeO.bind ?_ (fun _ => ?_)
  ·intro y0 y1 y2 y3
   unfold spec_l1Val.l0
   repeat' first
   | (with_reducible exact ih0 _ _ _)
   | (with_reducible exact ih1 _ _ _ _)
   | (with_reducible exact ih2 _ _ _ _)
   | (with_reducible exact LeO.refl _)
   | (with_reducible exact LeO.none _)
   | (with_reducible refine LeO.ite ?_ ?_)
   | (with_reducible refine LeO.bind ?_ (fun _ => ?_))
   | exact ih0 _ _ _
   | exact ih1 _ _ _ _
   | exact ih2 _ _ _ _
   | exact LeO.none _
   | refine LeO.ite ?_ ?_
   | refine LeO.bind ?_ (fun _ => ?_)
theorem spec_l1Val.mono : ∀ a0 a1 a2 k, LeO (spec_l1Val.f k a0 a1 a2) (spec_l1Val.f (k + 1) a0 a1 a2) := by
 intro a0 a1 a2 k
 obtain ⟨ih0, ih1, ih2⟩ := spec_l1Val.mono_l k
 exact ih0 a0 a1 a2
def spec_l1Val.T6 : Bool × List (List Nat × List Nat) := (true, [([], []), ([0], [0]), ([], []), ([1, 2], [1, 2]), ([3], [3]), ([], []), ([5], [5]), ([], []), ([6, 7], [6, 7]), ([8], [8]), ([4, 9], [4, 9]), ([10], [10])])
def spec_l1Val.B6 : List Nat := [0, 1, 0, 7, 15, 0, 32, 0, 224, 480, 1023, 2047]
theorem spec_l1Val.tab6 : rtab .any (opsOf Try.f71 6) = spec_l1Val.T6 := by kernel_rfl
theorem spec_l1Val.bits6 : waitsOk spec_l1Val.T6.2 spec_l1Val.B6 = true := by kernel_rfl
set_option maxHeartbeats 8000000 in
set_option maxRecDepth 100000 in
theorem spec_l1Val.calls (k : Nat) : ∀ (A0_0 : Option Addr) (c0_0 : Nat) (l0_0 : List (S30)) (a1_0 : Int) (A1_1 : Option Addr) (c1_1 : Nat) (l1_1 : List (S55)) (r : Bool) (w : World) (hr0_0 : Kd.C k30 w A0_0 l0_0.length l0_0) (hc0_0 : l0_0.length ≤ c0_0) (hr1_1 : Kd.C k55 w A1_1 l1_1.length l1_1) (hc1_1 : l1_1.length ≤ c1_1) (h : spec_l1Val.f k l0_0 a1_0 l1_1 = some r),
  Calls Try.prog 71 #[.agg #[.slice A0_0 l0_0.length c0_0], .agg #[.int .i64 a1_0, .slice A1_1 l1_1.length c1_1]] w fun e w' => e = .returned (.bool r) ∧ Below w.heap.size w w' := by
 induction k using Nat.strongRecOn with
 | _ k ih =>
 intro A0_0 c0_0 l0_0 a1_0 A1_1 c1_1 l1_1 r w hr0_0 hc0_0 hr1_1 hc1_1 h
 cases k with
 | zero => exact absurd h (by simp [spec_l1Val.f])
 | succ k =>
 simp only [spec_l1Val.f] at h
 have hu30 := Try.underlying30
 have hu55 := Try.underlying55
 have HR0_0 := Aside0.mk hr0_0
 have HC0_0 := Aside0.mk hc0_0
 clear hr0_0 hc0_0
 have HR1_1 := Aside0.mk hr1_1
 have HC1_1 := Aside0.mk hc1_1
 clear hr1_1 hc1_1
 have HB := Aside0.mk (Below.refl w.heap.size w)
 have H : (if (l1_1.length : Int) = (l0_0.length : Int) then (if (l1_1.length : Int) > 0 then (if a1_0 = 0 then ((spec_l6In.f a1_0 0 9999).bind fun t747 => (spec_l1Val.j0 k (!t747) l0_0 a1_0 l1_1)) else (spec_l1Val.j0 k true l0_0 a1_0 l1_1)) else ((spec_l6In.f a1_0 0 9999).bind fun t748 => (spec_l1Val.j0 k (!t748) l0_0 a1_0 l1_1))) else (spec_l1Val.j0 k true l0_0 a1_0 l1_1)) = some r := h
 clear h
 have HC3 := Aside0.mk H
 clear H
 go_enter Try.func71, Try.ntmps71
 go_upto_region 1 with (first | ((with_reducible refine gate_dst (N := 2) rfl ?_); (try (refine gate_guard (by rfl) ?_; dsimp only)); refine zbx 2 #[.slice A0_0 l0_0.length c0_0] 30 ?_; intro gb745 hg w4 hbox hb; have BK745 := Aside0.mk hbox; have GW745 := Aside0.mk ((y5 hg HB.out : w.heap.size ≤ gb745)); have GE745 := Aside0.mk ((y5 hg HB.out : w.heap.size ≤ gb745)); replace HB := Aside0.mk (below_step (y2 HB.out) hb); clear hb hbox hg) | ((with_reducible refine gate_dst (N := 3) rfl ?_); (try (refine gate_guard (by rfl) ?_; dsimp only)); refine zbx 3 #[.int .i64 a1_0, .slice A1_1 l1_1.length c1_1] 55 ?_; intro gb746 hg w5 hbox hb; have BK746 := Aside0.mk hbox; have GW746 := Aside0.mk ((y6 hg HB.out GE745.out : w.heap.size ≤ gb746)); have GE746 := Aside0.mk ((y6 hg HB.out GE745.out : w.heap.size ≤ gb746)); replace HB := Aside0.mk (below_step (y3 HB.out GE745.out) hb); have NB745_746 := zltn hg BK745; have NB746_745 := zgtn hg BK745; replace BK745 := zbb BK745 hb; clear hb hbox hg))
 (try simp only [Act.put, List.setIfInBounds_toArray, List.set_cons_zero, List.set_cons_succ])
 go_cut [29] (fun v29 wc => ∃ (kq : Nat) (x29_2 : Bool), v29 = .bool x29_2 ∧ Aside0 (spec_l1Val.j0 kq x29_2 l0_0 a1_0 l1_1 = some r) ∧ Aside0 (kq ≤ k) ∧ Aside0 (wc.heap[gb745]? = some (.cells #[(.slice A0_0 l0_0.length c0_0)] 30 (0, 0))) ∧ Aside0 (wc.heap[gb746]? = some (.cells #[.int .i64 a1_0, (.slice A1_1 l1_1.length c1_1)] 55 (0, 0))) ∧ Aside0 (Below w.heap.size w wc))
 case first =>
  have H := HC3.out
  clear HC3
  by_cases c6 : (l1_1.length : Int) = (l0_0.length : Int)
  ·rw [if_pos c6] at H
   have c6b0 : ((l1_1.length : Int) == (l0_0.length : Int)) = true := beq_iff_eq.mpr c6
   have c6b1 : ((l1_1.length : Int) != (l0_0.length : Int)) = false := bne_eq_false_iff_eq.mpr c6
   have c6b2 : (l1_1.length == l0_0.length) = true := by first | simpa using c6 | (simp at c6 ⊢; omega)
   clear c6
   (first | rw [c6b0] | (simp only [i64_w, i32_w]; rw [c6b0]) | skip)
   by_cases c7 : (l1_1.length : Int) > 0
   ·rw [if_pos c7] at H
    have c7b0 : decide (0 < (l1_1.length : Int)) = true := decide_eq_true c7
    have c7b1 : decide (0 < l1_1.length) = true := decide_eq_true (by omega)
    clear c7
    by_cases c8 : a1_0 = 0
    ·rw [if_pos c8] at H
     have c8b0 : (a1_0 == 0) = true := beq_iff_eq.mpr c8
     have c8b1 : (a1_0 != 0) = false := bne_eq_false_iff_eq.mpr c8
     clear c8
     obtain ⟨t747, A90, H⟩ := ob H
     have A9 := Aside0.mk A90
     clear A90
     have H' := Aside0.mk H
     clear H
     have hnb10 := NB746_745.out
     have hnc10 := NB745_746.out
     have hcz11_0 := zh BK746
     have hcz11_1 := zh1 BK746
     have hfz11_0 := zfr BK746 0
     have hfz11_1 := zfr BK746 1
     have hcz12_0 := zh BK745
     have hfz12_0 := zfr BK745 0
     go_wp2_with (first | (go_at_call 65; (with_reducible refine (spec_l6In.calls a1_0 0 9999 t747 _ A9.out).mono ?_); rintro e w' ⟨rfl, ⟨nd, rfl⟩⟩))
     go_meet
     case rel => exact ⟨_, (!t747), y26, H', ⟨y43⟩, ⟨(y0 BK745.out)⟩, ⟨(y0 BK746.out)⟩, ⟨(y1 HB.out GE745.out GE746.out)⟩⟩
    ·rw [if_neg c8] at H
     have c8b0 : (a1_0 == 0) = false := beq_eq_false_iff_ne.mpr c8
     have c8b1 : (a1_0 != 0) = true := bne_iff_ne.mpr c8
     have H' := Aside0.mk H
     clear H
     have hnb13 := NB746_745.out
     have hnc13 := NB745_746.out
     have hcz14_0 := zh BK746
     have hcz14_1 := zh1 BK746
     have hfz14_0 := zfr BK746 0
     have hfz14_1 := zfr BK746 1
     have hcz15_0 := zh BK745
     have hfz15_0 := zfr BK745 0
     go_wp2
     go_meet
     case rel => exact ⟨_, (true), y26, H', ⟨y43⟩, ⟨(y0 BK745.out)⟩, ⟨(y0 BK746.out)⟩, ⟨(y1 HB.out GE745.out GE746.out)⟩⟩
   ·rw [if_neg c7] at H
    have c7b0 : decide (0 < (l1_1.length : Int)) = false := decide_eq_false c7
    have c7b1 : decide (0 < l1_1.length) = false := decide_eq_false (by omega)
    clear c7
    obtain ⟨t748, A160, H⟩ := ob H
    have A16 := Aside0.mk A160
    clear A160
    have H' := Aside0.mk H
    clear H
    have hnb17 := NB746_745.out
    have hnc17 := NB745_746.out
    have hcz18_0 := zh BK746
    have hcz18_1 := zh1 BK746
    have hfz18_0 := zfr BK746 0
    have hfz18_1 := zfr BK746 1
    have hcz19_0 := zh BK745
    have hfz19_0 := zfr BK745 0
    go_wp2_with (first | (go_at_call 65; (with_reducible refine (spec_l6In.calls a1_0 0 9999 t748 _ A16.out).mono ?_); rintro e w' ⟨rfl, ⟨nd, rfl⟩⟩))
    go_meet
    case rel => exact ⟨_, (!t748), y26, H', ⟨y43⟩, ⟨(y0 BK745.out)⟩, ⟨(y0 BK746.out)⟩, ⟨(y1 HB.out GE745.out GE746.out)⟩⟩
  ·rw [if_neg c6] at H
   have c6b0 : ((l1_1.length : Int) == (l0_0.length : Int)) = false := beq_eq_false_iff_ne.mpr c6
   have c6b1 : ((l1_1.length : Int) != (l0_0.length : Int)) = true := bne_iff_ne.mpr c6
   have c6b2 : (l1_1.length == l0_0.length) = false := by first | simpa using c6 | (simp at c6 ⊢; omega)
   (first | rw [c6b0] | (simp only [i64_w, i32_w]; rw [c6b0]) | skip)
   have H' := Aside0.mk H
   clear H
   have hnb20 := NB746_745.out
   have hnc20 := NB745_746.out
   have hcz21_0 := zh BK746
   have hcz21_1 := zh1 BK746
   have hfz21_0 := zfr BK746 0
   have hfz21_1 := zfr BK746 1
   have hcz22_0 := zh BK745
   have hfz22_0 := zfr BK745 0
   go_wp2
   go_meet
   case rel => exact ⟨_, (true), y26, H', ⟨y43⟩, ⟨(y0 BK745.out)⟩, ⟨(y0 BK746.out)⟩, ⟨(y1 HB.out GE745.out GE746.out)⟩⟩
 case rest =>
  clear HC3
  try clear c1
  try clear c2
  try clear p2
  try clear c6
  try clear c6b0
  try clear c6b1
  try clear c6b2
  try clear c7
  try clear c7b0
  try clear c7b1
  try clear c8
  try clear c8b0
  try clear c8b1
  try clear c10
  try clear c13
  try clear c17
  try clear c20
  try clear hcz11_0
  try clear hcz11_1
  try clear hcz12_0
  try clear hcz14_0
  try clear hcz14_1
  try clear hcz15_0
  try clear hcz18_0
  try clear hcz18_1
  try clear hcz19_0
  try clear hcz21_0
  try clear hcz21_1
  try clear hcz22_0
  try clear hfz11_0
  try clear hfz11_1
  try clear hfz12_0
  try clear hfz14_0
  try clear hfz14_1
  try clear hfz15_0
  try clear hfz18_0
  try clear hfz18_1
  try clear hfz19_0
  try clear hfz21_0
  try clear hfz21_1
  try clear hfz22_0
  obtain ⟨kq, x29_2, rfl, HA, HJ2, BK745, BK746, HB⟩ := hcut
  cases kq with
  | zero => exact absurd HA.out (by simp [spec_l1Val.j0])
  | succ kj2 =>
   have H := HA.out
   clear HA
   simp only [spec_l1Val.j0] at H
   by_cases c23 : x29_2 = true
   ·subst c23
    rw [if_pos rfl] at H
    obtain rfl := Option.some.inj H
    go_wp2
    go_ret
    exact ⟨y14, (y1 HB.out GE745.out GE746.out)⟩
   ·replace c23 := Bool.eq_false_iff.mpr c23
    subst c23
    rw [if_neg (show ¬ (false = true) by decide)] at H
    have H' := Aside0.mk H
    clear H
    go_wp2
    go_loopg [5] kj2 (fun kq v5 w' => ∃ (x5_2 : Int), v5 = .int .i64 x5_2 ∧ Aside0 (spec_l1Val.l0 kq x5_2 l0_0 a1_0 l1_1 = some r) ∧ Aside0 (kq ≤ kj2) ∧ Aside0 (w'.heap[gb745]? = some (.cells #[(.slice A0_0 l0_0.length c0_0)] 30 (0, 0))) ∧ Aside0 (w'.heap[gb746]? = some (.cells #[.int .i64 a1_0, (.slice A1_1 l1_1.length c1_1)] 55 (0, 0))) ∧ Aside0 (Below w.heap.size w w'))
    case atStart => exact ⟨(0), y26, H', ⟨Nat.le_refl _⟩, ⟨(y0 BK745.out)⟩, ⟨(y0 BK746.out)⟩, ⟨(y1 HB.out GE745.out GE746.out)⟩⟩
    case round =>
     clear H'
     try clear c1
     try clear c2
     try clear p2
     try clear c6
     try clear c6b0
     try clear c6b1
     try clear c6b2
     try clear c7
     try clear c7b0
     try clear c7b1
     try clear c8
     try clear c8b0
     try clear c8b1
     try clear c10
     try clear c13
     try clear c17
     try clear c20
     try clear c23
     try clear hcz11_0
     try clear hcz11_1
     try clear hcz12_0
     try clear hcz14_0
     try clear hcz14_1
     try clear hcz15_0
     try clear hcz18_0
     try clear hcz18_1
     try clear hcz19_0
     try clear hcz21_0
     try clear hcz21_1
     try clear hcz22_0
     try clear hfz11_0
     try clear hfz11_1
     try clear hfz12_0
     try clear hfz14_0
     try clear hfz14_1
     try clear hfz15_0
     try clear hfz18_0
     try clear hfz18_1
     try clear hfz19_0
     try clear hfz21_0
     try clear hfz21_1
     try clear hfz22_0
     try clear p2
     obtain ⟨x5_2, rfl, HA, HK2, BK745, BK746, HB⟩ := hrel
     cases gk with
     | zero => exact absurd HA.out (by simp [spec_l1Val.l0])
     | succ k2 =>
      have H := HA.out
      clear HA
      simp only [spec_l1Val.l0] at H
      by_cases c24 : x5_2 < (l1_1.length : Int)
      ·rw [if_pos c24] at H
       have c24b0 : decide (x5_2 < (l1_1.length : Int)) = true := decide_eq_true c24
       clear c24
       by_cases c25 : 0 ≤ x5_2
       ·rw [if_pos c25] at H
        have c25b0 : decide (0 ≤ x5_2) = true := decide_eq_true c25
        clear c25
        by_cases c26 : x5_2 < (l0_0.length : Int)
        ·rw [if_pos c26] at H
         have c26b0 : decide (x5_2 < (l0_0.length : Int)) = true := decide_eq_true c26
         clear c26
         obtain ⟨t751, A270, H⟩ := ob H
         have A27 := Aside0.mk A270
         clear A270
         by_cases c28 : t751 = true
         ·subst c28
          rw [if_pos rfl] at H
          have H' := Aside0.mk H
          clear H
          have hnb29 := NB746_745.out
          have hnc29 := NB745_746.out
          have hcz30_0 := zh BK746
          have hcz30_1 := zh1 BK746
          have hfz30_0 := zfr BK746 0
          have hfz30_1 := zfr BK746 1
          try go_wp2
          replace BK745 := Aside0.mk (blk_drew BK745.out)
          replace BK746 := Aside0.mk (blk_drew BK746.out)
          replace HB := Aside0.mk (below_drew1 HB.out)
          have p749 : 0 ≤ (x5_2 : Int) := of_decide_eq_true y19
          have q749 : x5_2 < (l0_0.length : Int) := of_decide_eq_true y19
          obtain ⟨ad749, A749_0, c749_0, e749, hx749_0, hl749_0, hi749_0⟩ := at_T30 HR0_0.out x5_2 p749 q749
          have hw749_0 := hx749_0
          cases e749
          replace hx749_0 := (HB.out.cell (World.block_lt_of_cell? w _ hx749_0)).trans hx749_0
          have HR749_0 := Aside0.mk hi749_0
          have HC749_0 := Aside0.mk hl749_0
          clear hi749_0 hl749_0
          replace p749 := eq_true p749
          replace q749 := eq_true q749
          have p750 : 0 ≤ (x5_2 : Int) := of_decide_eq_true y19
          have q750 : x5_2 < (l1_1.length : Int) := of_decide_eq_true y19
          obtain ⟨ad750, A750_1, c750_1, e750, hx750_0, hx750_1, hl750_1, hi750_1⟩ := at_T55 HR1_1.out x5_2 p750 q750
          have hw750_1 := hx750_1
          have hw750_0 := hx750_0
          cases e750
          replace hx750_0 := (HB.out.cell (World.block_lt_of_cell? w _ hx750_0)).trans hx750_0
          replace hx750_1 := (HB.out.cell (World.block_lt_of_cell? w _ hx750_1)).trans hx750_1
          have HR750_1 := Aside0.mk hi750_1
          have HC750_1 := Aside0.mk hl750_1
          clear hi750_1 hl750_1
          replace p750 := eq_true p750
          replace q750 := eq_true q750
          refine start_ (n := 12) (S := fun w' => w'.cell? ⟨gb745, 0, none⟩ = some (.slice (some ad749) l0_0.length c0_0) ∧ w'.cell? ⟨gb746, 0, none⟩ = some (.int .i64 a1_0) ∧ w'.cell? ⟨gb746, 1, none⟩ = some (.slice (some ad750) l1_1.length c1_1) ∧ w'.cell? (ad749.add (x5_2).toNat) = some (.slice A749_0 ((rd_T30 l0_0 x5_2).f0).length c749_0) ∧ w'.cell? (ad750.add ((x5_2).toNat * 2)) = some (.int .i64 ((rd_T55 l1_1 x5_2).f0)) ∧ w'.cell? ⟨(ad750.add ((x5_2).toNat * 2)).block, (ad750.add ((x5_2).toNat * 2)).off + 1, none⟩ = some (.slice A750_1 ((rd_T55 l1_1 x5_2).f1).length c750_1)) (ds := []) #[false, false, false, false, false, false, false, false, false, false, false, false] (by kernel_rfl) rfl rfl ⟨(blk_cell BK745.out 0).trans rfl, (blk_cell BK746.out 0).trans rfl, (blk_cell BK746.out 1).trans rfl, ((HB.out.cell (World.block_lt_of_cell? w _ hw749_0)).trans hw749_0), ((HB.out.cell (World.block_lt_of_cell? w _ hw750_0)).trans hw750_0), ((HB.out.cell (World.block_lt_of_cell? w _ hw750_1)).trans hw750_1)⟩ (fun hHeld => ?_); refine with_tabW spec_l1Val.tab6 spec_l1Val.bits6 (fun HT_ HW_ => ?_)
          generalize wr.drew = w31 at BK745 BK746 HB HR749_0 HR750_1 hx749_0 hx750_0 hx750_1 hHeld ⊢
          refine zp 0 (some 37) HT_ ?_
          refine zp 2 (some 39) HT_ ?_
          refine zp 5 (some 42) HT_ ?_
          refine zp 7 (some 44) HT_ ?_
          refine zt6 1 (some 38) HT_ HW_ hHeld ?_
          refine zp 3 (some 40) HT_ ?_
          refine zt6 4 (some 41) HT_ HW_ hHeld ?_
          refine zt6 6 (some 43) HT_ HW_ hHeld ?_
          refine zp 8 (some 45) HT_ ?_
          refine zt6 9 (some 46) HT_ HW_ hHeld ?_
          refine one_ (i := 10) (N := some 47) #[true, true, true, true, true, true, true, true, true, true, true, false] rfl rfl (one_of HT_.out (by kernel_rfl)) (by decide) (fun K hK => ?_)
          refine goes_ Try.func71 (by kernel_rfl) rfl #[.agg #[.slice A749_0 ((rd_T30 l0_0 x5_2).f0).length c749_0], .agg #[.int .i64 ((rd_T55 l1_1 x5_2).f0), .slice A750_1 ((rd_T55 l1_1 x5_2).f1).length c750_1]] (by rfl) rfl rfl y4 ?_
          with_reducible refine (ih k2 (y79 HJ2.out HK2.out) _ _ ((rd_T30 l0_0 x5_2).f0) ((rd_T55 l1_1 x5_2).f0) _ _ ((rd_T55 l1_1 x5_2).f1) true _ ?side1 ?side2 ?side3 ?side4 A27.out).mono ?_
          (case side1 => exact y8 HR749_0.out HB.out)
          (case side2 => exact HC749_0.out)
          (case side3 => exact y8 HR750_1.out HB.out)
          (case side4 => exact HC750_1.out)
          rintro e w32 ⟨rfl, hb⟩
          refine ⟨_, rfl, ?_⟩
          replace BK745 := zbb BK745 hb
          replace BK746 := zbb BK746 hb
          replace HB := Aside0.mk (below_step (y1 HB.out GE745.out GE746.out) hb)
          (try clear hb)
          (try clear hb2)
          (try clear hk)
          (try clear hi)
          refine hK.out _ _ ⟨(blk_cell BK745.out 0).trans rfl, (blk_cell BK746.out 0).trans rfl, (blk_cell BK746.out 1).trans rfl, ((HB.out.cell (World.block_lt_of_cell? w _ hw749_0)).trans hw749_0), ((HB.out.cell (World.block_lt_of_cell? w _ hw750_0)).trans hw750_0), ((HB.out.cell (World.block_lt_of_cell? w _ hw750_1)).trans hw750_1)⟩ (fun hHeld => ?_)
          clear hK K
          refine norm_ (a' := ?_) ?_ ?_
          rotate_left
          ·show Act.put _ (some 47) _ = _
           simp only [Act.put, List.setIfInBounds_toArray, List.set_cons_zero, List.set_cons_succ, i64_w, i32_w]
           rfl
          refine zp 11 (some 48) HT_ ?_
          refine done_ (done_of HT_.out (by kernel_rfl)) ?_
          try go_wp2
          go_roundg k2
          case measure => have := HJ2.out; have := HK2.out; omega
          case rel => exact ⟨(wrap64 (x5_2 + 1)), y26, H', ⟨(y79 HJ2.out HK2.out)⟩, ⟨(y0 BK745.out)⟩, ⟨(y0 BK746.out)⟩, ⟨(y1 HB.out GE745.out GE746.out)⟩⟩
         ·replace c28 := Bool.eq_false_iff.mpr c28
          subst c28
          rw [if_neg (show ¬ (false = true) by decide)] at H
          obtain rfl := Option.some.inj H
          have hnb33 := NB746_745.out
          have hnc33 := NB745_746.out
          have hcz34_0 := zh BK746
          have hcz34_1 := zh1 BK746
          have hfz34_0 := zfr BK746 0
          have hfz34_1 := zfr BK746 1
          try go_wp2
          replace BK745 := Aside0.mk (blk_drew BK745.out)
          replace BK746 := Aside0.mk (blk_drew BK746.out)
          replace HB := Aside0.mk (below_drew1 HB.out)
          have p749 : 0 ≤ (x5_2 : Int) := of_decide_eq_true y19
          have q749 : x5_2 < (l0_0.length : Int) := of_decide_eq_true y19
          obtain ⟨ad749, A749_0, c749_0, e749, hx749_0, hl749_0, hi749_0⟩ := at_T30 HR0_0.out x5_2 p749 q749
          have hw749_0 := hx749_0
          cases e749
          replace hx749_0 := (HB.out.cell (World.block_lt_of_cell? w _ hx749_0)).trans hx749_0
          have HR749_0 := Aside0.mk hi749_0
          have HC749_0 := Aside0.mk hl749_0
          clear hi749_0 hl749_0
          replace p749 := eq_true p749
          replace q749 := eq_true q749
          have p750 : 0 ≤ (x5_2 : Int) := of_decide_eq_true y19
          have q750 : x5_2 < (l1_1.length : Int) := of_decide_eq_true y19
          obtain ⟨ad750, A750_1, c750_1, e750, hx750_0, hx750_1, hl750_1, hi750_1⟩ := at_T55 HR1_1.out x5_2 p750 q750
          have hw750_1 := hx750_1
          have hw750_0 := hx750_0
          cases e750
          replace hx750_0 := (HB.out.cell (World.block_lt_of_cell? w _ hx750_0)).trans hx750_0
          replace hx750_1 := (HB.out.cell (World.block_lt_of_cell? w _ hx750_1)).trans hx750_1
          have HR750_1 := Aside0.mk hi750_1
          have HC750_1 := Aside0.mk hl750_1
          clear hi750_1 hl750_1
          replace p750 := eq_true p750
          replace q750 := eq_true q750
          refine start_ (n := 12) (S := fun w' => w'.cell? ⟨gb745, 0, none⟩ = some (.slice (some ad749) l0_0.length c0_0) ∧ w'.cell? ⟨gb746, 0, none⟩ = some (.int .i64 a1_0) ∧ w'.cell? ⟨gb746, 1, none⟩ = some (.slice (some ad750) l1_1.length c1_1) ∧ w'.cell? (ad749.add (x5_2).toNat) = some (.slice A749_0 ((rd_T30 l0_0 x5_2).f0).length c749_0) ∧ w'.cell? (ad750.add ((x5_2).toNat * 2)) = some (.int .i64 ((rd_T55 l1_1 x5_2).f0)) ∧ w'.cell? ⟨(ad750.add ((x5_2).toNat * 2)).block, (ad750.add ((x5_2).toNat * 2)).off + 1, none⟩ = some (.slice A750_1 ((rd_T55 l1_1 x5_2).f1).length c750_1)) (ds := []) #[false, false, false, false, false, false, false, false, false, false, false, false] (by kernel_rfl) rfl rfl ⟨(blk_cell BK745.out 0).trans rfl, (blk_cell BK746.out 0).trans rfl, (blk_cell BK746.out 1).trans rfl, ((HB.out.cell (World.block_lt_of_cell? w _ hw749_0)).trans hw749_0), ((HB.out.cell (World.block_lt_of_cell? w _ hw750_0)).trans hw750_0), ((HB.out.cell (World.block_lt_of_cell? w _ hw750_1)).trans hw750_1)⟩ (fun hHeld => ?_); refine with_tabW spec_l1Val.tab6 spec_l1Val.bits6 (fun HT_ HW_ => ?_)
          generalize wr.drew = w35 at BK745 BK746 HB HR749_0 HR750_1 hx749_0 hx750_0 hx750_1 hHeld ⊢
          refine zp 0 (some 37) HT_ ?_
          refine zp 2 (some 39) HT_ ?_
          refine zp 5 (some 42) HT_ ?_
          refine zp 7 (some 44) HT_ ?_
          refine zt6 1 (some 38) HT_ HW_ hHeld ?_
          refine zp 3 (some 40) HT_ ?_
          refine zt6 4 (some 41) HT_ HW_ hHeld ?_
          refine zt6 6 (some 43) HT_ HW_ hHeld ?_
          refine zp 8 (some 45) HT_ ?_
          refine zt6 9 (some 46) HT_ HW_ hHeld ?_
          refine one_ (i := 10) (N := some 47) #[true, true, true, true, true, true, true, true, true, true, true, false] rfl rfl (one_of HT_.out (by kernel_rfl)) (by decide) (fun K hK => ?_)
          refine goes_ Try.func71 (by kernel_rfl) rfl #[.agg #[.slice A749_0 ((rd_T30 l0_0 x5_2).f0).length c749_0], .agg #[.int .i64 ((rd_T55 l1_1 x5_2).f0), .slice A750_1 ((rd_T55 l1_1 x5_2).f1).length c750_1]] (by rfl) rfl rfl y4 ?_
          with_reducible refine (ih k2 (y79 HJ2.out HK2.out) _ _ ((rd_T30 l0_0 x5_2).f0) ((rd_T55 l1_1 x5_2).f0) _ _ ((rd_T55 l1_1 x5_2).f1) false _ ?side1 ?side2 ?side3 ?side4 A27.out).mono ?_
          (case side1 => exact y8 HR749_0.out HB.out)
          (case side2 => exact HC749_0.out)
          (case side3 => exact y8 HR750_1.out HB.out)
          (case side4 => exact HC750_1.out)
          rintro e w36 ⟨rfl, hb⟩
          refine ⟨_, rfl, ?_⟩
          replace BK745 := zbb BK745 hb
          replace BK746 := zbb BK746 hb
          replace HB := Aside0.mk (below_step (y1 HB.out GE745.out GE746.out) hb)
          (try clear hb)
          (try clear hb2)
          (try clear hk)
          (try clear hi)
          refine hK.out _ _ ⟨(blk_cell BK745.out 0).trans rfl, (blk_cell BK746.out 0).trans rfl, (blk_cell BK746.out 1).trans rfl, ((HB.out.cell (World.block_lt_of_cell? w _ hw749_0)).trans hw749_0), ((HB.out.cell (World.block_lt_of_cell? w _ hw750_0)).trans hw750_0), ((HB.out.cell (World.block_lt_of_cell? w _ hw750_1)).trans hw750_1)⟩ (fun hHeld => ?_)
          clear hK K
          refine norm_ (a' := ?_) ?_ ?_
          rotate_left
          ·show Act.put _ (some 47) _ = _
           simp only [Act.put, List.setIfInBounds_toArray, List.set_cons_zero, List.set_cons_succ, i64_w, i32_w]
           rfl
          refine zp 11 (some 48) HT_ ?_
          refine done_ (done_of HT_.out (by kernel_rfl)) ?_
          try go_wp2
          go_ret
          exact ⟨y14, (y1 HB.out GE745.out GE746.out)⟩
        ·rw [if_neg c26] at H
         exact absurd H (by simp)
       ·rw [if_neg c25] at H
        exact absurd H (by simp)
      ·rw [if_neg c24] at H
       have c24b0 : decide (x5_2 < (l1_1.length : Int)) = false := decide_eq_false c24
       clear c24
       obtain rfl := Option.some.inj H
       have hnb37 := NB746_745.out
       have hnc37 := NB745_746.out
       have hcz38_0 := zh BK746
       have hcz38_1 := zh1 BK746
       have hfz38_0 := zfr BK746 0
       have hfz38_1 := zfr BK746 1
       go_wp2
       go_ret
       exact ⟨y14, (y1 HB.out GE745.out GE746.out)⟩
end Go.Proofs.Ytjhbhihfifhljaa.PA
end
section
namespace Go.Proofs.Ytjhbhihfifhljaa.PA
open Go.RowKit Go.Proofs.YtjhbhihfifhljaaW.PrintWords Go.Proofs.YtjhbhihfifhljaaW.PrintLast Go.Proofs.YtjhbhihfifhljaaW.PrintMore
attribute [local go_sem] max2_int min2_int max_two min_two max_three min_three max_four min_four
set_option linter.unusedVariables false
set_option linter.unusedSimpArgs false
def spec_ValOk.f (k : Nat) (l0_0 : List (S30)) (a1_0 : Int) (l1_1 : List (S55)) : Option (Bool) := (spec_TypeOk.f k l0_0).bind fun t754 => (if t754 = true then ((spec_l1Val.f k l0_0 a1_0 l1_1).bind fun t755 => (some t755)) else (some false))
theorem spec_ValOk.mono : ∀ a0 a1 a2 k, LeO (spec_ValOk.f k a0 a1 a2) (spec_ValOk.f (k + 1) a0 a1 a2) := by
 intro a0 a1 a2 k
 unfold spec_ValOk.f
 repeat' first
   | (with_reducible exact spec_TypeOk.mono _ _)
   | (with_reducible exact spec_l1Val.mono _ _ _ _)
   | (with_reducible exact LeO.refl _)
   | (with_reducible exact LeO.none _)
   | (with_reducible refine LeO.ite ?_ ?_)
   | (with_reducible refine LeO.bind ?_ (fun _ => ?_))
   | exact spec_TypeOk.mono _ _
   | exact spec_l1Val.mono _ _ _ _
   | exact LeO.none _
   | refine LeO.ite ?_ ?_
   | refine LeO.bind ?_ (fun _ => ?_)
set_option maxHeartbeats 8000000 in
set_option maxRecDepth 100000 in
theorem spec_ValOk.calls (k : Nat) (A0_0 : Option Addr) (c0_0 : Nat) (l0_0 : List (S30)) (a1_0 : Int) (A1_1 : Option Addr) (c1_1 : Nat) (l1_1 : List (S55)) (r : Bool) (w : World) (hr0_0 : Kd.C k30 w A0_0 l0_0.length l0_0) (hc0_0 : l0_0.length ≤ c0_0) (hr1_1 : Kd.C k55 w A1_1 l1_1.length l1_1) (hc1_1 : l1_1.length ≤ c1_1) (h : spec_ValOk.f k l0_0 a1_0 l1_1 = some r) :
  Calls Try.prog 36 #[.agg #[.slice A0_0 l0_0.length c0_0], .agg #[.int .i64 a1_0, .slice A1_1 l1_1.length c1_1]] w fun e w' => e = .returned (.bool r) ∧ Below w.heap.size w w' := by
 have hu30 := Try.underlying30
 have hu55 := Try.underlying55
 have HR0_0 := Aside0.mk hr0_0
 have HC0_0 := Aside0.mk hc0_0
 clear hr0_0 hc0_0
 have HR1_1 := Aside0.mk hr1_1
 have HC1_1 := Aside0.mk hc1_1
 clear hr1_1 hc1_1
 have HB := Aside0.mk (Below.refl w.heap.size w)
 have H : ((spec_TypeOk.f k l0_0).bind fun t754 => (if t754 = true then ((spec_l1Val.f k l0_0 a1_0 l1_1).bind fun t755 => (some t755)) else (some false))) = some r := h
 clear h
 obtain ⟨t754, A30, H⟩ := ob H
 have A3 := Aside0.mk A30
 clear A30
 by_cases c4 : t754 = true
 ·subst c4
  rw [if_pos rfl] at H
  obtain ⟨t755, A50, H⟩ := ob H
  have A5 := Aside0.mk A50
  clear A50
  obtain rfl := Option.some.inj H
  go_enter Try.func36, Try.ntmps36
  go_wp2_with (first | ((with_reducible refine gate_dst (N := 2) rfl ?_); refine zbx 2 #[.slice A0_0 l0_0.length c0_0] 30 ?_; intro gb752 hg w6 hbox hb; have BK752 := Aside0.mk hbox; have GW752 := Aside0.mk ((y5 hg HB.out : w.heap.size ≤ gb752)); have GE752 := Aside0.mk ((y5 hg HB.out : w.heap.size ≤ gb752)); replace HB := Aside0.mk (below_step (y2 HB.out) hb); clear hb hbox hg) | ((with_reducible refine gate_dst (N := 3) rfl ?_); refine zbx 3 #[.int .i64 a1_0, .slice A1_1 l1_1.length c1_1] 55 ?_; intro gb753 hg w7 hbox hb; have BK753 := Aside0.mk hbox; have GW753 := Aside0.mk ((y6 hg HB.out GE752.out : w.heap.size ≤ gb753)); have GE753 := Aside0.mk ((y6 hg HB.out GE752.out : w.heap.size ≤ gb753)); replace HB := Aside0.mk (below_step (y3 HB.out GE752.out) hb); have NB752_753 := zltn hg BK752; have NB753_752 := zgtn hg BK752; replace BK752 := zbb BK752 hb; clear hb hbox hg; have hnb8 := NB752_753.out; have hnc8 := NB753_752.out; have hcz9_0 := zh BK752; have hfz9_0 := zfr BK752 0) | ((with_reducible refine gate_callee (f := 16) rfl ?_); refine goesL_ (some 6) rfl rfl Try.func16 (by kernel_rfl) rfl #[.agg #[.slice A0_0 l0_0.length c0_0]] rfl y4 ?_; (with_reducible refine (spec_TypeOk.calls k _ _ l0_0 true _ ?side1 ?side2 A3.out).mono ?_); (case side1 => exact y8 HR0_0.out HB.out); (case side2 => exact HC0_0.out); rintro e w10 ⟨rfl, hb⟩; refine ⟨_, rfl, ?_⟩; replace BK752 := zbb BK752 hb; replace BK753 := zbb BK753 hb; replace HB := Aside0.mk (below_step (y1 HB.out GE752.out GE753.out) hb); (try clear hb); (try clear hb2); (try clear hk); (try clear hi); have hcz11_0 := zh BK752; have hfz11_0 := zfr BK752 0; have hcz12_0 := zh BK753; have hcz12_1 := zh1 BK753; have hfz12_0 := zfr BK753 0; have hfz12_1 := zfr BK753 1) | (go_at_call 71; (with_reducible refine (spec_l1Val.calls k _ _ l0_0 a1_0 _ _ l1_1 t755 _ ?side1 ?side2 ?side3 ?side4 A5.out).mono ?_); (case side1 => exact y8 HR0_0.out HB.out); (case side2 => exact HC0_0.out); (case side3 => exact y8 HR1_1.out HB.out); (case side4 => exact HC1_1.out); rintro e w13 ⟨rfl, hb⟩; replace BK752 := zbb BK752 hb; replace BK753 := zbb BK753 hb; replace HB := Aside0.mk (below_step (y1 HB.out GE752.out GE753.out) hb); (try clear hb); (try clear hb2); (try clear hk); (try clear hi)))
  go_ret
  exact ⟨y14, (y1 HB.out GE752.out GE753.out)⟩
 ·replace c4 := Bool.eq_false_iff.mpr c4
  subst c4
  rw [if_neg (show ¬ (false = true) by decide)] at H
  obtain rfl := Option.some.inj H
  go_enter Try.func36, Try.ntmps36
  go_wp2_with (first | ((with_reducible refine gate_dst (N := 2) rfl ?_); refine zbx 2 #[.slice A0_0 l0_0.length c0_0] 30 ?_; intro gb752 hg w14 hbox hb; have BK752 := Aside0.mk hbox; have GW752 := Aside0.mk ((y5 hg HB.out : w.heap.size ≤ gb752)); have GE752 := Aside0.mk ((y5 hg HB.out : w.heap.size ≤ gb752)); replace HB := Aside0.mk (below_step (y2 HB.out) hb); clear hb hbox hg) | ((with_reducible refine gate_dst (N := 3) rfl ?_); refine zbx 3 #[.int .i64 a1_0, .slice A1_1 l1_1.length c1_1] 55 ?_; intro gb753 hg w15 hbox hb; have BK753 := Aside0.mk hbox; have GW753 := Aside0.mk ((y6 hg HB.out GE752.out : w.heap.size ≤ gb753)); have GE753 := Aside0.mk ((y6 hg HB.out GE752.out : w.heap.size ≤ gb753)); replace HB := Aside0.mk (below_step (y3 HB.out GE752.out) hb); have NB752_753 := zltn hg BK752; have NB753_752 := zgtn hg BK752; replace BK752 := zbb BK752 hb; clear hb hbox hg; have hnb16 := NB752_753.out; have hnc16 := NB753_752.out; have hcz17_0 := zh BK752; have hfz17_0 := zfr BK752 0) | ((with_reducible refine gate_callee (f := 16) rfl ?_); refine goesL_ (some 6) rfl rfl Try.func16 (by kernel_rfl) rfl #[.agg #[.slice A0_0 l0_0.length c0_0]] rfl y4 ?_; (with_reducible refine (spec_TypeOk.calls k _ _ l0_0 false _ ?side1 ?side2 A3.out).mono ?_); (case side1 => exact y8 HR0_0.out HB.out); (case side2 => exact HC0_0.out); rintro e w18 ⟨rfl, hb⟩; refine ⟨_, rfl, ?_⟩; replace BK752 := zbb BK752 hb; replace BK753 := zbb BK753 hb; replace HB := Aside0.mk (below_step (y1 HB.out GE752.out GE753.out) hb); (try clear hb); (try clear hb2); (try clear hk); (try clear hi)))
  go_ret
  exact ⟨y14, (y1 HB.out GE752.out GE753.out)⟩
end Go.Proofs.Ytjhbhihfifhljaa.PA
end
section
namespace Go.Proofs.Ytjhbhihfifhljaa.PA
open Go.RowKit Go.Proofs.YtjhbhihfifhljaaW.PrintWords Go.Proofs.YtjhbhihfifhljaaW.PrintLast Go.Proofs.YtjhbhihfifhljaaW.PrintMore
attribute [local go_sem] max2_int min2_int max_two min_two max_three min_three max_four min_four
set_option linter.unusedVariables false
set_option linter.unusedSimpArgs false
def laws_szVal.F (rec_ : List (S68) → Int → Option (Int)) (k : Nat) (a0_0 : Int) (l0_1 : List (S68)) (a1 : Int) : Option (Int) := (rec_ l0_1 a1).bind fun t912 => (if t912 < 0 then (some (-1)) else (some t912))
mutual
def laws_szValS.l0 : Nat → List (S68) → Int → Int → Option (Int)
 | 0, _, _, _ => none
 | k + 1, x0, x1, x5 => if x5 < (x0.length : Int) then (if 0 ≤ x5 then ((laws_szVal.F (laws_szValS.f k) k ((rd_T68 x0 x5).f0) ((rd_T68 x0 x5).f1) x1).bind fun t914 => (if t914 < 0 then (some (-1)) else (laws_szValS.l0 k x0 t914 (wrap64 (x5 + 1))))) else (none)) else (some x1)
def laws_szValS.f : Nat → List (S68) → Int → Option (Int)
 | 0, _, _ => none
 | k + 1, l0, a1 => if (wrap64 (a1 - (l0.length : Int))) < 0 then (some (-1)) else (laws_szValS.l0 k l0 (wrap64 (a1 - (l0.length : Int))) 0)
end
theorem laws_szVal.Fmono {rec_ rec2_ : List (S68) → Int → Option (Int)} (hrec : (∀ y0 y1, LeO (rec_ y0 y1) (rec2_ y0 y1))) : ∀ a0 a1 a2 k, LeO (laws_szVal.F rec_ k a0 a1 a2) (laws_szVal.F rec2_ (k + 1) a0 a1 a2) := by
 intro a0 a1 a2 k
 unfold laws_szVal.F
 repeat' first
   | (with_reducible exact hrec _ _)
   | (with_reducible exact LeO.refl _)
   | (with_reducible exact LeO.none _)
   | (with_reducible refine LeO.ite ?_ ?_)
   | (with_reducible refine LeO.bind ?_ (fun _ => ?_))
   | exact hrec _ _
   | exact LeO.none _
   | refine LeO.ite ?_ ?_
   | refine LeO.bind ?_ (fun _ => ?_)
theorem laws_szValS.mono_l : ∀ k, (∀ y0 y1, LeO (laws_szValS.f k y0 y1) (laws_szValS.f (k + 1) y0 y1)) ∧ (∀ y0 y1 y2, LeO (laws_szValS.l0 k y0 y1 y2) (laws_szValS.l0 (k + 1) y0 y1 y2))
 | 0 => ⟨fun _ _ r h => by simp [laws_szValS.f] at h, fun _ _ _ r h => by simp [laws_szValS.l0] at h⟩
 | k + 1 => by
  obtain ⟨ih0, ih1⟩ := laws_szValS.mono_l k
  refine ⟨?_, ?_⟩
  ·intro y0 y1
   unfold laws_szValS.f
   repeat' first
   | (with_reducible exact ih0 _ _)
   | (with_reducible exact ih1 _ _ _)
   | (with_reducible exact laws_szVal.Fmono ih0 _ _ _ _)
   | (with_reducible exact LeO.refl _)
   | (with_reducible exact LeO.none _)
   | (with_reducible refine LeO.ite ?_ ?_)
   | (with_reducible refine LeO.bind ?_ (fun _ => ?_))
   | exact ih0 _ _
   | exact ih1 _ _ _
   | exact laws_szVal.Fmono ih0 _ _ _ _
   | exact LeO.none _
   | refine LeO.ite ?_ ?_
   | refine LeO.bind ?_ (fun _ => ?_)
  ·intro y0 y1 y2
   unfold laws_szValS.l0
   repeat' first
   | (with_reducible exact ih0 _ _)
   | (with_reducible exact ih1 _ _ _)
   | (with_reducible exact laws_szVal.Fmono ih0 _ _ _ _)
   | (with_reducible exact LeO.refl _)
   | (with_reducible exact LeO.none _)
   | (with_reducible refine LeO.ite ?_ ?_)
   | (with_reducible refine LeO.bind ?_ (fun _ => ?_))
   | exact ih0 _ _
   | exact ih1 _ _ _
   | exact laws_szVal.Fmono ih0 _ _ _ _
   | exact LeO.none _
   | refine LeO.ite ?_ ?_
   | refine LeO.bind ?_ (fun _ => ?_)
theorem laws_szValS.mono : ∀ a0 a1 k, LeO (laws_szValS.f k a0 a1) (laws_szValS.f (k + 1) a0 a1) := by
 intro a0 a1 k
 obtain ⟨ih0, ih1⟩ := laws_szValS.mono_l k
 exact ih0 a0 a1
set_option maxHeartbeats 8000000 in
set_option maxRecDepth 100000 in
theorem laws_szVal.Fcalls (rec_ : List (S68) → Int → Option (Int)) (IH : ∀ (A0 : Option Addr) (c0 : Nat) (l0 : List (S68)) (a1 : Int) (r : Int) (w : World) (hr0 : Kd.C k68 w A0 l0.length l0) (hc0 : l0.length ≤ c0) (h : rec_ l0 a1 = some r),
  Calls Try.prog 76 #[.slice A0 l0.length c0, .int .i64 a1] w fun e w' => e = .returned (.int .i64 r) ∧ Below w.heap.size w w') (k : Nat) (a0_0 : Int) (A0_1 : Option Addr) (c0_1 : Nat) (l0_1 : List (S68)) (a1 : Int) (r : Int) (w : World) (hr0_1 : Kd.C k68 w A0_1 l0_1.length l0_1) (hc0_1 : l0_1.length ≤ c0_1) (h : laws_szVal.F rec_ k a0_0 l0_1 a1 = some r) :
  Calls Try.prog 43 #[.agg #[.int .i64 a0_0, .slice A0_1 l0_1.length c0_1], .int .i64 a1] w fun e w' => e = .returned (.int .i64 r) ∧ Below w.heap.size w w' := by
 have hu68 := Try.underlying68
 have HR0_1 := Aside0.mk hr0_1
 have HC0_1 := Aside0.mk hc0_1
 clear hr0_1 hc0_1
 have HB := Aside0.mk (Below.refl w.heap.size w)
 have H : ((rec_ l0_1 a1).bind fun t912 => (if t912 < 0 then (some (-1)) else (some t912))) = some r := h
 clear h
 obtain ⟨t912, A30, H⟩ := ob H
 have A3 := Aside0.mk A30
 clear A30
 by_cases c4 : t912 < 0
 ·rw [if_pos c4] at H
  have c4b0 : decide (t912 < 0) = true := decide_eq_true c4
  clear c4
  obtain rfl := Option.some.inj H
  go_enter Try.func43, Try.ntmps43
  go_wp2_with (first | ((with_reducible refine gate_dst (N := 2) rfl ?_); refine zbx 2 #[.int .i64 a0_0, .slice A0_1 l0_1.length c0_1] 68 ?_; intro gb911 hg w5 hbox hb; have BK911 := Aside0.mk hbox; have GW911 := Aside0.mk ((y5 hg HB.out : w.heap.size ≤ gb911)); have GE911 := Aside0.mk ((y5 hg HB.out : w.heap.size ≤ gb911)); replace HB := Aside0.mk (below_step (y2 HB.out) hb); clear hb hbox hg; have hcz6_0 := zh BK911; have hcz6_1 := zh1 BK911; have hfz6_0 := zfr BK911 0; have hfz6_1 := zfr BK911 1) | ((with_reducible refine gate_callee (f := 76) rfl ?_); refine goesL_ (some 8) rfl rfl Try.func76 (by kernel_rfl) rfl #[.slice A0_1 l0_1.length c0_1, .int .i64 a1] rfl y4 ?_; (with_reducible refine (IH  _ _ l0_1 a1 t912 _ ?side1 ?side2 A3.out).mono ?_); (case side1 => exact y8 HR0_1.out HB.out); (case side2 => exact HC0_1.out); rintro e w7 ⟨rfl, hb⟩; refine ⟨_, rfl, ?_⟩; replace BK911 := zbb BK911 hb; replace HB := Aside0.mk (below_step (y3 HB.out GE911.out) hb); (try clear hb); (try clear hb2); (try clear hk); (try clear hi)))
  go_ret
  exact ⟨y14, (y3 HB.out GE911.out)⟩
 ·rw [if_neg c4] at H
  have c4b0 : decide (t912 < 0) = false := decide_eq_false c4
  clear c4
  obtain rfl := Option.some.inj H
  go_enter Try.func43, Try.ntmps43
  go_wp2_with (first | ((with_reducible refine gate_dst (N := 2) rfl ?_); refine zbx 2 #[.int .i64 a0_0, .slice A0_1 l0_1.length c0_1] 68 ?_; intro gb911 hg w8 hbox hb; have BK911 := Aside0.mk hbox; have GW911 := Aside0.mk ((y5 hg HB.out : w.heap.size ≤ gb911)); have GE911 := Aside0.mk ((y5 hg HB.out : w.heap.size ≤ gb911)); replace HB := Aside0.mk (below_step (y2 HB.out) hb); clear hb hbox hg; have hcz9_0 := zh BK911; have hcz9_1 := zh1 BK911; have hfz9_0 := zfr BK911 0; have hfz9_1 := zfr BK911 1) | ((with_reducible refine gate_callee (f := 76) rfl ?_); refine goesL_ (some 8) rfl rfl Try.func76 (by kernel_rfl) rfl #[.slice A0_1 l0_1.length c0_1, .int .i64 a1] rfl y4 ?_; (with_reducible refine (IH  _ _ l0_1 a1 t912 _ ?side1 ?side2 A3.out).mono ?_); (case side1 => exact y8 HR0_1.out HB.out); (case side2 => exact HC0_1.out); rintro e w10 ⟨rfl, hb⟩; refine ⟨_, rfl, ?_⟩; replace BK911 := zbb BK911 hb; replace HB := Aside0.mk (below_step (y3 HB.out GE911.out) hb); (try clear hb); (try clear hb2); (try clear hk); (try clear hi)))
  go_ret
  exact ⟨y14, (y3 HB.out GE911.out)⟩
set_option maxHeartbeats 8000000 in
set_option maxRecDepth 100000 in
theorem laws_szValS.calls (k : Nat) : ∀ (A0 : Option Addr) (c0 : Nat) (l0 : List (S68)) (a1 : Int) (r : Int) (w : World) (hr0 : Kd.C k68 w A0 l0.length l0) (hc0 : l0.length ≤ c0) (h : laws_szValS.f k l0 a1 = some r),
  Calls Try.prog 76 #[.slice A0 l0.length c0, .int .i64 a1] w fun e w' => e = .returned (.int .i64 r) ∧ Below w.heap.size w w' := by
 induction k using Nat.strongRecOn with
 | _ k ih =>
 intro A0 c0 l0 a1 r w hr0 hc0 h
 cases k with
 | zero => exact absurd h (by simp [laws_szValS.f])
 | succ k =>
 simp only [laws_szValS.f] at h
 have hu68 := Try.underlying68
 have HR0 := Aside0.mk hr0
 have HC0 := Aside0.mk hc0
 clear hr0 hc0
 have HB := Aside0.mk (Below.refl w.heap.size w)
 have H : (if (wrap64 (a1 - (l0.length : Int))) < 0 then (some (-1)) else (laws_szValS.l0 k l0 (wrap64 (a1 - (l0.length : Int))) 0)) = some r := h
 clear h
 by_cases c3 : (wrap64 (a1 - (l0.length : Int))) < 0
 ·rw [if_pos c3] at H
  have c3b0 : decide ((wrap64 (a1 - (l0.length : Int))) < 0) = true := decide_eq_true c3
  clear c3
  obtain rfl := Option.some.inj H
  go_enter Try.func76, Try.ntmps76
  go_wp2
  go_ret
  exact ⟨y14, (y2 HB.out)⟩
 ·rw [if_neg c3] at H
  have c3b0 : decide ((wrap64 (a1 - (l0.length : Int))) < 0) = false := decide_eq_false c3
  clear c3
  have H' := Aside0.mk H
  clear H
  go_enter Try.func76, Try.ntmps76
  go_wp2
  go_loopg [1, 5] k (fun kq v1 v5 w' => ∃ (x1_1 : Int) (x5_1 : Int), v1 = .int .i64 x1_1 ∧ v5 = .int .i64 x5_1 ∧ Aside0 (laws_szValS.l0 kq l0 x1_1 x5_1 = some r) ∧ Aside0 (kq ≤ k) ∧ Aside0 (Below w.heap.size w w'))
  case atStart => exact ⟨(wrap64 (a1 - (l0.length : Int))), (0), y26, y26, H', ⟨Nat.le_refl _⟩, ⟨(y2 HB.out)⟩⟩
  case round =>
   clear H'
   try clear p2
   try clear c3
   try clear c3b0
   obtain ⟨x1_1, x5_1, rfl, rfl, HA, HK1, HB⟩ := hrel
   cases gk with
   | zero => exact absurd HA.out (by simp [laws_szValS.l0])
   | succ k1 =>
    have H := HA.out
    clear HA
    simp only [laws_szValS.l0] at H
    by_cases c4 : x5_1 < (l0.length : Int)
    ·rw [if_pos c4] at H
     have c4b0 : decide (x5_1 < (l0.length : Int)) = true := decide_eq_true c4
     clear c4
     by_cases c5 : 0 ≤ x5_1
     ·rw [if_pos c5] at H
      have c5b0 : decide (0 ≤ x5_1) = true := decide_eq_true c5
      clear c5
      obtain ⟨t914, A60, H⟩ := ob H
      have A6 := Aside0.mk A60
      clear A60
      by_cases c7 : t914 < 0
      ·rw [if_pos c7] at H
       have c7b0 : decide (t914 < 0) = true := decide_eq_true c7
       clear c7
       obtain rfl := Option.some.inj H
       have p913 : 0 ≤ (x5_1 : Int) := of_decide_eq_true y19
       have q913 : x5_1 < (l0.length : Int) := of_decide_eq_true y19
       obtain ⟨ad913, A913_1, c913_1, e913, hx913_0, hx913_1, hl913_1, hi913_1⟩ := at_T68 HR0.out x5_1 p913 q913
       cases e913
       replace hx913_0 := (HB.out.cell (World.block_lt_of_cell? w _ hx913_0)).trans hx913_0
       replace hx913_1 := (HB.out.cell (World.block_lt_of_cell? w _ hx913_1)).trans hx913_1
       have HR913_1 := Aside0.mk hi913_1
       have HC913_1 := Aside0.mk hl913_1
       clear hi913_1 hl913_1
       replace p913 := eq_true p913
       replace q913 := eq_true q913
       go_wp2_with (first | ((with_reducible refine gate_callee (f := 43) rfl ?_); refine goesL_ (some 23) rfl rfl Try.func43 (by kernel_rfl) rfl #[.agg #[.int .i64 ((rd_T68 l0 x5_1).f0), .slice A913_1 ((rd_T68 l0 x5_1).f1).length c913_1], .int .i64 x1_1] rfl y4 ?_; (with_reducible refine (laws_szVal.Fcalls (laws_szValS.f k1) (ih k1 (y46 HK1.out)) k1 ((rd_T68 l0 x5_1).f0) _ _ ((rd_T68 l0 x5_1).f1) x1_1 t914 _ ?side1 ?side2 A6.out).mono ?_); (case side1 => exact y8 HR913_1.out HB.out); (case side2 => exact HC913_1.out); rintro e w8 ⟨rfl, hb⟩; refine ⟨_, rfl, ?_⟩; replace HB := Aside0.mk (below_step (y2 HB.out) hb); (try clear hb); (try clear hb2); (try clear hk); (try clear hi)))
       go_ret
       exact ⟨y14, (y2 HB.out)⟩
      ·rw [if_neg c7] at H
       have c7b0 : decide (t914 < 0) = false := decide_eq_false c7
       clear c7
       have H' := Aside0.mk H
       clear H
       have p913 : 0 ≤ (x5_1 : Int) := of_decide_eq_true y19
       have q913 : x5_1 < (l0.length : Int) := of_decide_eq_true y19
       obtain ⟨ad913, A913_1, c913_1, e913, hx913_0, hx913_1, hl913_1, hi913_1⟩ := at_T68 HR0.out x5_1 p913 q913
       cases e913
       replace hx913_0 := (HB.out.cell (World.block_lt_of_cell? w _ hx913_0)).trans hx913_0
       replace hx913_1 := (HB.out.cell (World.block_lt_of_cell? w _ hx913_1)).trans hx913_1
       have HR913_1 := Aside0.mk hi913_1
       have HC913_1 := Aside0.mk hl913_1
       clear hi913_1 hl913_1
       replace p913 := eq_true p913
       replace q913 := eq_true q913
       go_wp2_with (first | ((with_reducible refine gate_callee (f := 43) rfl ?_); refine goesL_ (some 23) rfl rfl Try.func43 (by kernel_rfl) rfl #[.agg #[.int .i64 ((rd_T68 l0 x5_1).f0), .slice A913_1 ((rd_T68 l0 x5_1).f1).length c913_1], .int .i64 x1_1] rfl y4 ?_; (with_reducible refine (laws_szVal.Fcalls (laws_szValS.f k1) (ih k1 (y46 HK1.out)) k1 ((rd_T68 l0 x5_1).f0) _ _ ((rd_T68 l0 x5_1).f1) x1_1 t914 _ ?side1 ?side2 A6.out).mono ?_); (case side1 => exact y8 HR913_1.out HB.out); (case side2 => exact HC913_1.out); rintro e w9 ⟨rfl, hb⟩; refine ⟨_, rfl, ?_⟩; replace HB := Aside0.mk (below_step (y2 HB.out) hb); (try clear hb); (try clear hb2); (try clear hk); (try clear hi)))
       go_roundg k1
       case measure => have := HK1.out; omega
       case rel => exact ⟨(t914), (wrap64 (x5_1 + 1)), y26, y26, H', ⟨(y46 HK1.out)⟩, ⟨(y2 HB.out)⟩⟩
     ·rw [if_neg c5] at H
      exact absurd H (by simp)
    ·rw [if_neg c4] at H
     have c4b0 : decide (x5_1 < (l0.length : Int)) = false := decide_eq_false c4
     clear c4
     obtain rfl := Option.some.inj H
     go_wp2
     go_ret
     exact ⟨y14, (y2 HB.out)⟩
def laws_szVal.f (k : Nat) (a0_0 : Int) (l0_1 : List (S68)) (a1 : Int) : Option (Int) := laws_szVal.F (laws_szValS.f k) k a0_0 l0_1 a1
theorem laws_szVal.mono : ∀ a0 a1 a2 k, LeO (laws_szVal.f k a0 a1 a2) (laws_szVal.f (k + 1) a0 a1 a2) := fun a0 a1 a2 k => laws_szVal.Fmono (fun y0 y1 => laws_szValS.mono y0 y1 k) a0 a1 a2 k
theorem laws_szVal.calls (k : Nat) (a0_0 : Int) (A0_1 : Option Addr) (c0_1 : Nat) (l0_1 : List (S68)) (a1 : Int) (r : Int) (w : World) (hr0_1 : Kd.C k68 w A0_1 l0_1.length l0_1) (hc0_1 : l0_1.length ≤ c0_1) (h : laws_szVal.f k a0_0 l0_1 a1 = some r) :
  Calls Try.prog 43 #[.agg #[.int .i64 a0_0, .slice A0_1 l0_1.length c0_1], .int .i64 a1] w fun e w' => e = .returned (.int .i64 r) ∧ Below w.heap.size w w' := laws_szVal.Fcalls (laws_szValS.f k) (laws_szValS.calls k) k a0_0 A0_1 c0_1 l0_1 a1 r w hr0_1 hc0_1 h
end Go.Proofs.Ytjhbhihfifhljaa.PA
end
section
namespace Go.Proofs.Ytjhbhihfifhljaa.PA
open Go.RowKit Go.Proofs.YtjhbhihfifhljaaW.PrintWords Go.Proofs.YtjhbhihfifhljaaW.PrintLast Go.Proofs.YtjhbhihfifhljaaW.PrintMore
attribute [local go_sem] max2_int min2_int max_two min_two max_three min_three max_four min_four
set_option linter.unusedVariables false
set_option linter.unusedSimpArgs false
def laws_toVal.F (rec_ : List (S68) → Option ((List (S55)))) (k : Nat) (a0_0 : Int) (l0_1 : List (S68)) : Option (Int × (List (S55))) := (rec_ l0_1).bind fun t933 => (some (a0_0, t933))
mutual
def laws_toValS.l0 : Nat → List (S68) → List (S55) → Int → Option ((List (S55)))
 | 0, _, _, _ => none
 | k + 1, x0, x3, x4 => if x4 < (x0.length : Int) then (if 0 ≤ x4 then ((laws_toVal.F (laws_toValS.f k) k ((rd_T68 x0 x4).f0) ((rd_T68 x0 x4).f1)).bind fun bt940 => (if x4 < (x3.length : Int) then (laws_toValS.l0 k x0 (x3.set (x4 : Int).toNat (⟨bt940.1, bt940.2⟩ : S55)) (wrap64 (x4 + 1))) else (none))) else (none)) else (some x3)
def laws_toValS.f : Nat → List (S68) → Option ((List (S55)))
 | 0, _ => none
 | k + 1, l0 => if 0 ≤ (l0.length : Int) then (if ((l0.length : Int) : Int).toNat ≤ 8796093022208 then (laws_toValS.l0 k l0 (List.replicate ((l0.length : Int) : Int).toNat z55) 0) else (none)) else (none)
end
theorem laws_toVal.Fmono {rec_ rec2_ : List (S68) → Option ((List (S55)))} (hrec : (∀ y0, LeO (rec_ y0) (rec2_ y0))) : ∀ a0 a1 k, LeO (laws_toVal.F rec_ k a0 a1) (laws_toVal.F rec2_ (k + 1) a0 a1) := by
 intro a0 a1 k
 unfold laws_toVal.F
 repeat' first
   | (with_reducible exact hrec _)
   | (with_reducible exact LeO.refl _)
   | (with_reducible exact LeO.none _)
   | (with_reducible refine LeO.ite ?_ ?_)
   | (with_reducible refine LeO.bind ?_ (fun _ => ?_))
   | exact hrec _
   | exact LeO.none _
   | refine LeO.ite ?_ ?_
   | refine LeO.bind ?_ (fun _ => ?_)
theorem laws_toValS.mono_l : ∀ k, (∀ y0, LeO (laws_toValS.f k y0) (laws_toValS.f (k + 1) y0)) ∧ (∀ y0 y1 y2, LeO (laws_toValS.l0 k y0 y1 y2) (laws_toValS.l0 (k + 1) y0 y1 y2))
 | 0 => ⟨fun _ r h => by simp [laws_toValS.f] at h, fun _ _ _ r h => by simp [laws_toValS.l0] at h⟩
 | k + 1 => by
  obtain ⟨ih0, ih1⟩ := laws_toValS.mono_l k
  refine ⟨?_, ?_⟩
  ·intro y0
   unfold laws_toValS.f
   repeat' first
   | (with_reducible exact ih0 _)
   | (with_reducible exact ih1 _ _ _)
   | (with_reducible exact laws_toVal.Fmono ih0 _ _ _)
   | (with_reducible exact LeO.refl _)
   | (with_reducible exact LeO.none _)
   | (with_reducible refine LeO.ite ?_ ?_)
   | (with_reducible refine LeO.bind ?_ (fun _ => ?_))
   | exact ih0 _
   | exact ih1 _ _ _
   | exact laws_toVal.Fmono ih0 _ _ _
   | exact LeO.none _
   | refine LeO.ite ?_ ?_
   | refine LeO.bind ?_ (fun _ => ?_)
  ·intro y0 y1 y2
   unfold laws_toValS.l0
   repeat' first
   | (with_reducible exact ih0 _)
   | (with_reducible exact ih1 _ _ _)
   | (with_reducible exact laws_toVal.Fmono ih0 _ _ _)
   | (with_reducible exact LeO.refl _)
   | (with_reducible exact LeO.none _)
   | (with_reducible refine LeO.ite ?_ ?_)
   | (with_reducible refine LeO.bind ?_ (fun _ => ?_))
   | exact ih0 _
   | exact ih1 _ _ _
   | exact laws_toVal.Fmono ih0 _ _ _
   | exact LeO.none _
   | refine LeO.ite ?_ ?_
   | refine LeO.bind ?_ (fun _ => ?_)
theorem laws_toValS.mono : ∀ a0 k, LeO (laws_toValS.f k a0) (laws_toValS.f (k + 1) a0) := by
 intro a0 k
 obtain ⟨ih0, ih1⟩ := laws_toValS.mono_l k
 exact ih0 a0
set_option maxHeartbeats 8000000 in
set_option maxRecDepth 100000 in
theorem laws_toVal.Fcalls (rec_ : List (S68) → Option ((List (S55)))) (IH : ∀ (A0 : Option Addr) (c0 : Nat) (l0 : List (S68)) (r : List (S55)) (w : World) (hr0 : Kd.C k68 w A0 l0.length l0) (hc0 : l0.length ≤ c0) (h : rec_ l0 = some r),
  Calls Try.prog 77 #[.slice A0 l0.length c0] w fun e w' => ∃ v0_ : Value, e = .returned (v0_) ∧ Kd.R k55 55 w' w.heap.size (fun _ => True) v0_ r ∧ Below w.heap.size w w') (k : Nat) (a0_0 : Int) (A0_1 : Option Addr) (c0_1 : Nat) (l0_1 : List (S68)) (r1 : Int) (r2 : List (S55)) (w : World) (hr0_1 : Kd.C k68 w A0_1 l0_1.length l0_1) (hc0_1 : l0_1.length ≤ c0_1) (h : laws_toVal.F rec_ k a0_0 l0_1 = some (r1, r2)) :
  Calls Try.prog 44 #[.agg #[.int .i64 a0_0, .slice A0_1 l0_1.length c0_1]] w fun e w' => ∃ v1_ : Value, e = .returned (.agg #[.int .i64 r1, v1_]) ∧ Kd.R k55 55 w' w.heap.size (fun _ => True) v1_ r2 ∧ Below w.heap.size w w' := by
 have hu68 := Try.underlying68
 have hu55 := Try.underlying55
 have HR0_1 := Aside0.mk hr0_1
 have HC0_1 := Aside0.mk hc0_1
 clear hr0_1 hc0_1
 have HB := Aside0.mk (Below.refl w.heap.size w)
 have H : ((rec_ l0_1).bind fun t933 => (some (a0_0, t933))) = some (r1, r2) := h
 clear h
 obtain ⟨t933, A20, H⟩ := ob H
 have A2 := Aside0.mk A20
 clear A20
 simp only [Option.some.injEq, Prod.mk.injEq] at H
 obtain ⟨rfl, rfl⟩ := H
 go_enter Try.func44, Try.ntmps44
 go_wp2_with (first | ((with_reducible refine gate_dst (N := 1) rfl ?_); refine zbx 1 #[.int .i64 a0_0, .slice A0_1 l0_1.length c0_1] 68 ?_; intro gb930 hg w3 hbox hb; have BK930 := Aside0.mk hbox; have GW930 := Aside0.mk ((y5 hg HB.out : w.heap.size ≤ gb930)); have GE930 := Aside0.mk ((y5 hg HB.out : w.heap.size ≤ gb930)); replace HB := Aside0.mk (below_step (y2 HB.out) hb); clear hb hbox hg) | ((with_reducible refine gate_dst (N := 2) rfl ?_); refine zbx 2 #[.int .i64 0, .slice none 0 0] 55 ?_; intro gb931 hg w4 hbox hb; have BK931 := Aside0.mk hbox; have GW931 := Aside0.mk ((y6 hg HB.out GE930.out : w.heap.size ≤ gb931)); have GE931 := Aside0.mk ((y6 hg HB.out GE930.out : w.heap.size ≤ gb931)); replace HB := Aside0.mk (below_step (y3 HB.out GE930.out) hb); have NB930_931 := zltn hg BK930; have NB931_930 := zgtn hg BK930; replace BK930 := zbb BK930 hb; clear hb hbox hg) | ((with_reducible refine gate_dst (N := 3) rfl ?_); refine zbx 3 #[.int .i64 0, .slice none 0 0] 55 ?_; intro gb932 hg w5 hbox hb; have BK932 := Aside0.mk hbox; have GW932 := Aside0.mk ((y20 hg HB.out GE930.out GE931.out : w.heap.size ≤ gb932)); have GE932 := Aside0.mk ((y20 hg HB.out GE930.out GE931.out : w.heap.size ≤ gb932)); replace HB := Aside0.mk (below_step (y1 HB.out GE930.out GE931.out) hb); have NB930_932 := zltn hg BK930; have NB932_930 := zgtn hg BK930; replace BK930 := zbb BK930 hb; have NB931_932 := zltn hg BK931; have NB932_931 := zgtn hg BK931; replace BK931 := zbb BK931 hb; clear hb hbox hg; have hnb6 := NB930_931.out; have hnc6 := NB931_930.out; have hnb7 := NB930_932.out; have hnc7 := NB932_930.out; have hcz8_0 := zh BK930; have hcz8_1 := zh1 BK930; have hfz8_0 := zfr BK930 0; have hfz8_1 := zfr BK930 1; have hnb9 := NB932_931.out; have hnc9 := NB931_932.out; have hcz10_0 := zh BK932; have hcz10_1 := zh1 BK932; have hfz10_0 := zfr BK932 0; have hfz10_1 := zfr BK932 1) | ((with_reducible refine gate_callee (f := 77) rfl ?_); refine goesL_ (some 9) rfl rfl Try.func77 (by kernel_rfl) rfl #[.slice A0_1 l0_1.length c0_1] rfl y4 ?_; (with_reducible refine (IH  _ _ l0_1 t933 _ ?side1 ?side2 A2.out).mono ?_); (case side1 => exact y38 HR0_1.out HB.out GE930.out GE931.out GE932.out); (case side2 => exact HC0_1.out); rintro e w11 ⟨v934, rfl, ho0, hb⟩; refine ⟨_, rfl, ?_⟩; have HO935 := Aside0.mk (Kd.R_lower (Kd.R_newB (Kd.R_newB ho0 (g := gb931) (o := .cells #[.int .i64 0, .slice none 0 0] 55 (0, 0)) (y21 NB931_932.out BK931.out)) (g := gb932) (o := .cells #[.int .i64 a0_0, .slice none 0 0] 55 (0, 0)) (by (with_reducible repeat (first | refine blk_drewN ?_ _ | refine blk_drew ?_ | refine blk_alloc ?_ _)); apply blk_put (i := 0); (case h => exact y0 BK932.out); (case e => rfl))) (below_size (y7 HB.out GE930.out GE931.out GE932.out))); replace BK930 := zbf BK930 NB930_932 hb; replace BK931 := zbf BK931 NB931_932 hb; replace BK932 := Aside0.mk (blk_below (g := gb932) (o := .cells #[.int .i64 a0_0, .slice none 0 0] 55 (0, 0)) (by (with_reducible repeat (first | refine blk_drewN ?_ _ | refine blk_drew ?_ | refine blk_alloc ?_ _)); apply blk_put (i := 0); (case h => exact y0 BK932.out); (case e => rfl)) hb); replace HB := Aside0.mk (below_step (y7 HB.out GE930.out GE931.out GE932.out) hb); (try clear hb); (try clear hb2); (try clear hk); (try clear hi); (try clear ho0); obtain ⟨Ao12, co12, eo12⟩ := Kd.R_slice HO935.out; subst eo12; have hcz13_0 := zh BK932; have hcz13_1 := zh1 BK932; have hfz13_0 := zfr BK932 0; have hfz13_1 := zfr BK932 1; have hcz14_0 := zh BK931; have hcz14_1 := zh1 BK931; have hfz14_0 := zfr BK931 0; have hfz14_1 := zfr BK931 1))
 refine bodyPost_ret (results_cell_row rfl _ _ gb931 55 #[.int .i64 a0_0, .slice Ao12 t933.length co12] (0, 0) _ rfl (by (with_reducible repeat (first | refine blk_drewN ?_ _ | refine blk_drew ?_ | refine blk_alloc ?_ _)); refine blk_put (cs := #[.int .i64 a0_0, .slice none 0 0]) ?_ 1 _ rfl; (with_reducible repeat (first | refine blk_drewN ?_ _ | refine blk_drew ?_ | refine blk_alloc ?_ _)); refine blk_put (cs := #[.int .i64 0, .slice none 0 0]) ?_ 0 _ rfl; (with_reducible repeat (first | refine blk_drewN ?_ _ | refine blk_drew ?_ | refine blk_alloc ?_ _)); refine blk_far ?_ NB931_932.out _; (with_reducible repeat (first | refine blk_drewN ?_ _ | refine blk_drew ?_ | refine blk_alloc ?_ _)); exact BK931.out) Try.underlying55 rfl (by kernel_rfl)) rfl ?_
 exact ⟨_, y14, (by (with_reducible repeat (first | apply Kd.R_alloc | apply Kd.R_drewN | apply Kd.R_drew)); exact Kd.R_mono (Kd.R_far (p := ⟨gb931, 1, none⟩) (Kd.R_far (p := ⟨gb931, 0, none⟩) (Kd.R_far (p := ⟨gb932, 1, none⟩) (Kd.R_mono (Kd.R_mono HO935.out (fun k_ hk => (⟨hk, hk.2⟩ : _ ∧ k_ ≠ gb932))) (fun k_ hk => (⟨hk, hk.1.1.2⟩ : _ ∧ k_ ≠ gb931))) (fun _ hk => hk.1.2) (.slice Ao12 t933.length co12)) (fun _ hk => hk.2) (.int .i64 a0_0)) (fun _ hk => hk.2) (.slice Ao12 t933.length co12)) (fun _ hk => trivial)), (y7 HB.out GE930.out GE931.out GE932.out)⟩
set_option maxHeartbeats 8000000 in
set_option maxRecDepth 100000 in
theorem laws_toValS.calls (k : Nat) : ∀ (A0 : Option Addr) (c0 : Nat) (l0 : List (S68)) (r : List (S55)) (w : World) (hr0 : Kd.C k68 w A0 l0.length l0) (hc0 : l0.length ≤ c0) (h : laws_toValS.f k l0 = some r),
  Calls Try.prog 77 #[.slice A0 l0.length c0] w fun e w' => ∃ v0_ : Value, e = .returned (v0_) ∧ Kd.R k55 55 w' w.heap.size (fun _ => True) v0_ r ∧ Below w.heap.size w w' := by
 induction k using Nat.strongRecOn with
 | _ k ih =>
 intro A0 c0 l0 r w hr0 hc0 h
 cases k with
 | zero => exact absurd h (by simp [laws_toValS.f])
 | succ k =>
 simp only [laws_toValS.f] at h
 have hu68 := Try.underlying68
 have hu55 := Try.underlying55
 have HR0 := Aside0.mk hr0
 have HC0 := Aside0.mk hc0
 clear hr0 hc0
 have HB := Aside0.mk (Below.refl w.heap.size w)
 have H : (if 0 ≤ (l0.length : Int) then (if ((l0.length : Int) : Int).toNat ≤ 8796093022208 then (laws_toValS.l0 k l0 (List.replicate ((l0.length : Int) : Int).toNat z55) 0) else (none)) else (none)) = some r := h
 clear h
 by_cases c2 : 0 ≤ (l0.length : Int)
 ·rw [if_pos c2] at H
  have c2b0 := eq_true c2
  have c2b1 : decide (0 ≤ (l0.length : Int)) = true := decide_eq_true c2
  clear c2
  by_cases c3 : ((l0.length : Int) : Int).toNat ≤ 8796093022208
  ·rw [if_pos c3] at H
   have c3b0 := eq_true c3
   have c3b1 : decide (((l0.length : Int) : Int).toNat ≤ 8796093022208) = true := decide_eq_true c3
   clear c3
   obtain ⟨y936, hy936⟩ : ∃ y_ : List (S55), y_ = (List.replicate ((l0.length : Int) : Int).toNat z55) := ⟨_, rfl⟩
   replace H : (laws_toValS.l0 k l0 y936 0) = some r := by first | (rw [hy936]; with_reducible exact H) | (have H2_ := (Option.bind_some _ _).symm.trans H; rw [hy936]; with_reducible exact H2_) | (have H2_ := (Option.bind_some _ _).symm.trans H; with_reducible exact H2_) | with_reducible exact H | (rw [hy936]; exact H) | exact H
   have Ny936 := Aside0.mk hy936
   clear hy936
   have H' := Aside0.mk H
   clear H
   go_enter Try.func77, Try.ntmps77
   go_wp2_with (first | ((with_reducible refine gate_dst (N := 7) rfl ?_); refine Kd.R_make k55 _ 55 rfl (N := 7) rfl 53 _ _ rfl (l0.length : Int) rfl rfl Try.underlying53 (.agg #[(.int .i64 0), (.slice none 0 0)]) 32 info55 rfl (by decide) (by omega) z55 (ok := fun _ => True) (okp := fun _ => True) (k55_mkM _ _ _ z55 (Kd.R_nil _ _ _ _ _)) (fun _ hk => hk) trivial (of_decide_eq_true y19) (Nat.le_trans (Nat.mul_le_mul_right _ (of_decide_eq_true y19 : (l0.length : Int).toNat ≤ 8796093022208)) (by omega)) (Below.refl _ _) (Nat.le_refl _) ?_; intro v937 w4 ho5 hb hg_ hnew_; clear hg_ hnew_; (first | rw [← Ny936.out] at ho5 | (simp only [Int.reduceToNat] at ho5; rw [← Ny936.out] at ho5)); have HO938 := Aside0.mk (Kd.R_lower ho5 (below_size (y2 HB.out))); replace HB := Aside0.mk (below_step (y2 HB.out) hb); clear hb ho5))
   go_loopg [4] k (fun kq v4 w' => ∃ (x3_1 : List (S55)) (x4_1 : Int), v4 = .int .i64 x4_1 ∧ Aside0 (laws_toValS.l0 kq l0 x3_1 x4_1 = some r) ∧ Aside0 (kq ≤ k) ∧ Aside0 (Kd.R k55 55 w' w.heap.size (fun _ => True) v937 x3_1) ∧ Aside0 (Below w.heap.size w w'))
   case atStart => exact ⟨(y936), (0), y26, H', ⟨Nat.le_refl _⟩, ⟨(y10 HO938.out)⟩, ⟨(y2 HB.out)⟩⟩
   case round =>
    clear H'
    try clear c2
    try clear c2b0
    try clear c2b1
    try clear p2
    try clear c3
    try clear c3b0
    try clear c3b1
    obtain ⟨x3_1, x4_1, rfl, HA, HK1, HO_3, HB⟩ := hrel
    cases gk with
    | zero => exact absurd HA.out (by simp [laws_toValS.l0])
    | succ k1 =>
     have H := HA.out
     clear HA
     simp only [laws_toValS.l0] at H
     by_cases c6 : x4_1 < (l0.length : Int)
     ·rw [if_pos c6] at H
      have c6b0 : decide (x4_1 < (l0.length : Int)) = true := decide_eq_true c6
      clear c6
      by_cases c7 : 0 ≤ x4_1
      ·rw [if_pos c7] at H
       have c7b0 : decide (0 ≤ x4_1) = true := decide_eq_true c7
       clear c7
       obtain ⟨⟨t940, t941⟩, A80, H⟩ := ob H
       have A8 := Aside0.mk A80
       clear A80
       by_cases c9 : x4_1 < (x3_1.length : Int)
       ·rw [if_pos c9] at H
        have c9b0 : decide (x4_1 < (x3_1.length : Int)) = true := decide_eq_true c9
        clear c9
        obtain ⟨y944, hy944⟩ : ∃ y_ : List (S55), y_ = (x3_1.set (x4_1 : Int).toNat (⟨t940, t941⟩ : S55)) := ⟨_, rfl⟩
        replace H : (laws_toValS.l0 k1 l0 y944 (wrap64 (x4_1 + 1))) = some r := by first | (rw [hy944]; with_reducible exact H) | (have H2_ := (Option.bind_some _ _).symm.trans H; rw [hy944]; with_reducible exact H2_) | (have H2_ := (Option.bind_some _ _).symm.trans H; with_reducible exact H2_) | with_reducible exact H | (rw [hy944]; exact H) | exact H
        have Ny944 := Aside0.mk hy944
        clear hy944
        have H' := Aside0.mk H
        clear H
        have p939 : 0 ≤ (x4_1 : Int) := of_decide_eq_true y19
        have q939 : x4_1 < (l0.length : Int) := of_decide_eq_true y19
        obtain ⟨ad939, A939_1, c939_1, e939, hx939_0, hx939_1, hl939_1, hi939_1⟩ := at_T68 HR0.out x4_1 p939 q939
        cases e939
        replace hx939_0 := (HB.out.cell (World.block_lt_of_cell? w _ hx939_0)).trans hx939_0
        replace hx939_1 := (HB.out.cell (World.block_lt_of_cell? w _ hx939_1)).trans hx939_1
        have HR939_1 := Aside0.mk hi939_1
        have HC939_1 := Aside0.mk hl939_1
        clear hi939_1 hl939_1
        replace p939 := eq_true p939
        replace q939 := eq_true q939
        go_wp2_with (first | ((with_reducible refine gate_callee (f := 44) rfl ?_); refine goesL_ (some 20) rfl rfl Try.func44 (by kernel_rfl) rfl #[.agg #[.int .i64 ((rd_T68 l0 x4_1).f0), .slice A939_1 ((rd_T68 l0 x4_1).f1).length c939_1]] rfl y4 ?_; (with_reducible refine (laws_toVal.Fcalls (laws_toValS.f k1) (ih k1 (y46 HK1.out)) k1 ((rd_T68 l0 x4_1).f0) _ _ ((rd_T68 l0 x4_1).f1) t940 t941 _ ?side1 ?side2 A8.out).mono ?_); (case side1 => exact y8 HR939_1.out HB.out); (case side2 => exact HC939_1.out); rintro e w11 ⟨v942, rfl, ho0, hb⟩; refine ⟨_, rfl, ?_⟩; have HO943 := Aside0.mk (Kd.R_lower (Kd.R_new' ho0 (Kd.R_lt (y10 HO_3.out))) (below_size (y2 HB.out))); replace HO_3 := Aside0.mk (Kd.R_elder' (y10 HO_3.out) (Kd.R_base ho0) hb); replace HB := Aside0.mk (below_step (y2 HB.out) hb); (try clear hb); (try clear hb2); (try clear hk); (try clear hi); (try clear ho0); have p10 : 0 ≤ (x4_1 : Int) := of_decide_eq_true y19; have q10 : (x4_1 : Int) < ((x3_1.length : Int) : Int) := of_decide_eq_true y19; obtain ⟨go10, co10, eo10, gb10, gl10, cl10, HG10⟩ := Kd.R_form HO_3.out (by omega); (first | cases eo10 | (injection eo10 with ea_ en_ ec_; (first | subst ea_ | (injection ea_ with ea_; subst ea_)); subst ec_; clear en_)); have GB10 := Aside0.mk gb10; have GG10 := Aside0.mk HG10; clear gb10 gl10 HG10; obtain ⟨ce10, hcl10, hM10, hcc10, hfr10⟩ := Kd.R_elem HO_3.out z55 (x4_1 : Int) p10 q10; obtain ⟨ve10_1, rfl, ge10_1⟩ := k55_openM hM10; have hx10_0 : w11.cell? ⟨go10, (x4_1 : Int).toNat * 2, none⟩ = some (.int .i64 ((rd_T55 x3_1 x4_1).f0)) := hcc10 0 _ rfl; have hx10_1 : w11.cell? ⟨go10, (x4_1 : Int).toNat * 2 + 1, none⟩ = some (ve10_1) := hcc10 1 _ rfl; have hf10_0 : w11.frozen? ⟨go10, (x4_1 : Int).toNat * 2, none⟩ = false := hfr10 0; have hf10_1 : w11.frozen? ⟨go10, (x4_1 : Int).toNat * 2 + 1, none⟩ = false := hfr10 1; clear hcl10 hcc10 hfr10 hM10; replace p10 := eq_true p10; replace q10 := eq_true q10; obtain ⟨Ao12, co12, eo12⟩ := Kd.R_slice HO943.out; subst eo12; have n_ := Aside0.mk (Kd.R_mono (ok' := (fun k_ => some k_ ≠ (.slice Ao12 t941.length co12 : Value).ownBlock)) HO_3.out (fun k_ hk => hk.2)); clear HO_3; have HO_3 := n_; clear n_; have HX13 := Aside0.mk (show Kd.R k55 55 w11 w.heap.size (fun _ => True) (.slice (some ⟨go10, 0, none⟩) x3_1.length co10) x3_1 from (by (with_reducible repeat (first | apply Kd.R_alloc | apply Kd.R_drewN | apply Kd.R_drew)); exact Kd.R_mono HO_3.out (fun _ hk => trivial))); obtain ⟨ce13, hcl13, hM13, hcc13, hfr13⟩ := Kd.R_elem HX13.out z55 (x4_1 : Int) (of_decide_eq_true y19) (by have h_ : (x4_1 : Int) < ((x3_1.length : Int) : Int) := of_decide_eq_true y19; first | exact h_ | (have e_ := (Kd.R_reads' HO_3.out).1; omega) | simpa using h_); obtain ⟨ve13_1, rfl, ge13_1⟩ := k55_openM hM13; have HP13 := Kd.R_seg HX13.out (x4_1 : Int) (of_decide_eq_true y19) (by have h_ : (x4_1 : Int) < ((x3_1.length : Int) : Int) := of_decide_eq_true y19; first | exact h_ | (have e_ := (Kd.R_reads' HO_3.out).1; omega) | simpa using h_) (seg := [.int .i64 t940, .slice Ao12 t941.length co12]) (j := 0) hcl13 hcc13 (show 2 ≤ 2 from by decide) (x' := (⟨t940, t941⟩ : S55)) (k55_mkM _ _ _ (⟨t940, t941⟩ : S55) (Kd.R_mono (HO943.out) (fun k_ hk => ⟨trivial, fun e_ => (hk.2) (by rw [e_]; rfl)⟩))) (fun _ hk => hk); have hx13_0 := hcc13 0 _ rfl; (try simp only [show (k55).sz = 2 from rfl, Nat.mul_one, Nat.add_zero] at hx13_0); have hf13_0 := hfr13 0; (try simp only [show (k55).sz = 2 from rfl, Nat.mul_one, Nat.add_zero] at hf13_0); have hx13_1 := hcc13 1 _ rfl; (try simp only [show (k55).sz = 2 from rfl, Nat.mul_one, Nat.add_zero] at hx13_1); have hf13_1 := hfr13 1; (try simp only [show (k55).sz = 2 from rfl, Nat.mul_one, Nat.add_zero] at hf13_1); clear hcl13 hcc13 hfr13 hM13) | ((with_reducible refine gate_store (t := 55) (p := 21) rfl ?_); refine store_event (t := 55) (p := 21) (v := ?vo_w14) (w1 := ((w11.setCell ⟨go10, (x4_1 : Int).toNat * 2, none⟩ (.int .i64 t940)).setCell ⟨go10, (x4_1 : Int).toNat * 2 + 1, none⟩ (.slice Ao12 t941.length co12))) ?hg ?ho ?hn ?hr ?_; (case ho => rfl); (case hg => rfl); (case hn => rfl); (case hr => first | (go_simp; done) | (go_simp; rfl)); intro w14 hw; have hg : w11.grownBy w14 (some go10) := (by rw [hw]; exact HP13.2); have hp_ : Kd.R k55 55 w14 w.heap.size (fun _ => True) (.slice (some ⟨go10, 0, none⟩) x3_1.length co10) y944 := (by rw [hw, Ny944.out]; exact HP13.1); clear HP13; replace HO_3 := Aside0.mk (hp_); replace HB := Aside0.mk ((by rw [hw]; exact below_set (below_set (HB.out) GB10.out) GB10.out : Below w.heap.size w w14)); clear HO943; clear hg hw hp_))
        go_roundg k1
        case measure => have := HK1.out; omega
        case rel => exact ⟨(y944), (wrap64 (x4_1 + 1)), y26, H', ⟨(y46 HK1.out)⟩, ⟨(y10 HO_3.out)⟩, ⟨(y2 HB.out)⟩⟩
       ·rw [if_neg c9] at H
        exact absurd H (by simp)
      ·rw [if_neg c7] at H
       exact absurd H (by simp)
     ·rw [if_neg c6] at H
      have c6b0 : decide (x4_1 < (l0.length : Int)) = false := decide_eq_false c6
      clear c6
      obtain rfl := Option.some.inj H
      go_wp2
      go_ret
      exact ⟨_, y14, (y10 HO_3.out), (y2 HB.out)⟩
  ·rw [if_neg c3] at H
   exact absurd H (by simp)
 ·rw [if_neg c2] at H
  exact absurd H (by simp)
def laws_toVal.f (k : Nat) (a0_0 : Int) (l0_1 : List (S68)) : Option (Int × (List (S55))) := laws_toVal.F (laws_toValS.f k) k a0_0 l0_1
theorem laws_toVal.mono : ∀ a0 a1 k, LeO (laws_toVal.f k a0 a1) (laws_toVal.f (k + 1) a0 a1) := fun a0 a1 k => laws_toVal.Fmono (fun y0 => laws_toValS.mono y0 k) a0 a1 k
theorem laws_toVal.calls (k : Nat) (a0_0 : Int) (A0_1 : Option Addr) (c0_1 : Nat) (l0_1 : List (S68)) (r1 : Int) (r2 : List (S55)) (w : World) (hr0_1 : Kd.C k68 w A0_1 l0_1.length l0_1) (hc0_1 : l0_1.length ≤ c0_1) (h : laws_toVal.f k a0_0 l0_1 = some (r1, r2)) :
  Calls Try.prog 44 #[.agg #[.int .i64 a0_0, .slice A0_1 l0_1.length c0_1]] w fun e w' => ∃ v1_ : Value, e = .returned (.agg #[.int .i64 r1, v1_]) ∧ Kd.R k55 55 w' w.heap.size (fun _ => True) v1_ r2 ∧ Below w.heap.size w w' := laws_toVal.Fcalls (laws_toValS.f k) (laws_toValS.calls k) k a0_0 A0_1 c0_1 l0_1 r1 r2 w hr0_1 hc0_1 h
end Go.Proofs.Ytjhbhihfifhljaa.PA
end
section
namespace Go.Proofs.Ytjhbhihfifhljaa.PA
open Go.RowKit Go.Proofs.YtjhbhihfifhljaaW.PrintWords Go.Proofs.YtjhbhihfifhljaaW.PrintLast Go.Proofs.YtjhbhihfifhljaaW.PrintMore
attribute [local go_sem] max2_int min2_int max_two min_two max_three min_three max_four min_four
set_option linter.unusedVariables false
set_option linter.unusedSimpArgs false
def laws_eqVal.F (rec_ : List (S55) → List (S55) → Option (Bool)) (k : Nat) (a0_0 : Int) (l0_1 : List (S55)) (a1_0 : Int) (l1_1 : List (S55)) : Option (Bool) := if a0_0 = a1_0 then ((rec_ l0_1 l1_1).bind fun t953 => (if t953 = true then (some true) else (some false))) else (some false)
mutual
def laws_eqValS.l0 : Nat → List (S55) → List (S55) → Int → Option (Bool)
 | 0, _, _, _ => none
 | k + 1, x0, x1, x5 => if x5 < (x0.length : Int) then (if 0 ≤ x5 then (if x5 < (x1.length : Int) then ((laws_eqVal.F (laws_eqValS.f k) k ((rd_T55 x0 x5).f0) ((rd_T55 x0 x5).f1) ((rd_T55 x1 x5).f0) ((rd_T55 x1 x5).f1)).bind fun t956 => (if t956 = true then (laws_eqValS.l0 k x0 x1 (wrap64 (x5 + 1))) else (some false))) else (none)) else (none)) else (some true)
def laws_eqValS.f : Nat → List (S55) → List (S55) → Option (Bool)
 | 0, _, _ => none
 | k + 1, l0, l1 => if (l0.length : Int) = (l1.length : Int) then (laws_eqValS.l0 k l0 l1 0) else (some false)
end
theorem laws_eqVal.Fmono {rec_ rec2_ : List (S55) → List (S55) → Option (Bool)} (hrec : (∀ y0 y1, LeO (rec_ y0 y1) (rec2_ y0 y1))) : ∀ a0 a1 a2 a3 k, LeO (laws_eqVal.F rec_ k a0 a1 a2 a3) (laws_eqVal.F rec2_ (k + 1) a0 a1 a2 a3) := by
 intro a0 a1 a2 a3 k
 unfold laws_eqVal.F
 repeat' first
   | (with_reducible exact hrec _ _)
   | (with_reducible exact LeO.refl _)
   | (with_reducible exact LeO.none _)
   | (with_reducible refine LeO.ite ?_ ?_)
   | (with_reducible refine LeO.bind ?_ (fun _ => ?_))
   | exact hrec _ _
   | exact LeO.none _
   | refine LeO.ite ?_ ?_
   | refine LeO.bind ?_ (fun _ => ?_)
theorem laws_eqValS.mono_l : ∀ k, (∀ y0 y1, LeO (laws_eqValS.f k y0 y1) (laws_eqValS.f (k + 1) y0 y1)) ∧ (∀ y0 y1 y2, LeO (laws_eqValS.l0 k y0 y1 y2) (laws_eqValS.l0 (k + 1) y0 y1 y2))
 | 0 => ⟨fun _ _ r h => by simp [laws_eqValS.f] at h, fun _ _ _ r h => by simp [laws_eqValS.l0] at h⟩
 | k + 1 => by
  obtain ⟨ih0, ih1⟩ := laws_eqValS.mono_l k
  refine ⟨?_, ?_⟩
  ·intro y0 y1
   unfold laws_eqValS.f
   repeat' first
   | (with_reducible exact ih0 _ _)
   | (with_reducible exact ih1 _ _ _)
   | (with_reducible exact laws_eqVal.Fmono ih0 _ _ _ _ _)
   | (with_reducible exact LeO.refl _)
   | (with_reducible exact LeO.none _)
   | (with_reducible refine LeO.ite ?_ ?_)
   | (with_reducible refine LeO.bind ?_ (fun _ => ?_))
   | exact ih0 _ _
   | exact ih1 _ _ _
   | exact laws_eqVal.Fmono ih0 _ _ _ _ _
   | exact LeO.none _
   | refine LeO.ite ?_ ?_
   | refine LeO.bind ?_ (fun _ => ?_)
  ·intro y0 y1 y2
   unfold laws_eqValS.l0
   repeat' first
   | (with_reducible exact ih0 _ _)
   | (with_reducible exact ih1 _ _ _)
   | (with_reducible exact laws_eqVal.Fmono ih0 _ _ _ _ _)
   | (with_reducible exact LeO.refl _)
   | (with_reducible exact LeO.none _)
   | (with_reducible refine LeO.ite ?_ ?_)
   | (with_reducible refine LeO.bind ?_ (fun _ => ?_))
   | exact ih0 _ _
   | exact ih1 _ _ _
   | exact laws_eqVal.Fmono ih0 _ _ _ _ _
   | exact LeO.none _
   | refine LeO.ite ?_ ?_
   | refine LeO.bind ?_ (fun _ => ?_)
theorem laws_eqValS.mono : ∀ a0 a1 k, LeO (laws_eqValS.f k a0 a1) (laws_eqValS.f (k + 1) a0 a1) := by
 intro a0 a1 k
 obtain ⟨ih0, ih1⟩ := laws_eqValS.mono_l k
 exact ih0 a0 a1
set_option maxHeartbeats 8000000 in
set_option maxRecDepth 100000 in
theorem laws_eqVal.Fcalls (rec_ : List (S55) → List (S55) → Option (Bool)) (IH : ∀ (A0 : Option Addr) (c0 : Nat) (l0 : List (S55)) (A1 : Option Addr) (c1 : Nat) (l1 : List (S55)) (r : Bool) (w : World) (hr0 : Kd.C k55 w A0 l0.length l0) (hc0 : l0.length ≤ c0) (hr1 : Kd.C k55 w A1 l1.length l1) (hc1 : l1.length ≤ c1) (h : rec_ l0 l1 = some r),
  Calls Try.prog 78 #[.slice A0 l0.length c0, .slice A1 l1.length c1] w fun e w' => e = .returned (.bool r) ∧ Below w.heap.size w w') (k : Nat) (a0_0 : Int) (A0_1 : Option Addr) (c0_1 : Nat) (l0_1 : List (S55)) (a1_0 : Int) (A1_1 : Option Addr) (c1_1 : Nat) (l1_1 : List (S55)) (r : Bool) (w : World) (hr0_1 : Kd.C k55 w A0_1 l0_1.length l0_1) (hc0_1 : l0_1.length ≤ c0_1) (hr1_1 : Kd.C k55 w A1_1 l1_1.length l1_1) (hc1_1 : l1_1.length ≤ c1_1) (h : laws_eqVal.F rec_ k a0_0 l0_1 a1_0 l1_1 = some r) :
  Calls Try.prog 45 #[.agg #[.int .i64 a0_0, .slice A0_1 l0_1.length c0_1], .agg #[.int .i64 a1_0, .slice A1_1 l1_1.length c1_1]] w fun e w' => e = .returned (.bool r) ∧ Below w.heap.size w w' := by
 have hu55 := Try.underlying55
 have HR0_1 := Aside0.mk hr0_1
 have HC0_1 := Aside0.mk hc0_1
 clear hr0_1 hc0_1
 have HR1_1 := Aside0.mk hr1_1
 have HC1_1 := Aside0.mk hc1_1
 clear hr1_1 hc1_1
 have HB := Aside0.mk (Below.refl w.heap.size w)
 have H : (if a0_0 = a1_0 then ((rec_ l0_1 l1_1).bind fun t953 => (if t953 = true then (some true) else (some false))) else (some false)) = some r := h
 clear h
 by_cases c3 : a0_0 = a1_0
 ·rw [if_pos c3] at H
  have c3b0 : (a0_0 == a1_0) = true := beq_iff_eq.mpr c3
  have c3b1 : (a0_0 != a1_0) = false := bne_eq_false_iff_eq.mpr c3
  clear c3
  obtain ⟨t953, A40, H⟩ := ob H
  have A4 := Aside0.mk A40
  clear A40
  by_cases c5 : t953 = true
  ·subst c5
   rw [if_pos rfl] at H
   obtain rfl := Option.some.inj H
   go_enter Try.func45, Try.ntmps45
   go_wp2_with (first | ((with_reducible refine gate_dst (N := 2) rfl ?_); refine zbx 2 #[.int .i64 a0_0, .slice A0_1 l0_1.length c0_1] 55 ?_; intro gb951 hg w6 hbox hb; have BK951 := Aside0.mk hbox; have GW951 := Aside0.mk ((y5 hg HB.out : w.heap.size ≤ gb951)); have GE951 := Aside0.mk ((y5 hg HB.out : w.heap.size ≤ gb951)); replace HB := Aside0.mk (below_step (y2 HB.out) hb); clear hb hbox hg) | ((with_reducible refine gate_dst (N := 3) rfl ?_); refine zbx 3 #[.int .i64 a1_0, .slice A1_1 l1_1.length c1_1] 55 ?_; intro gb952 hg w7 hbox hb; have BK952 := Aside0.mk hbox; have GW952 := Aside0.mk ((y6 hg HB.out GE951.out : w.heap.size ≤ gb952)); have GE952 := Aside0.mk ((y6 hg HB.out GE951.out : w.heap.size ≤ gb952)); replace HB := Aside0.mk (below_step (y3 HB.out GE951.out) hb); have NB951_952 := zltn hg BK951; have NB952_951 := zgtn hg BK951; replace BK951 := zbb BK951 hb; clear hb hbox hg; have hnb8 := NB951_952.out; have hnc8 := NB952_951.out; have hcz9_0 := zh BK951; have hcz9_1 := zh1 BK951; have hfz9_0 := zfr BK951 0; have hfz9_1 := zfr BK951 1; have hcz10_0 := zh BK952; have hcz10_1 := zh1 BK952; have hfz10_0 := zfr BK952 0; have hfz10_1 := zfr BK952 1) | ((with_reducible refine gate_callee (f := 78) rfl ?_); refine goesL_ (some 14) rfl rfl Try.func78 (by kernel_rfl) rfl #[.slice A0_1 l0_1.length c0_1, .slice A1_1 l1_1.length c1_1] rfl y4 ?_; (with_reducible refine (IH  _ _ l0_1 _ _ l1_1 true _ ?side1 ?side2 ?side3 ?side4 A4.out).mono ?_); (case side1 => exact y8 HR0_1.out HB.out); (case side2 => exact HC0_1.out); (case side3 => exact y8 HR1_1.out HB.out); (case side4 => exact HC1_1.out); rintro e w11 ⟨rfl, hb⟩; refine ⟨_, rfl, ?_⟩; replace BK951 := zbb BK951 hb; replace BK952 := zbb BK952 hb; replace HB := Aside0.mk (below_step (y1 HB.out GE951.out GE952.out) hb); (try clear hb); (try clear hb2); (try clear hk); (try clear hi)))
   go_ret
   exact ⟨y14, (y1 HB.out GE951.out GE952.out)⟩
  ·replace c5 := Bool.eq_false_iff.mpr c5
   subst c5
   rw [if_neg (show ¬ (false = true) by decide)] at H
   obtain rfl := Option.some.inj H
   go_enter Try.func45, Try.ntmps45
   go_wp2_with (first | ((with_reducible refine gate_dst (N := 2) rfl ?_); refine zbx 2 #[.int .i64 a0_0, .slice A0_1 l0_1.length c0_1] 55 ?_; intro gb951 hg w12 hbox hb; have BK951 := Aside0.mk hbox; have GW951 := Aside0.mk ((y5 hg HB.out : w.heap.size ≤ gb951)); have GE951 := Aside0.mk ((y5 hg HB.out : w.heap.size ≤ gb951)); replace HB := Aside0.mk (below_step (y2 HB.out) hb); clear hb hbox hg) | ((with_reducible refine gate_dst (N := 3) rfl ?_); refine zbx 3 #[.int .i64 a1_0, .slice A1_1 l1_1.length c1_1] 55 ?_; intro gb952 hg w13 hbox hb; have BK952 := Aside0.mk hbox; have GW952 := Aside0.mk ((y6 hg HB.out GE951.out : w.heap.size ≤ gb952)); have GE952 := Aside0.mk ((y6 hg HB.out GE951.out : w.heap.size ≤ gb952)); replace HB := Aside0.mk (below_step (y3 HB.out GE951.out) hb); have NB951_952 := zltn hg BK951; have NB952_951 := zgtn hg BK951; replace BK951 := zbb BK951 hb; clear hb hbox hg; have hnb14 := NB951_952.out; have hnc14 := NB952_951.out; have hcz15_0 := zh BK951; have hcz15_1 := zh1 BK951; have hfz15_0 := zfr BK951 0; have hfz15_1 := zfr BK951 1; have hcz16_0 := zh BK952; have hcz16_1 := zh1 BK952; have hfz16_0 := zfr BK952 0; have hfz16_1 := zfr BK952 1) | ((with_reducible refine gate_callee (f := 78) rfl ?_); refine goesL_ (some 14) rfl rfl Try.func78 (by kernel_rfl) rfl #[.slice A0_1 l0_1.length c0_1, .slice A1_1 l1_1.length c1_1] rfl y4 ?_; (with_reducible refine (IH  _ _ l0_1 _ _ l1_1 false _ ?side1 ?side2 ?side3 ?side4 A4.out).mono ?_); (case side1 => exact y8 HR0_1.out HB.out); (case side2 => exact HC0_1.out); (case side3 => exact y8 HR1_1.out HB.out); (case side4 => exact HC1_1.out); rintro e w17 ⟨rfl, hb⟩; refine ⟨_, rfl, ?_⟩; replace BK951 := zbb BK951 hb; replace BK952 := zbb BK952 hb; replace HB := Aside0.mk (below_step (y1 HB.out GE951.out GE952.out) hb); (try clear hb); (try clear hb2); (try clear hk); (try clear hi)))
   go_ret
   exact ⟨y14, (y1 HB.out GE951.out GE952.out)⟩
 ·rw [if_neg c3] at H
  have c3b0 : (a0_0 == a1_0) = false := beq_eq_false_iff_ne.mpr c3
  have c3b1 : (a0_0 != a1_0) = true := bne_iff_ne.mpr c3
  obtain rfl := Option.some.inj H
  go_enter Try.func45, Try.ntmps45
  go_wp2_with (first | ((with_reducible refine gate_dst (N := 2) rfl ?_); refine zbx 2 #[.int .i64 a0_0, .slice A0_1 l0_1.length c0_1] 55 ?_; intro gb951 hg w18 hbox hb; have BK951 := Aside0.mk hbox; have GW951 := Aside0.mk ((y5 hg HB.out : w.heap.size ≤ gb951)); have GE951 := Aside0.mk ((y5 hg HB.out : w.heap.size ≤ gb951)); replace HB := Aside0.mk (below_step (y2 HB.out) hb); clear hb hbox hg) | ((with_reducible refine gate_dst (N := 3) rfl ?_); refine zbx 3 #[.int .i64 a1_0, .slice A1_1 l1_1.length c1_1] 55 ?_; intro gb952 hg w19 hbox hb; have BK952 := Aside0.mk hbox; have GW952 := Aside0.mk ((y6 hg HB.out GE951.out : w.heap.size ≤ gb952)); have GE952 := Aside0.mk ((y6 hg HB.out GE951.out : w.heap.size ≤ gb952)); replace HB := Aside0.mk (below_step (y3 HB.out GE951.out) hb); have NB951_952 := zltn hg BK951; have NB952_951 := zgtn hg BK951; replace BK951 := zbb BK951 hb; clear hb hbox hg; have hnb20 := NB951_952.out; have hnc20 := NB952_951.out; have hcz21_0 := zh BK951; have hcz21_1 := zh1 BK951; have hfz21_0 := zfr BK951 0; have hfz21_1 := zfr BK951 1; have hcz22_0 := zh BK952; have hcz22_1 := zh1 BK952; have hfz22_0 := zfr BK952 0; have hfz22_1 := zfr BK952 1))
  go_ret
  exact ⟨y14, (y1 HB.out GE951.out GE952.out)⟩
def laws_eqValS.T6 : Bool × List (List Nat × List Nat) := (true, [([], []), ([], []), ([0, 1], [0, 1]), ([2], [2]), ([], []), ([], []), ([4, 5], [4, 5]), ([6], [6]), ([3, 7], [3, 7]), ([8], [8])])
def laws_eqValS.B6 : List Nat := [0, 0, 3, 7, 0, 0, 48, 112, 255, 511]
theorem laws_eqValS.tab6 : rtab .any (opsOf Try.f78 6) = laws_eqValS.T6 := by kernel_rfl
theorem laws_eqValS.bits6 : waitsOk laws_eqValS.T6.2 laws_eqValS.B6 = true := by kernel_rfl
set_option maxHeartbeats 8000000 in
set_option maxRecDepth 100000 in
theorem laws_eqValS.calls (k : Nat) : ∀ (A0 : Option Addr) (c0 : Nat) (l0 : List (S55)) (A1 : Option Addr) (c1 : Nat) (l1 : List (S55)) (r : Bool) (w : World) (hr0 : Kd.C k55 w A0 l0.length l0) (hc0 : l0.length ≤ c0) (hr1 : Kd.C k55 w A1 l1.length l1) (hc1 : l1.length ≤ c1) (h : laws_eqValS.f k l0 l1 = some r),
  Calls Try.prog 78 #[.slice A0 l0.length c0, .slice A1 l1.length c1] w fun e w' => e = .returned (.bool r) ∧ Below w.heap.size w w' := by
 induction k using Nat.strongRecOn with
 | _ k ih =>
 intro A0 c0 l0 A1 c1 l1 r w hr0 hc0 hr1 hc1 h
 cases k with
 | zero => exact absurd h (by simp [laws_eqValS.f])
 | succ k =>
 simp only [laws_eqValS.f] at h
 have hu55 := Try.underlying55
 have HR0 := Aside0.mk hr0
 have HC0 := Aside0.mk hc0
 clear hr0 hc0
 have HR1 := Aside0.mk hr1
 have HC1 := Aside0.mk hc1
 clear hr1 hc1
 have HB := Aside0.mk (Below.refl w.heap.size w)
 have H : (if (l0.length : Int) = (l1.length : Int) then (laws_eqValS.l0 k l0 l1 0) else (some false)) = some r := h
 clear h
 by_cases c3 : (l0.length : Int) = (l1.length : Int)
 ·rw [if_pos c3] at H
  have c3b0 : ((l0.length : Int) == (l1.length : Int)) = true := beq_iff_eq.mpr c3
  have c3b1 : ((l0.length : Int) != (l1.length : Int)) = false := bne_eq_false_iff_eq.mpr c3
  have c3b2 : (l0.length == l1.length) = true := by first | simpa using c3 | (simp at c3 ⊢; omega)
  clear c3
  have H' := Aside0.mk H
  clear H
  go_enter Try.func78, Try.ntmps78
  go_wp2
  go_loopg [5] k (fun kq v5 w' => ∃ (x5_1 : Int), v5 = .int .i64 x5_1 ∧ Aside0 (laws_eqValS.l0 kq l0 l1 x5_1 = some r) ∧ Aside0 (kq ≤ k) ∧ Aside0 (Below w.heap.size w w'))
  case atStart => exact ⟨(0), y26, H', ⟨Nat.le_refl _⟩, ⟨(y2 HB.out)⟩⟩
  case round =>
   clear H'
   try clear c1
   try clear p2
   try clear c3
   try clear c3b0
   try clear c3b1
   try clear c3b2
   obtain ⟨x5_1, rfl, HA, HK1, HB⟩ := hrel
   cases gk with
   | zero => exact absurd HA.out (by simp [laws_eqValS.l0])
   | succ k1 =>
    have H := HA.out
    clear HA
    simp only [laws_eqValS.l0] at H
    by_cases c4 : x5_1 < (l0.length : Int)
    ·rw [if_pos c4] at H
     have c4b0 : decide (x5_1 < (l0.length : Int)) = true := decide_eq_true c4
     clear c4
     by_cases c5 : 0 ≤ x5_1
     ·rw [if_pos c5] at H
      have c5b0 : decide (0 ≤ x5_1) = true := decide_eq_true c5
      clear c5
      by_cases c6 : x5_1 < (l1.length : Int)
      ·rw [if_pos c6] at H
       have c6b0 : decide (x5_1 < (l1.length : Int)) = true := decide_eq_true c6
       clear c6
       obtain ⟨t956, A70, H⟩ := ob H
       have A7 := Aside0.mk A70
       clear A70
       by_cases c8 : t956 = true
       ·subst c8
        rw [if_pos rfl] at H
        have H' := Aside0.mk H
        clear H
        try go_wp2
        replace HB := Aside0.mk (below_drew1 HB.out)
        have p954 : 0 ≤ (x5_1 : Int) := of_decide_eq_true y19
        have q954 : x5_1 < (l0.length : Int) := of_decide_eq_true y19
        obtain ⟨ad954, A954_1, c954_1, e954, hx954_0, hx954_1, hl954_1, hi954_1⟩ := at_T55 HR0.out x5_1 p954 q954
        have hw954_1 := hx954_1
        have hw954_0 := hx954_0
        cases e954
        replace hx954_0 := (HB.out.cell (World.block_lt_of_cell? w _ hx954_0)).trans hx954_0
        replace hx954_1 := (HB.out.cell (World.block_lt_of_cell? w _ hx954_1)).trans hx954_1
        have HR954_1 := Aside0.mk hi954_1
        have HC954_1 := Aside0.mk hl954_1
        clear hi954_1 hl954_1
        replace p954 := eq_true p954
        replace q954 := eq_true q954
        have p955 : 0 ≤ (x5_1 : Int) := of_decide_eq_true y19
        have q955 : x5_1 < (l1.length : Int) := of_decide_eq_true y19
        obtain ⟨ad955, A955_1, c955_1, e955, hx955_0, hx955_1, hl955_1, hi955_1⟩ := at_T55 HR1.out x5_1 p955 q955
        have hw955_1 := hx955_1
        have hw955_0 := hx955_0
        cases e955
        replace hx955_0 := (HB.out.cell (World.block_lt_of_cell? w _ hx955_0)).trans hx955_0
        replace hx955_1 := (HB.out.cell (World.block_lt_of_cell? w _ hx955_1)).trans hx955_1
        have HR955_1 := Aside0.mk hi955_1
        have HC955_1 := Aside0.mk hl955_1
        clear hi955_1 hl955_1
        replace p955 := eq_true p955
        replace q955 := eq_true q955
        refine start_ (n := 10) (S := fun w' => w'.cell? (ad954.add ((x5_1).toNat * 2)) = some (.int .i64 ((rd_T55 l0 x5_1).f0)) ∧ w'.cell? ⟨(ad954.add ((x5_1).toNat * 2)).block, (ad954.add ((x5_1).toNat * 2)).off + 1, none⟩ = some (.slice A954_1 ((rd_T55 l0 x5_1).f1).length c954_1) ∧ w'.cell? (ad955.add ((x5_1).toNat * 2)) = some (.int .i64 ((rd_T55 l1 x5_1).f0)) ∧ w'.cell? ⟨(ad955.add ((x5_1).toNat * 2)).block, (ad955.add ((x5_1).toNat * 2)).off + 1, none⟩ = some (.slice A955_1 ((rd_T55 l1 x5_1).f1).length c955_1)) (ds := []) #[false, false, false, false, false, false, false, false, false, false] (by kernel_rfl) rfl rfl ⟨((HB.out.cell (World.block_lt_of_cell? w _ hw954_0)).trans hw954_0), ((HB.out.cell (World.block_lt_of_cell? w _ hw954_1)).trans hw954_1), ((HB.out.cell (World.block_lt_of_cell? w _ hw955_0)).trans hw955_0), ((HB.out.cell (World.block_lt_of_cell? w _ hw955_1)).trans hw955_1)⟩ (fun hHeld => ?_); refine with_tabW laws_eqValS.tab6 laws_eqValS.bits6 (fun HT_ HW_ => ?_)
        generalize wr.drew = w9 at HB HR954_1 HR955_1 hx954_0 hx954_1 hx955_0 hx955_1 hHeld ⊢
        refine zp 0 (some 17) HT_ ?_
        refine zp 1 (some 18) HT_ ?_
        refine zp 2 (some 19) HT_ ?_
        refine zp 4 (some 21) HT_ ?_
        refine zp 5 (some 22) HT_ ?_
        refine zp 6 (some 23) HT_ ?_
        refine zt4 3 (some 20) HT_ HW_ hHeld ?_
        refine zt4 7 (some 24) HT_ HW_ hHeld ?_
        refine one_ (i := 8) (N := some 25) #[true, true, true, true, true, true, true, true, true, false] rfl rfl (one_of HT_.out (by kernel_rfl)) (by decide) (fun K hK => ?_)
        refine goes_ Try.func45 (by kernel_rfl) rfl #[.agg #[.int .i64 ((rd_T55 l0 x5_1).f0), .slice A954_1 ((rd_T55 l0 x5_1).f1).length c954_1], .agg #[.int .i64 ((rd_T55 l1 x5_1).f0), .slice A955_1 ((rd_T55 l1 x5_1).f1).length c955_1]] (by rfl) rfl rfl y4 ?_
        with_reducible refine (laws_eqVal.Fcalls (laws_eqValS.f k1) (ih k1 (y46 HK1.out)) k1 ((rd_T55 l0 x5_1).f0) _ _ ((rd_T55 l0 x5_1).f1) ((rd_T55 l1 x5_1).f0) _ _ ((rd_T55 l1 x5_1).f1) true _ ?side1 ?side2 ?side3 ?side4 A7.out).mono ?_
        (case side1 => exact y8 HR954_1.out HB.out)
        (case side2 => exact HC954_1.out)
        (case side3 => exact y8 HR955_1.out HB.out)
        (case side4 => exact HC955_1.out)
        rintro e w10 ⟨rfl, hb⟩
        refine ⟨_, rfl, ?_⟩
        replace HB := Aside0.mk (below_step (y2 HB.out) hb)
        (try clear hb)
        (try clear hb2)
        (try clear hk)
        (try clear hi)
        refine hK.out _ _ ⟨((HB.out.cell (World.block_lt_of_cell? w _ hw954_0)).trans hw954_0), ((HB.out.cell (World.block_lt_of_cell? w _ hw954_1)).trans hw954_1), ((HB.out.cell (World.block_lt_of_cell? w _ hw955_0)).trans hw955_0), ((HB.out.cell (World.block_lt_of_cell? w _ hw955_1)).trans hw955_1)⟩ (fun hHeld => ?_)
        clear hK K
        refine norm_ (a' := ?_) ?_ ?_
        rotate_left
        ·show Act.put _ (some 25) _ = _
         simp only [Act.put, List.setIfInBounds_toArray, List.set_cons_zero, List.set_cons_succ, i64_w, i32_w]
         rfl
        refine zp 9 (some 26) HT_ ?_
        refine done_ (done_of HT_.out (by kernel_rfl)) ?_
        try go_wp2
        go_roundg k1
        case measure => have := HK1.out; omega
        case rel => exact ⟨(wrap64 (x5_1 + 1)), y26, H', ⟨(y46 HK1.out)⟩, ⟨(y2 HB.out)⟩⟩
       ·replace c8 := Bool.eq_false_iff.mpr c8
        subst c8
        rw [if_neg (show ¬ (false = true) by decide)] at H
        obtain rfl := Option.some.inj H
        try go_wp2
        replace HB := Aside0.mk (below_drew1 HB.out)
        have p954 : 0 ≤ (x5_1 : Int) := of_decide_eq_true y19
        have q954 : x5_1 < (l0.length : Int) := of_decide_eq_true y19
        obtain ⟨ad954, A954_1, c954_1, e954, hx954_0, hx954_1, hl954_1, hi954_1⟩ := at_T55 HR0.out x5_1 p954 q954
        have hw954_1 := hx954_1
        have hw954_0 := hx954_0
        cases e954
        replace hx954_0 := (HB.out.cell (World.block_lt_of_cell? w _ hx954_0)).trans hx954_0
        replace hx954_1 := (HB.out.cell (World.block_lt_of_cell? w _ hx954_1)).trans hx954_1
        have HR954_1 := Aside0.mk hi954_1
        have HC954_1 := Aside0.mk hl954_1
        clear hi954_1 hl954_1
        replace p954 := eq_true p954
        replace q954 := eq_true q954
        have p955 : 0 ≤ (x5_1 : Int) := of_decide_eq_true y19
        have q955 : x5_1 < (l1.length : Int) := of_decide_eq_true y19
        obtain ⟨ad955, A955_1, c955_1, e955, hx955_0, hx955_1, hl955_1, hi955_1⟩ := at_T55 HR1.out x5_1 p955 q955
        have hw955_1 := hx955_1
        have hw955_0 := hx955_0
        cases e955
        replace hx955_0 := (HB.out.cell (World.block_lt_of_cell? w _ hx955_0)).trans hx955_0
        replace hx955_1 := (HB.out.cell (World.block_lt_of_cell? w _ hx955_1)).trans hx955_1
        have HR955_1 := Aside0.mk hi955_1
        have HC955_1 := Aside0.mk hl955_1
        clear hi955_1 hl955_1
        replace p955 := eq_true p955
        replace q955 := eq_true q955
        refine start_ (n := 10) (S := fun w' => w'.cell? (ad954.add ((x5_1).toNat * 2)) = some (.int .i64 ((rd_T55 l0 x5_1).f0)) ∧ w'.cell? ⟨(ad954.add ((x5_1).toNat * 2)).block, (ad954.add ((x5_1).toNat * 2)).off + 1, none⟩ = some (.slice A954_1 ((rd_T55 l0 x5_1).f1).length c954_1) ∧ w'.cell? (ad955.add ((x5_1).toNat * 2)) = some (.int .i64 ((rd_T55 l1 x5_1).f0)) ∧ w'.cell? ⟨(ad955.add ((x5_1).toNat * 2)).block, (ad955.add ((x5_1).toNat * 2)).off + 1, none⟩ = some (.slice A955_1 ((rd_T55 l1 x5_1).f1).length c955_1)) (ds := []) #[false, false, false, false, false, false, false, false, false, false] (by kernel_rfl) rfl rfl ⟨((HB.out.cell (World.block_lt_of_cell? w _ hw954_0)).trans hw954_0), ((HB.out.cell (World.block_lt_of_cell? w _ hw954_1)).trans hw954_1), ((HB.out.cell (World.block_lt_of_cell? w _ hw955_0)).trans hw955_0), ((HB.out.cell (World.block_lt_of_cell? w _ hw955_1)).trans hw955_1)⟩ (fun hHeld => ?_); refine with_tabW laws_eqValS.tab6 laws_eqValS.bits6 (fun HT_ HW_ => ?_)
        generalize wr.drew = w11 at HB HR954_1 HR955_1 hx954_0 hx954_1 hx955_0 hx955_1 hHeld ⊢
        refine zp 0 (some 17) HT_ ?_
        refine zp 1 (some 18) HT_ ?_
        refine zp 2 (some 19) HT_ ?_
        refine zp 4 (some 21) HT_ ?_
        refine zp 5 (some 22) HT_ ?_
        refine zp 6 (some 23) HT_ ?_
        refine zt4 3 (some 20) HT_ HW_ hHeld ?_
        refine zt4 7 (some 24) HT_ HW_ hHeld ?_
        refine one_ (i := 8) (N := some 25) #[true, true, true, true, true, true, true, true, true, false] rfl rfl (one_of HT_.out (by kernel_rfl)) (by decide) (fun K hK => ?_)
        refine goes_ Try.func45 (by kernel_rfl) rfl #[.agg #[.int .i64 ((rd_T55 l0 x5_1).f0), .slice A954_1 ((rd_T55 l0 x5_1).f1).length c954_1], .agg #[.int .i64 ((rd_T55 l1 x5_1).f0), .slice A955_1 ((rd_T55 l1 x5_1).f1).length c955_1]] (by rfl) rfl rfl y4 ?_
        with_reducible refine (laws_eqVal.Fcalls (laws_eqValS.f k1) (ih k1 (y46 HK1.out)) k1 ((rd_T55 l0 x5_1).f0) _ _ ((rd_T55 l0 x5_1).f1) ((rd_T55 l1 x5_1).f0) _ _ ((rd_T55 l1 x5_1).f1) false _ ?side1 ?side2 ?side3 ?side4 A7.out).mono ?_
        (case side1 => exact y8 HR954_1.out HB.out)
        (case side2 => exact HC954_1.out)
        (case side3 => exact y8 HR955_1.out HB.out)
        (case side4 => exact HC955_1.out)
        rintro e w12 ⟨rfl, hb⟩
        refine ⟨_, rfl, ?_⟩
        replace HB := Aside0.mk (below_step (y2 HB.out) hb)
        (try clear hb)
        (try clear hb2)
        (try clear hk)
        (try clear hi)
        refine hK.out _ _ ⟨((HB.out.cell (World.block_lt_of_cell? w _ hw954_0)).trans hw954_0), ((HB.out.cell (World.block_lt_of_cell? w _ hw954_1)).trans hw954_1), ((HB.out.cell (World.block_lt_of_cell? w _ hw955_0)).trans hw955_0), ((HB.out.cell (World.block_lt_of_cell? w _ hw955_1)).trans hw955_1)⟩ (fun hHeld => ?_)
        clear hK K
        refine norm_ (a' := ?_) ?_ ?_
        rotate_left
        ·show Act.put _ (some 25) _ = _
         simp only [Act.put, List.setIfInBounds_toArray, List.set_cons_zero, List.set_cons_succ, i64_w, i32_w]
         rfl
        refine zp 9 (some 26) HT_ ?_
        refine done_ (done_of HT_.out (by kernel_rfl)) ?_
        try go_wp2
        go_ret
        exact ⟨y14, (y2 HB.out)⟩
      ·rw [if_neg c6] at H
       exact absurd H (by simp)
     ·rw [if_neg c5] at H
      exact absurd H (by simp)
    ·rw [if_neg c4] at H
     have c4b0 : decide (x5_1 < (l0.length : Int)) = false := decide_eq_false c4
     clear c4
     obtain rfl := Option.some.inj H
     go_wp2
     go_ret
     exact ⟨y14, (y2 HB.out)⟩
 ·rw [if_neg c3] at H
  have c3b0 : ((l0.length : Int) == (l1.length : Int)) = false := beq_eq_false_iff_ne.mpr c3
  have c3b1 : ((l0.length : Int) != (l1.length : Int)) = true := bne_iff_ne.mpr c3
  have c3b2 : (l0.length == l1.length) = false := by first | simpa using c3 | (simp at c3 ⊢; omega)
  obtain rfl := Option.some.inj H
  go_enter Try.func78, Try.ntmps78
  go_wp2
  go_ret
  exact ⟨y14, (y2 HB.out)⟩
def laws_eqVal.f (k : Nat) (a0_0 : Int) (l0_1 : List (S55)) (a1_0 : Int) (l1_1 : List (S55)) : Option (Bool) := laws_eqVal.F (laws_eqValS.f k) k a0_0 l0_1 a1_0 l1_1
theorem laws_eqVal.mono : ∀ a0 a1 a2 a3 k, LeO (laws_eqVal.f k a0 a1 a2 a3) (laws_eqVal.f (k + 1) a0 a1 a2 a3) := fun a0 a1 a2 a3 k => laws_eqVal.Fmono (fun y0 y1 => laws_eqValS.mono y0 y1 k) a0 a1 a2 a3 k
theorem laws_eqVal.calls (k : Nat) (a0_0 : Int) (A0_1 : Option Addr) (c0_1 : Nat) (l0_1 : List (S55)) (a1_0 : Int) (A1_1 : Option Addr) (c1_1 : Nat) (l1_1 : List (S55)) (r : Bool) (w : World) (hr0_1 : Kd.C k55 w A0_1 l0_1.length l0_1) (hc0_1 : l0_1.length ≤ c0_1) (hr1_1 : Kd.C k55 w A1_1 l1_1.length l1_1) (hc1_1 : l1_1.length ≤ c1_1) (h : laws_eqVal.f k a0_0 l0_1 a1_0 l1_1 = some r) :
  Calls Try.prog 45 #[.agg #[.int .i64 a0_0, .slice A0_1 l0_1.length c0_1], .agg #[.int .i64 a1_0, .slice A1_1 l1_1.length c1_1]] w fun e w' => e = .returned (.bool r) ∧ Below w.heap.size w w' := laws_eqVal.Fcalls (laws_eqValS.f k) (laws_eqValS.calls k) k a0_0 A0_1 c0_1 l0_1 a1_0 A1_1 c1_1 l1_1 r w hr0_1 hc0_1 hr1_1 hc1_1 h
end Go.Proofs.Ytjhbhihfifhljaa.PA
end
