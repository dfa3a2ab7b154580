-- Ytjhbhihfifhljaa's texts for the statement FnExactTypeAt, one behind the other (merge.py).
import Derived.Test.YtjhbhihfifhljaaQFnExactTypeAt0
section
namespace Go.Proofs.Ytjhbhihfifhljaa.PA
open Go.RowKit Go.Proofs.YtjhbhihfifhljaaW.PrintWords Go.Proofs.YtjhbhihfifhljaaW.PrintLast Go.Proofs.YtjhbhihfifhljaaW.PrintMore
attribute [local go_sem] max2_int min2_int max_two min_two max_three min_three max_four min_four
set_option linter.unusedVariables false
set_option linter.unusedSimpArgs false
def laws_eqType.F (rec_ : List (S30) → List (S30) → Option (Bool)) (k : Nat) (l0_0 : List (S30)) (l1_0 : List (S30)) : Option (Bool) := (rec_ l0_0 l1_0).bind fun t159 => (if t159 = true then (some true) else (some false))
mutual
def laws_eqTypeS.l0 : Nat → List (S30) → List (S30) → Int → Option (Bool)
 | 0, _, _, _ => none
 | k + 1, x0, x1, x5 => if x5 < (x0.length : Int) then (if 0 ≤ x5 then (if x5 < (x1.length : Int) then ((laws_eqType.F (laws_eqTypeS.f k) k ((rd_T30 x0 x5).f0) ((rd_T30 x1 x5).f0)).bind fun t162 => (if t162 = true then (laws_eqTypeS.l0 k x0 x1 (wrap64 (x5 + 1))) else (some false))) else (none)) else (none)) else (some true)
def laws_eqTypeS.f : Nat → List (S30) → List (S30) → Option (Bool)
 | 0, _, _ => none
 | k + 1, l0, l1 => if (l0.length : Int) = (l1.length : Int) then (laws_eqTypeS.l0 k l0 l1 0) else (some false)
end
theorem laws_eqType.Fmono {rec_ rec2_ : List (S30) → List (S30) → Option (Bool)} (hrec : (∀ y0 y1, LeO (rec_ y0 y1) (rec2_ y0 y1))) : ∀ a0 a1 k, LeO (laws_eqType.F rec_ k a0 a1) (laws_eqType.F rec2_ (k + 1) a0 a1) := by
 intro a0 a1 k
 unfold laws_eqType.F
 repeat' first
   | (with_reducible exact hrec _ _)
   | (with_reducible exact LeO.refl _)
   | (with_reducible exact LeO.none _)
   | (with_reducible refine LeO.ite ?_ ?_)
   | (with_reducible refine LeO.bind ?_ (fun _ => ?_))
   | exact hrec _ _
   | exact LeO.none _
   | refine LeO.ite ?_ ?_
   | refine LeO.bind ?_ (fun _ => ?_)
theorem laws_eqTypeS.mono_l : ∀ k, (∀ y0 y1, LeO (laws_eqTypeS.f k y0 y1) (laws_eqTypeS.f (k + 1) y0 y1)) ∧ (∀ y0 y1 y2, LeO (laws_eqTypeS.l0 k y0 y1 y2) (laws_eqTypeS.l0 (k + 1) y0 y1 y2))
 | 0 => ⟨fun _ _ r h => by simp [laws_eqTypeS.f] at h, fun _ _ _ r h => by simp [laws_eqTypeS.l0] at h⟩
 | k + 1 => by
  obtain ⟨ih0, ih1⟩ := laws_eqTypeS.mono_l k
  refine ⟨?_, ?_⟩
  ·intro y0 y1
   unfold laws_eqTypeS.f
   repeat' first
   | (with_reducible exact ih0 _ _)
   | (with_reducible exact ih1 _ _ _)
   | (with_reducible exact laws_eqType.Fmono ih0 _ _ _)
   | (with_reducible exact LeO.refl _)
   | (with_reducible exact LeO.none _)
   | (with_reducible refine LeO.ite ?_ ?_)
   | (with_reducible refine LeO.bind ?_ (fun _ => ?_))
   | exact ih0 _ _
   | exact ih1 _ _ _
   | exact laws_eqType.Fmono ih0 _ _ _
   | exact LeO.none _
   | refine LeO.ite ?_ ?_
   | refine LeO.bind ?_ (fun _ => ?_)
  ·intro y0 y1 y2
   unfold laws_eqTypeS.l0
   repeat' first
   | (with_reducible exact ih0 _ _)
   | (with_reducible exact ih1 _ _ _)
   | (with_reducible exact laws_eqType.Fmono ih0 _ _ _)
   | (with_reducible exact LeO.refl _)
   | (with_reducible exact LeO.none _)
   | (with_reducible refine LeO.ite ?_ ?_)
   | (with_reducible refine LeO.bind ?_ (fun _ => ?_))
   | exact ih0 _ _
   | exact ih1 _ _ _
   | exact laws_eqType.Fmono ih0 _ _ _
   | exact LeO.none _
   | refine LeO.ite ?_ ?_
   | refine LeO.bind ?_ (fun _ => ?_)
theorem laws_eqTypeS.mono : ∀ a0 a1 k, LeO (laws_eqTypeS.f k a0 a1) (laws_eqTypeS.f (k + 1) a0 a1) := by
 intro a0 a1 k
 obtain ⟨ih0, ih1⟩ := laws_eqTypeS.mono_l k
 exact ih0 a0 a1
set_option maxHeartbeats 8000000 in
set_option maxRecDepth 100000 in
theorem laws_eqType.Fcalls (rec_ : List (S30) → List (S30) → Option (Bool)) (IH : ∀ (A0 : Option Addr) (c0 : Nat) (l0 : List (S30)) (A1 : Option Addr) (c1 : Nat) (l1 : List (S30)) (r : Bool) (w : World) (hr0 : Kd.C k30 w A0 l0.length l0) (hc0 : l0.length ≤ c0) (hr1 : Kd.C k30 w A1 l1.length l1) (hc1 : l1.length ≤ c1) (h : rec_ l0 l1 = some r),
  Calls Try.prog 50 #[.slice A0 l0.length c0, .slice A1 l1.length c1] w fun e w' => e = .returned (.bool r) ∧ Below w.heap.size w w') (k : Nat) (A0_0 : Option Addr) (c0_0 : Nat) (l0_0 : List (S30)) (A1_0 : Option Addr) (c1_0 : Nat) (l1_0 : List (S30)) (r : Bool) (w : World) (hr0_0 : Kd.C k30 w A0_0 l0_0.length l0_0) (hc0_0 : l0_0.length ≤ c0_0) (hr1_0 : Kd.C k30 w A1_0 l1_0.length l1_0) (hc1_0 : l1_0.length ≤ c1_0) (h : laws_eqType.F rec_ k l0_0 l1_0 = some r) :
  Calls Try.prog 19 #[.agg #[.slice A0_0 l0_0.length c0_0], .agg #[.slice A1_0 l1_0.length c1_0]] w fun e w' => e = .returned (.bool r) ∧ Below w.heap.size w w' := by
 have hu30 := Try.underlying30
 have HR0_0 := Aside0.mk hr0_0
 have HC0_0 := Aside0.mk hc0_0
 clear hr0_0 hc0_0
 have HR1_0 := Aside0.mk hr1_0
 have HC1_0 := Aside0.mk hc1_0
 clear hr1_0 hc1_0
 have HB := Aside0.mk (Below.refl w.heap.size w)
 have H : ((rec_ l0_0 l1_0).bind fun t159 => (if t159 = true then (some true) else (some false))) = some r := h
 clear h
 obtain ⟨t159, A30, H⟩ := ob H
 have A3 := Aside0.mk A30
 clear A30
 by_cases c4 : t159 = true
 ·subst c4
  rw [if_pos rfl] at H
  obtain rfl := Option.some.inj H
  go_enter Try.func19, Try.ntmps19
  go_wp2_with (first | ((with_reducible refine gate_dst (N := 2) rfl ?_); refine zbx 2 #[.slice A0_0 l0_0.length c0_0] 30 ?_; intro gb157 hg w5 hbox hb; have BK157 := Aside0.mk hbox; have GW157 := Aside0.mk ((y5 hg HB.out : w.heap.size ≤ gb157)); have GE157 := Aside0.mk ((y5 hg HB.out : w.heap.size ≤ gb157)); replace HB := Aside0.mk (below_step (y2 HB.out) hb); clear hb hbox hg) | ((with_reducible refine gate_dst (N := 3) rfl ?_); refine zbx 3 #[.slice A1_0 l1_0.length c1_0] 30 ?_; intro gb158 hg w6 hbox hb; have BK158 := Aside0.mk hbox; have GW158 := Aside0.mk ((y6 hg HB.out GE157.out : w.heap.size ≤ gb158)); have GE158 := Aside0.mk ((y6 hg HB.out GE157.out : w.heap.size ≤ gb158)); replace HB := Aside0.mk (below_step (y3 HB.out GE157.out) hb); have NB157_158 := zltn hg BK157; have NB158_157 := zgtn hg BK157; replace BK157 := zbb BK157 hb; clear hb hbox hg; have hnb7 := NB157_158.out; have hnc7 := NB158_157.out; have hcz8_0 := zh BK157; have hfz8_0 := zfr BK157 0; have hcz9_0 := zh BK158; have hfz9_0 := zfr BK158 0) | ((with_reducible refine gate_callee (f := 50) rfl ?_); refine goesL_ (some 9) rfl rfl Try.func50 (by kernel_rfl) rfl #[.slice A0_0 l0_0.length c0_0, .slice A1_0 l1_0.length c1_0] rfl y4 ?_; (with_reducible refine (IH  _ _ l0_0 _ _ l1_0 true _ ?side1 ?side2 ?side3 ?side4 A3.out).mono ?_); (case side1 => exact y8 HR0_0.out HB.out); (case side2 => exact HC0_0.out); (case side3 => exact y8 HR1_0.out HB.out); (case side4 => exact HC1_0.out); rintro e w10 ⟨rfl, hb⟩; refine ⟨_, rfl, ?_⟩; replace BK157 := zbb BK157 hb; replace BK158 := zbb BK158 hb; replace HB := Aside0.mk (below_step (y1 HB.out GE157.out GE158.out) hb); (try clear hb); (try clear hb2); (try clear hk); (try clear hi)))
  go_ret
  exact ⟨y14, (y1 HB.out GE157.out GE158.out)⟩
 ·replace c4 := Bool.eq_false_iff.mpr c4
  subst c4
  rw [if_neg (show ¬ (false = true) by decide)] at H
  obtain rfl := Option.some.inj H
  go_enter Try.func19, Try.ntmps19
  go_wp2_with (first | ((with_reducible refine gate_dst (N := 2) rfl ?_); refine zbx 2 #[.slice A0_0 l0_0.length c0_0] 30 ?_; intro gb157 hg w11 hbox hb; have BK157 := Aside0.mk hbox; have GW157 := Aside0.mk ((y5 hg HB.out : w.heap.size ≤ gb157)); have GE157 := Aside0.mk ((y5 hg HB.out : w.heap.size ≤ gb157)); replace HB := Aside0.mk (below_step (y2 HB.out) hb); clear hb hbox hg) | ((with_reducible refine gate_dst (N := 3) rfl ?_); refine zbx 3 #[.slice A1_0 l1_0.length c1_0] 30 ?_; intro gb158 hg w12 hbox hb; have BK158 := Aside0.mk hbox; have GW158 := Aside0.mk ((y6 hg HB.out GE157.out : w.heap.size ≤ gb158)); have GE158 := Aside0.mk ((y6 hg HB.out GE157.out : w.heap.size ≤ gb158)); replace HB := Aside0.mk (below_step (y3 HB.out GE157.out) hb); have NB157_158 := zltn hg BK157; have NB158_157 := zgtn hg BK157; replace BK157 := zbb BK157 hb; clear hb hbox hg; have hnb13 := NB157_158.out; have hnc13 := NB158_157.out; have hcz14_0 := zh BK157; have hfz14_0 := zfr BK157 0; have hcz15_0 := zh BK158; have hfz15_0 := zfr BK158 0) | ((with_reducible refine gate_callee (f := 50) rfl ?_); refine goesL_ (some 9) rfl rfl Try.func50 (by kernel_rfl) rfl #[.slice A0_0 l0_0.length c0_0, .slice A1_0 l1_0.length c1_0] rfl y4 ?_; (with_reducible refine (IH  _ _ l0_0 _ _ l1_0 false _ ?side1 ?side2 ?side3 ?side4 A3.out).mono ?_); (case side1 => exact y8 HR0_0.out HB.out); (case side2 => exact HC0_0.out); (case side3 => exact y8 HR1_0.out HB.out); (case side4 => exact HC1_0.out); rintro e w16 ⟨rfl, hb⟩; refine ⟨_, rfl, ?_⟩; replace BK157 := zbb BK157 hb; replace BK158 := zbb BK158 hb; replace HB := Aside0.mk (below_step (y1 HB.out GE157.out GE158.out) hb); (try clear hb); (try clear hb2); (try clear hk); (try clear hi)))
  go_ret
  exact ⟨y14, (y1 HB.out GE157.out GE158.out)⟩
def laws_eqTypeS.T6 : Bool × List (List Nat × List Nat) := (true, [([], []), ([], []), ([0, 1], [0, 1]), ([2], [2]), ([], []), ([], []), ([4, 5], [4, 5]), ([6], [6]), ([3, 7], [3, 7]), ([8], [8])])
def laws_eqTypeS.B6 : List Nat := [0, 0, 3, 7, 0, 0, 48, 112, 255, 511]
theorem laws_eqTypeS.tab6 : rtab .any (opsOf Try.f50 6) = laws_eqTypeS.T6 := by kernel_rfl
theorem laws_eqTypeS.bits6 : waitsOk laws_eqTypeS.T6.2 laws_eqTypeS.B6 = true := by kernel_rfl
set_option maxHeartbeats 8000000 in
set_option maxRecDepth 100000 in
theorem laws_eqTypeS.calls (k : Nat) : ∀ (A0 : Option Addr) (c0 : Nat) (l0 : List (S30)) (A1 : Option Addr) (c1 : Nat) (l1 : List (S30)) (r : Bool) (w : World) (hr0 : Kd.C k30 w A0 l0.length l0) (hc0 : l0.length ≤ c0) (hr1 : Kd.C k30 w A1 l1.length l1) (hc1 : l1.length ≤ c1) (h : laws_eqTypeS.f k l0 l1 = some r),
  Calls Try.prog 50 #[.slice A0 l0.length c0, .slice A1 l1.length c1] w fun e w' => e = .returned (.bool r) ∧ Below w.heap.size w w' := by
 induction k using Nat.strongRecOn with
 | _ k ih =>
 intro A0 c0 l0 A1 c1 l1 r w hr0 hc0 hr1 hc1 h
 cases k with
 | zero => exact absurd h (by simp [laws_eqTypeS.f])
 | succ k =>
 simp only [laws_eqTypeS.f] at h
 have hu30 := Try.underlying30
 have HR0 := Aside0.mk hr0
 have HC0 := Aside0.mk hc0
 clear hr0 hc0
 have HR1 := Aside0.mk hr1
 have HC1 := Aside0.mk hc1
 clear hr1 hc1
 have HB := Aside0.mk (Below.refl w.heap.size w)
 have H : (if (l0.length : Int) = (l1.length : Int) then (laws_eqTypeS.l0 k l0 l1 0) else (some false)) = some r := h
 clear h
 by_cases c3 : (l0.length : Int) = (l1.length : Int)
 ·rw [if_pos c3] at H
  have c3b0 : ((l0.length : Int) == (l1.length : Int)) = true := beq_iff_eq.mpr c3
  have c3b1 : ((l0.length : Int) != (l1.length : Int)) = false := bne_eq_false_iff_eq.mpr c3
  have c3b2 : (l0.length == l1.length) = true := by first | simpa using c3 | (simp at c3 ⊢; omega)
  clear c3
  have H' := Aside0.mk H
  clear H
  go_enter Try.func50, Try.ntmps50
  go_wp2
  go_loopg [5] k (fun kq v5 w' => ∃ (x5_1 : Int), v5 = .int .i64 x5_1 ∧ Aside0 (laws_eqTypeS.l0 kq l0 l1 x5_1 = some r) ∧ Aside0 (kq ≤ k) ∧ Aside0 (Below w.heap.size w w'))
  case atStart => exact ⟨(0), y26, H', ⟨Nat.le_refl _⟩, ⟨(y2 HB.out)⟩⟩
  case round =>
   clear H'
   try clear c1
   try clear p2
   try clear c3
   try clear c3b0
   try clear c3b1
   try clear c3b2
   obtain ⟨x5_1, rfl, HA, HK1, HB⟩ := hrel
   cases gk with
   | zero => exact absurd HA.out (by simp [laws_eqTypeS.l0])
   | succ k1 =>
    have H := HA.out
    clear HA
    simp only [laws_eqTypeS.l0] at H
    by_cases c4 : x5_1 < (l0.length : Int)
    ·rw [if_pos c4] at H
     have c4b0 : decide (x5_1 < (l0.length : Int)) = true := decide_eq_true c4
     clear c4
     by_cases c5 : 0 ≤ x5_1
     ·rw [if_pos c5] at H
      have c5b0 : decide (0 ≤ x5_1) = true := decide_eq_true c5
      clear c5
      by_cases c6 : x5_1 < (l1.length : Int)
      ·rw [if_pos c6] at H
       have c6b0 : decide (x5_1 < (l1.length : Int)) = true := decide_eq_true c6
       clear c6
       obtain ⟨t162, A70, H⟩ := ob H
       have A7 := Aside0.mk A70
       clear A70
       by_cases c8 : t162 = true
       ·subst c8
        rw [if_pos rfl] at H
        have H' := Aside0.mk H
        clear H
        try go_wp2
        replace HB := Aside0.mk (below_drew1 HB.out)
        have p160 : 0 ≤ (x5_1 : Int) := of_decide_eq_true y19
        have q160 : x5_1 < (l0.length : Int) := of_decide_eq_true y19
        obtain ⟨ad160, A160_0, c160_0, e160, hx160_0, hl160_0, hi160_0⟩ := at_T30 HR0.out x5_1 p160 q160
        have hw160_0 := hx160_0
        cases e160
        replace hx160_0 := (HB.out.cell (World.block_lt_of_cell? w _ hx160_0)).trans hx160_0
        have HR160_0 := Aside0.mk hi160_0
        have HC160_0 := Aside0.mk hl160_0
        clear hi160_0 hl160_0
        replace p160 := eq_true p160
        replace q160 := eq_true q160
        have p161 : 0 ≤ (x5_1 : Int) := of_decide_eq_true y19
        have q161 : x5_1 < (l1.length : Int) := of_decide_eq_true y19
        obtain ⟨ad161, A161_0, c161_0, e161, hx161_0, hl161_0, hi161_0⟩ := at_T30 HR1.out x5_1 p161 q161
        have hw161_0 := hx161_0
        cases e161
        replace hx161_0 := (HB.out.cell (World.block_lt_of_cell? w _ hx161_0)).trans hx161_0
        have HR161_0 := Aside0.mk hi161_0
        have HC161_0 := Aside0.mk hl161_0
        clear hi161_0 hl161_0
        replace p161 := eq_true p161
        replace q161 := eq_true q161
        refine start_ (n := 10) (S := fun w' => w'.cell? (ad160.add (x5_1).toNat) = some (.slice A160_0 ((rd_T30 l0 x5_1).f0).length c160_0) ∧ w'.cell? (ad161.add (x5_1).toNat) = some (.slice A161_0 ((rd_T30 l1 x5_1).f0).length c161_0)) (ds := []) #[false, false, false, false, false, false, false, false, false, false] (by kernel_rfl) rfl rfl ⟨((HB.out.cell (World.block_lt_of_cell? w _ hw160_0)).trans hw160_0), ((HB.out.cell (World.block_lt_of_cell? w _ hw161_0)).trans hw161_0)⟩ (fun hHeld => ?_); refine with_tabW laws_eqTypeS.tab6 laws_eqTypeS.bits6 (fun HT_ HW_ => ?_)
        generalize wr.drew = w9 at HB HR160_0 HR161_0 hx160_0 hx161_0 hHeld ⊢
        refine zp 0 (some 17) HT_ ?_
        refine zp 1 (some 18) HT_ ?_
        refine zp 2 (some 19) HT_ ?_
        refine zp 4 (some 21) HT_ ?_
        refine zp 5 (some 22) HT_ ?_
        refine zp 6 (some 23) HT_ ?_
        refine zt2 3 (some 20) HT_ HW_ hHeld ?_
        refine zt2 7 (some 24) HT_ HW_ hHeld ?_
        refine one_ (i := 8) (N := some 25) #[true, true, true, true, true, true, true, true, true, false] rfl rfl (one_of HT_.out (by kernel_rfl)) (by decide) (fun K hK => ?_)
        refine goes_ Try.func19 (by kernel_rfl) rfl #[.agg #[.slice A160_0 ((rd_T30 l0 x5_1).f0).length c160_0], .agg #[.slice A161_0 ((rd_T30 l1 x5_1).f0).length c161_0]] (by rfl) rfl rfl y4 ?_
        with_reducible refine (laws_eqType.Fcalls (laws_eqTypeS.f k1) (ih k1 (y46 HK1.out)) k1 _ _ ((rd_T30 l0 x5_1).f0) _ _ ((rd_T30 l1 x5_1).f0) true _ ?side1 ?side2 ?side3 ?side4 A7.out).mono ?_
        (case side1 => exact y8 HR160_0.out HB.out)
        (case side2 => exact HC160_0.out)
        (case side3 => exact y8 HR161_0.out HB.out)
        (case side4 => exact HC161_0.out)
        rintro e w10 ⟨rfl, hb⟩
        refine ⟨_, rfl, ?_⟩
        replace HB := Aside0.mk (below_step (y2 HB.out) hb)
        (try clear hb)
        (try clear hb2)
        (try clear hk)
        (try clear hi)
        refine hK.out _ _ ⟨((HB.out.cell (World.block_lt_of_cell? w _ hw160_0)).trans hw160_0), ((HB.out.cell (World.block_lt_of_cell? w _ hw161_0)).trans hw161_0)⟩ (fun hHeld => ?_)
        clear hK K
        refine norm_ (a' := ?_) ?_ ?_
        rotate_left
        ·show Act.put _ (some 25) _ = _
         simp only [Act.put, List.setIfInBounds_toArray, List.set_cons_zero, List.set_cons_succ, i64_w, i32_w]
         rfl
        refine zp 9 (some 26) HT_ ?_
        refine done_ (done_of HT_.out (by kernel_rfl)) ?_
        try go_wp2
        go_roundg k1
        case measure => have := HK1.out; omega
        case rel => exact ⟨(wrap64 (x5_1 + 1)), y26, H', ⟨(y46 HK1.out)⟩, ⟨(y2 HB.out)⟩⟩
       ·replace c8 := Bool.eq_false_iff.mpr c8
        subst c8
        rw [if_neg (show ¬ (false = true) by decide)] at H
        obtain rfl := Option.some.inj H
        try go_wp2
        replace HB := Aside0.mk (below_drew1 HB.out)
        have p160 : 0 ≤ (x5_1 : Int) := of_decide_eq_true y19
        have q160 : x5_1 < (l0.length : Int) := of_decide_eq_true y19
        obtain ⟨ad160, A160_0, c160_0, e160, hx160_0, hl160_0, hi160_0⟩ := at_T30 HR0.out x5_1 p160 q160
        have hw160_0 := hx160_0
        cases e160
        replace hx160_0 := (HB.out.cell (World.block_lt_of_cell? w _ hx160_0)).trans hx160_0
        have HR160_0 := Aside0.mk hi160_0
        have HC160_0 := Aside0.mk hl160_0
        clear hi160_0 hl160_0
        replace p160 := eq_true p160
        replace q160 := eq_true q160
        have p161 : 0 ≤ (x5_1 : Int) := of_decide_eq_true y19
        have q161 : x5_1 < (l1.length : Int) := of_decide_eq_true y19
        obtain ⟨ad161, A161_0, c161_0, e161, hx161_0, hl161_0, hi161_0⟩ := at_T30 HR1.out x5_1 p161 q161
        have hw161_0 := hx161_0
        cases e161
        replace hx161_0 := (HB.out.cell (World.block_lt_of_cell? w _ hx161_0)).trans hx161_0
        have HR161_0 := Aside0.mk hi161_0
        have HC161_0 := Aside0.mk hl161_0
        clear hi161_0 hl161_0
        replace p161 := eq_true p161
        replace q161 := eq_true q161
        refine start_ (n := 10) (S := fun w' => w'.cell? (ad160.add (x5_1).toNat) = some (.slice A160_0 ((rd_T30 l0 x5_1).f0).length c160_0) ∧ w'.cell? (ad161.add (x5_1).toNat) = some (.slice A161_0 ((rd_T30 l1 x5_1).f0).length c161_0)) (ds := []) #[false, false, false, false, false, false, false, false, false, false] (by kernel_rfl) rfl rfl ⟨((HB.out.cell (World.block_lt_of_cell? w _ hw160_0)).trans hw160_0), ((HB.out.cell (World.block_lt_of_cell? w _ hw161_0)).trans hw161_0)⟩ (fun hHeld => ?_); refine with_tabW laws_eqTypeS.tab6 laws_eqTypeS.bits6 (fun HT_ HW_ => ?_)
        generalize wr.drew = w11 at HB HR160_0 HR161_0 hx160_0 hx161_0 hHeld ⊢
        refine zp 0 (some 17) HT_ ?_
        refine zp 1 (some 18) HT_ ?_
        refine zp 2 (some 19) HT_ ?_
        refine zp 4 (some 21) HT_ ?_
        refine zp 5 (some 22) HT_ ?_
        refine zp 6 (some 23) HT_ ?_
        refine zt2 3 (some 20) HT_ HW_ hHeld ?_
        refine zt2 7 (some 24) HT_ HW_ hHeld ?_
        refine one_ (i := 8) (N := some 25) #[true, true, true, true, true, true, true, true, true, false] rfl rfl (one_of HT_.out (by kernel_rfl)) (by decide) (fun K hK => ?_)
        refine goes_ Try.func19 (by kernel_rfl) rfl #[.agg #[.slice A160_0 ((rd_T30 l0 x5_1).f0).length c160_0], .agg #[.slice A161_0 ((rd_T30 l1 x5_1).f0).length c161_0]] (by rfl) rfl rfl y4 ?_
        with_reducible refine (laws_eqType.Fcalls (laws_eqTypeS.f k1) (ih k1 (y46 HK1.out)) k1 _ _ ((rd_T30 l0 x5_1).f0) _ _ ((rd_T30 l1 x5_1).f0) false _ ?side1 ?side2 ?side3 ?side4 A7.out).mono ?_
        (case side1 => exact y8 HR160_0.out HB.out)
        (case side2 => exact HC160_0.out)
        (case side3 => exact y8 HR161_0.out HB.out)
        (case side4 => exact HC161_0.out)
        rintro e w12 ⟨rfl, hb⟩
        refine ⟨_, rfl, ?_⟩
        replace HB := Aside0.mk (below_step (y2 HB.out) hb)
        (try clear hb)
        (try clear hb2)
        (try clear hk)
        (try clear hi)
        refine hK.out _ _ ⟨((HB.out.cell (World.block_lt_of_cell? w _ hw160_0)).trans hw160_0), ((HB.out.cell (World.block_lt_of_cell? w _ hw161_0)).trans hw161_0)⟩ (fun hHeld => ?_)
        clear hK K
        refine norm_ (a' := ?_) ?_ ?_
        rotate_left
        ·show Act.put _ (some 25) _ = _
         simp only [Act.put, List.setIfInBounds_toArray, List.set_cons_zero, List.set_cons_succ, i64_w, i32_w]
         rfl
        refine zp 9 (some 26) HT_ ?_
        refine done_ (done_of HT_.out (by kernel_rfl)) ?_
        try go_wp2
        go_ret
        exact ⟨y14, (y2 HB.out)⟩
      ·rw [if_neg c6] at H
       exact absurd H (by simp)
     ·rw [if_neg c5] at H
      exact absurd H (by simp)
    ·rw [if_neg c4] at H
     have c4b0 : decide (x5_1 < (l0.length : Int)) = false := decide_eq_false c4
     clear c4
     obtain rfl := Option.some.inj H
     go_wp2
     go_ret
     exact ⟨y14, (y2 HB.out)⟩
 ·rw [if_neg c3] at H
  have c3b0 : ((l0.length : Int) == (l1.length : Int)) = false := beq_eq_false_iff_ne.mpr c3
  have c3b1 : ((l0.length : Int) != (l1.length : Int)) = true := bne_iff_ne.mpr c3
  have c3b2 : (l0.length == l1.length) = false := by first | simpa using c3 | (simp at c3 ⊢; omega)
  obtain rfl := Option.some.inj H
  go_enter Try.func50, Try.ntmps50
  go_wp2
  go_ret
  exact ⟨y14, (y2 HB.out)⟩
def laws_eqType.f (k : Nat) (l0_0 : List (S30)) (l1_0 : List (S30)) : Option (Bool) := laws_eqType.F (laws_eqTypeS.f k) k l0_0 l1_0
theorem laws_eqType.mono : ∀ a0 a1 k, LeO (laws_eqType.f k a0 a1) (laws_eqType.f (k + 1) a0 a1) := fun a0 a1 k => laws_eqType.Fmono (fun y0 y1 => laws_eqTypeS.mono y0 y1 k) a0 a1 k
theorem laws_eqType.calls (k : Nat) (A0_0 : Option Addr) (c0_0 : Nat) (l0_0 : List (S30)) (A1_0 : Option Addr) (c1_0 : Nat) (l1_0 : List (S30)) (r : Bool) (w : World) (hr0_0 : Kd.C k30 w A0_0 l0_0.length l0_0) (hc0_0 : l0_0.length ≤ c0_0) (hr1_0 : Kd.C k30 w A1_0 l1_0.length l1_0) (hc1_0 : l1_0.length ≤ c1_0) (h : laws_eqType.f k l0_0 l1_0 = some r) :
  Calls Try.prog 19 #[.agg #[.slice A0_0 l0_0.length c0_0], .agg #[.slice A1_0 l1_0.length c1_0]] w fun e w' => e = .returned (.bool r) ∧ Below w.heap.size w w' := laws_eqType.Fcalls (laws_eqTypeS.f k) (laws_eqTypeS.calls k) k A0_0 c0_0 l0_0 A1_0 c1_0 l1_0 r w hr0_0 hc0_0 hr1_0 hc1_0 h
end Go.Proofs.Ytjhbhihfifhljaa.PA
end
section
namespace Go.Proofs.Ytjhbhihfifhljaa.PA
open Go.RowKit Go.Proofs.YtjhbhihfifhljaaW.PrintWords Go.Proofs.YtjhbhihfifhljaaW.PrintLast Go.Proofs.YtjhbhihfifhljaaW.PrintMore
attribute [local go_sem] max2_int min2_int max_two min_two max_three min_three max_four min_four
set_option linter.unusedVariables false
set_option linter.unusedSimpArgs false
def impl_typeFits.f : Nat → List (S30) → Int → Option (Bool)
 | 0, _, _ => none
 | k + 1, l0_0, a1 => if a1 < 1 then (some false) else (if (l0_0.length : Int) = 0 then (some true) else (if (l0_0.length : Int) = 2 then (if 0 < (l0_0.length : Int) then ((impl_typeFits.f k ((rd_T30 l0_0 0).f0) (wrap64 (a1 - 1))).bind fun t146 => (if t146 = true then (if 1 < (l0_0.length : Int) then ((impl_typeFits.f k ((rd_T30 l0_0 1).f0) (wrap64 (a1 - 1))).bind fun t148 => (some t148)) else (none)) else (some false))) else (none)) else (some false)))
theorem impl_typeFits.mono_l : ∀ k, (∀ y0 y1, LeO (impl_typeFits.f k y0 y1) (impl_typeFits.f (k + 1) y0 y1))
 | 0 => fun _ _ r h => by simp [impl_typeFits.f] at h
 | k + 1 => by
  have ih0 := impl_typeFits.mono_l k
  ·intro y0 y1
   unfold impl_typeFits.f
   repeat' first
   | (with_reducible exact ih0 _ _)
   | (with_reducible exact LeO.refl _)
   | (with_reducible exact LeO.none _)
   | (with_reducible refine LeO.ite ?_ ?_)
   | (with_reducible refine LeO.bind ?_ (fun _ => ?_))
   | exact ih0 _ _
   | exact LeO.none _
   | refine LeO.ite ?_ ?_
   | refine LeO.bind ?_ (fun _ => ?_)
theorem impl_typeFits.mono : ∀ a0 a1 k, LeO (impl_typeFits.f k a0 a1) (impl_typeFits.f (k + 1) a0 a1) := by
 intro a0 a1 k
 have ih0 := impl_typeFits.mono_l k
 exact ih0 a0 a1
set_option maxHeartbeats 8000000 in
set_option maxRecDepth 100000 in
theorem impl_typeFits.calls (k : Nat) : ∀ (A0_0 : Option Addr) (c0_0 : Nat) (l0_0 : List (S30)) (a1 : Int) (r : Bool) (w : World) (hr0_0 : Kd.C k30 w A0_0 l0_0.length l0_0) (hc0_0 : l0_0.length ≤ c0_0) (h : impl_typeFits.f k l0_0 a1 = some r),
  Calls Try.prog 49 #[.agg #[.slice A0_0 l0_0.length c0_0], .int .i64 a1] w fun e w' => e = .returned (.bool r) ∧ Below w.heap.size w w' := by
 induction k using Nat.strongRecOn with
 | _ k ih =>
 intro A0_0 c0_0 l0_0 a1 r w hr0_0 hc0_0 h
 cases k with
 | zero => exact absurd h (by simp [impl_typeFits.f])
 | succ k =>
 simp only [impl_typeFits.f] at h
 have hu30 := Try.underlying30
 have HR0_0 := Aside0.mk hr0_0
 have HC0_0 := Aside0.mk hc0_0
 clear hr0_0 hc0_0
 have HB := Aside0.mk (Below.refl w.heap.size w)
 have H : (if a1 < 1 then (some false) else (if (l0_0.length : Int) = 0 then (some true) else (if (l0_0.length : Int) = 2 then (if 0 < (l0_0.length : Int) then ((impl_typeFits.f k ((rd_T30 l0_0 0).f0) (wrap64 (a1 - 1))).bind fun t146 => (if t146 = true then (if 1 < (l0_0.length : Int) then ((impl_typeFits.f k ((rd_T30 l0_0 1).f0) (wrap64 (a1 - 1))).bind fun t148 => (some t148)) else (none)) else (some false))) else (none)) else (some false)))) = some r := h
 clear h
 by_cases c3 : a1 < 1
 ·rw [if_pos c3] at H
  have c3b0 : decide (a1 < 1) = true := decide_eq_true c3
  clear c3
  obtain rfl := Option.some.inj H
  go_enter Try.func49, Try.ntmps49
  go_wp2_with (first | ((with_reducible refine gate_dst (N := 2) rfl ?_); refine zbx 2 #[.slice A0_0 l0_0.length c0_0] 30 ?_; intro gb144 hg w4 hbox hb; have BK144 := Aside0.mk hbox; have GW144 := Aside0.mk ((y5 hg HB.out : w.heap.size ≤ gb144)); have GE144 := Aside0.mk ((y5 hg HB.out : w.heap.size ≤ gb144)); replace HB := Aside0.mk (below_step (y2 HB.out) hb); clear hb hbox hg))
  go_ret
  exact ⟨y14, (y3 HB.out GE144.out)⟩
 ·rw [if_neg c3] at H
  have c3b0 : decide (a1 < 1) = false := decide_eq_false c3
  clear c3
  by_cases c5 : (l0_0.length : Int) = 0
  ·rw [if_pos c5] at H
   have c5b0 : ((l0_0.length : Int) == 0) = true := beq_iff_eq.mpr c5
   have c5b1 : ((l0_0.length : Int) != 0) = false := bne_eq_false_iff_eq.mpr c5
   clear c5
   obtain rfl := Option.some.inj H
   go_enter Try.func49, Try.ntmps49
   go_wp2_with (first | ((with_reducible refine gate_dst (N := 2) rfl ?_); refine zbx 2 #[.slice A0_0 l0_0.length c0_0] 30 ?_; intro gb144 hg w6 hbox hb; have BK144 := Aside0.mk hbox; have GW144 := Aside0.mk ((y5 hg HB.out : w.heap.size ≤ gb144)); have GE144 := Aside0.mk ((y5 hg HB.out : w.heap.size ≤ gb144)); replace HB := Aside0.mk (below_step (y2 HB.out) hb); clear hb hbox hg; have hcz7_0 := zh BK144; have hfz7_0 := zfr BK144 0))
   go_ret
   exact ⟨y14, (y3 HB.out GE144.out)⟩
  ·rw [if_neg c5] at H
   have c5b0 : ((l0_0.length : Int) == 0) = false := beq_eq_false_iff_ne.mpr c5
   have c5b1 : ((l0_0.length : Int) != 0) = true := bne_iff_ne.mpr c5
   have c5b2 : ¬ (l0_0 = []) := fun h_ => c5 (by rw [h_]; rfl)
   by_cases c8 : (l0_0.length : Int) = 2
   ·rw [if_pos c8] at H
    have c8b0 : ((l0_0.length : Int) == 2) = true := beq_iff_eq.mpr c8
    have c8b1 : ((l0_0.length : Int) != 2) = false := bne_eq_false_iff_eq.mpr c8
    clear c8
    by_cases c9 : 0 < (l0_0.length : Int)
    ·rw [if_pos c9] at H
     have c9b0 : decide (0 < (l0_0.length : Int)) = true := decide_eq_true c9
     have c9b1 : decide (0 < l0_0.length) = true := decide_eq_true (by omega)
     clear c9
     obtain ⟨t146, A100, H⟩ := ob H
     have A10 := Aside0.mk A100
     clear A100
     by_cases c11 : t146 = true
     ·subst c11
      rw [if_pos rfl] at H
      by_cases c12 : 1 < (l0_0.length : Int)
      ·rw [if_pos c12] at H
       have c12b0 : decide (1 < (l0_0.length : Int)) = true := decide_eq_true c12
       have c12b1 : decide (1 < l0_0.length) = true := decide_eq_true (by omega)
       clear c12
       obtain ⟨t148, A130, H⟩ := ob H
       have A13 := Aside0.mk A130
       clear A130
       obtain rfl := Option.some.inj H
       go_enter Try.func49, Try.ntmps49
       go_wp2_with (first | ((with_reducible refine gate_dst (N := 2) rfl ?_); refine zbx 2 #[.slice A0_0 l0_0.length c0_0] 30 ?_; intro gb144 hg w14 hbox hb; have BK144 := Aside0.mk hbox; have GW144 := Aside0.mk ((y5 hg HB.out : w.heap.size ≤ gb144)); have GE144 := Aside0.mk ((y5 hg HB.out : w.heap.size ≤ gb144)); replace HB := Aside0.mk (below_step (y2 HB.out) hb); clear hb hbox hg; have hcz15_0 := zh BK144; have hfz15_0 := zfr BK144 0; have p145 : 0 ≤ (0 : Int) := (by omega); have q145 : 0 < (l0_0.length : Int) := of_decide_eq_true y19; obtain ⟨ad145, A145_0, c145_0, e145, hx145_0, hl145_0, hi145_0⟩ := at_T30 HR0_0.out 0 p145 q145; cases e145; have qi145 : (0 < l0_0.length) = True := eq_true (by omega); (try rw [show ((0 : Int)).toNat = 0 from rfl] at hx145_0); (try rw [Addr.add_zero'] at hx145_0); replace hx145_0 := (HB.out.cell (World.block_lt_of_cell? w _ hx145_0)).trans hx145_0; have HR145_0 := Aside0.mk hi145_0; have HC145_0 := Aside0.mk hl145_0; clear hi145_0 hl145_0; replace p145 := eq_true p145; replace q145 := eq_true q145) | (go_at_call 49; (with_reducible refine (ih k (by omega) _ _ ((rd_T30 l0_0 0).f0) (wrap64 (a1 - 1)) true _ ?side1 ?side2 A10.out).mono ?_); (case side1 => exact y8 HR145_0.out HB.out); (case side2 => exact HC145_0.out); rintro e w16 ⟨rfl, hb⟩; replace BK144 := zbb BK144 hb; replace HB := Aside0.mk (below_step (y3 HB.out GE144.out) hb); (try clear hb); (try clear hb2); (try clear hk); (try clear hi); have hcz17_0 := zh BK144; have hfz17_0 := zfr BK144 0; have p147 : 0 ≤ (1 : Int) := (by omega); have q147 : 1 < (l0_0.length : Int) := of_decide_eq_true y19; obtain ⟨ad147, A147_0, c147_0, e147, hx147_0, hl147_0, hi147_0⟩ := at_T30 HR0_0.out 1 p147 q147; obtain rfl : ad145 = ad147 := (by injection e147); (try simp only [show (1 : Int).toNat = 1 from rfl, Nat.reduceMul, Nat.reduceEqDiff, Go.Addr.add, ↓reduceIte] at hx147_0); have qi147 : (1 < l0_0.length) = True := eq_true (by omega); (try rw [show ((1 : Int)).toNat = 1 from rfl] at hx147_0); replace hx147_0 := (HB.out.cell (World.block_lt_of_cell? w _ hx147_0)).trans hx147_0; have HR147_0 := Aside0.mk hi147_0; have HC147_0 := Aside0.mk hl147_0; clear hi147_0 hl147_0; replace p147 := eq_true p147; replace q147 := eq_true q147) | (go_at_call 49; (with_reducible refine (ih k (by omega) _ _ ((rd_T30 l0_0 1).f0) (wrap64 (a1 - 1)) t148 _ ?side1 ?side2 A13.out).mono ?_); (case side1 => exact y8 HR147_0.out HB.out); (case side2 => exact HC147_0.out); rintro e w18 ⟨rfl, hb⟩; replace BK144 := zbb BK144 hb; replace HB := Aside0.mk (below_step (y3 HB.out GE144.out) hb); (try clear hb); (try clear hb2); (try clear hk); (try clear hi)))
       go_ret
       exact ⟨y14, (y3 HB.out GE144.out)⟩
      ·rw [if_neg c12] at H
       exact absurd H (by simp)
     ·replace c11 := Bool.eq_false_iff.mpr c11
      subst c11
      rw [if_neg (show ¬ (false = true) by decide)] at H
      obtain rfl := Option.some.inj H
      go_enter Try.func49, Try.ntmps49
      go_wp2_with (first | ((with_reducible refine gate_dst (N := 2) rfl ?_); refine zbx 2 #[.slice A0_0 l0_0.length c0_0] 30 ?_; intro gb144 hg w19 hbox hb; have BK144 := Aside0.mk hbox; have GW144 := Aside0.mk ((y5 hg HB.out : w.heap.size ≤ gb144)); have GE144 := Aside0.mk ((y5 hg HB.out : w.heap.size ≤ gb144)); replace HB := Aside0.mk (below_step (y2 HB.out) hb); clear hb hbox hg; have hcz20_0 := zh BK144; have hfz20_0 := zfr BK144 0; have p145 : 0 ≤ (0 : Int) := (by omega); have q145 : 0 < (l0_0.length : Int) := of_decide_eq_true y19; obtain ⟨ad145, A145_0, c145_0, e145, hx145_0, hl145_0, hi145_0⟩ := at_T30 HR0_0.out 0 p145 q145; cases e145; have qi145 : (0 < l0_0.length) = True := eq_true (by omega); (try rw [show ((0 : Int)).toNat = 0 from rfl] at hx145_0); (try rw [Addr.add_zero'] at hx145_0); replace hx145_0 := (HB.out.cell (World.block_lt_of_cell? w _ hx145_0)).trans hx145_0; have HR145_0 := Aside0.mk hi145_0; have HC145_0 := Aside0.mk hl145_0; clear hi145_0 hl145_0; replace p145 := eq_true p145; replace q145 := eq_true q145) | (go_at_call 49; (with_reducible refine (ih k (by omega) _ _ ((rd_T30 l0_0 0).f0) (wrap64 (a1 - 1)) false _ ?side1 ?side2 A10.out).mono ?_); (case side1 => exact y8 HR145_0.out HB.out); (case side2 => exact HC145_0.out); rintro e w21 ⟨rfl, hb⟩; replace BK144 := zbb BK144 hb; replace HB := Aside0.mk (below_step (y3 HB.out GE144.out) hb); (try clear hb); (try clear hb2); (try clear hk); (try clear hi)))
      go_ret
      exact ⟨y14, (y3 HB.out GE144.out)⟩
    ·rw [if_neg c9] at H
     exact absurd H (by simp)
   ·rw [if_neg c8] at H
    have c8b0 : ((l0_0.length : Int) == 2) = false := beq_eq_false_iff_ne.mpr c8
    have c8b1 : ((l0_0.length : Int) != 2) = true := bne_iff_ne.mpr c8
    obtain rfl := Option.some.inj H
    go_enter Try.func49, Try.ntmps49
    go_wp2_with (first | ((with_reducible refine gate_dst (N := 2) rfl ?_); refine zbx 2 #[.slice A0_0 l0_0.length c0_0] 30 ?_; intro gb144 hg w22 hbox hb; have BK144 := Aside0.mk hbox; have GW144 := Aside0.mk ((y5 hg HB.out : w.heap.size ≤ gb144)); have GE144 := Aside0.mk ((y5 hg HB.out : w.heap.size ≤ gb144)); replace HB := Aside0.mk (below_step (y2 HB.out) hb); clear hb hbox hg; have hcz23_0 := zh BK144; have hfz23_0 := zfr BK144 0))
    go_ret
    exact ⟨y14, (y3 HB.out GE144.out)⟩
end Go.Proofs.Ytjhbhihfifhljaa.PA
end
section
namespace Go.Proofs.Ytjhbhihfifhljaa.PA
open Go.RowKit Go.Proofs.YtjhbhihfifhljaaW.PrintWords Go.Proofs.YtjhbhihfifhljaaW.PrintLast Go.Proofs.YtjhbhihfifhljaaW.PrintMore
attribute [local go_sem] max2_int min2_int max_two min_two max_three min_three max_four min_four
set_option linter.unusedVariables false
set_option linter.unusedSimpArgs false
def impl_TypeOk.f (k : Nat) (l0_0 : List (S30)) : Option (Bool) := (impl_typeFits.f k l0_0 4).bind fun t150 => (some t150)
theorem impl_TypeOk.mono : ∀ a0 k, LeO (impl_TypeOk.f k a0) (impl_TypeOk.f (k + 1) a0) := by
 intro a0 k
 unfold impl_TypeOk.f
 repeat' first
   | (with_reducible exact impl_typeFits.mono _ _ _)
   | (with_reducible exact LeO.refl _)
   | (with_reducible exact LeO.none _)
   | (with_reducible refine LeO.ite ?_ ?_)
   | (with_reducible refine LeO.bind ?_ (fun _ => ?_))
   | exact impl_typeFits.mono _ _ _
   | exact LeO.none _
   | refine LeO.ite ?_ ?_
   | refine LeO.bind ?_ (fun _ => ?_)
set_option maxHeartbeats 8000000 in
set_option maxRecDepth 100000 in
theorem impl_TypeOk.calls (k : Nat) (A0_0 : Option Addr) (c0_0 : Nat) (l0_0 : List (S30)) (r : Bool) (w : World) (hr0_0 : Kd.C k30 w A0_0 l0_0.length l0_0) (hc0_0 : l0_0.length ≤ c0_0) (h : impl_TypeOk.f k l0_0 = some r) :
  Calls Try.prog 18 #[.agg #[.slice A0_0 l0_0.length c0_0]] w fun e w' => e = .returned (.bool r) ∧ Below w.heap.size w w' := by
 have hu30 := Try.underlying30
 have HR0_0 := Aside0.mk hr0_0
 have HC0_0 := Aside0.mk hc0_0
 clear hr0_0 hc0_0
 have HB := Aside0.mk (Below.refl w.heap.size w)
 have H : ((impl_typeFits.f k l0_0 4).bind fun t150 => (some t150)) = some r := h
 clear h
 obtain ⟨t150, A20, H⟩ := ob H
 have A2 := Aside0.mk A20
 clear A20
 obtain rfl := Option.some.inj H
 go_enter Try.func18, Try.ntmps18
 go_wp2_with (first | ((with_reducible refine gate_dst (N := 1) rfl ?_); refine zbx 1 #[.slice A0_0 l0_0.length c0_0] 30 ?_; intro gb149 hg w3 hbox hb; have BK149 := Aside0.mk hbox; have GW149 := Aside0.mk ((y5 hg HB.out : w.heap.size ≤ gb149)); have GE149 := Aside0.mk ((y5 hg HB.out : w.heap.size ≤ gb149)); replace HB := Aside0.mk (below_step (y2 HB.out) hb); clear hb hbox hg; have hcz4_0 := zh BK149; have hfz4_0 := zfr BK149 0) | ((with_reducible refine gate_callee (f := 49) rfl ?_); refine goesL_ (some 4) rfl rfl Try.func49 (by kernel_rfl) rfl #[.agg #[.slice A0_0 l0_0.length c0_0], .int .i64 4] rfl y4 ?_; (with_reducible refine (impl_typeFits.calls k _ _ l0_0 4 t150 _ ?side1 ?side2 A2.out).mono ?_); (case side1 => exact y8 HR0_0.out HB.out); (case side2 => exact HC0_0.out); rintro e w5 ⟨rfl, hb⟩; refine ⟨_, rfl, ?_⟩; replace BK149 := zbb BK149 hb; replace HB := Aside0.mk (below_step (y3 HB.out GE149.out) hb); (try clear hb); (try clear hb2); (try clear hk); (try clear hi)))
 go_ret
 exact ⟨y14, (y3 HB.out GE149.out)⟩
end Go.Proofs.Ytjhbhihfifhljaa.PA
end
section
namespace Go.Proofs.Ytjhbhihfifhljaa.PA
open Go.RowKit Go.Proofs.YtjhbhihfifhljaaW.PrintWords Go.Proofs.YtjhbhihfifhljaaW.PrintLast Go.Proofs.YtjhbhihfifhljaaW.PrintMore
attribute [local go_sem] max2_int min2_int max_two min_two max_three min_three max_four min_four
set_option linter.unusedVariables false
set_option linter.unusedSimpArgs false
def impl_Type_parts.f (l0_0 : List (S30)) : Option ((List (S30))) := some l0_0
set_option maxHeartbeats 8000000 in
set_option maxRecDepth 100000 in
theorem impl_Type_parts.calls (P0_0_ : Nat → Prop) (A0_0 : Option Addr) (c0_0 : Nat) (l0_0 : List (S30)) (r : List (S30)) (w : World) (hs0_0 : Kd.V k30 30 w w.heap.size (fun k_ => P0_0_ k_) (.slice A0_0 l0_0.length c0_0) l0_0) (h : impl_Type_parts.f l0_0 = some r) :
  Calls Try.prog 104 #[.agg #[.slice A0_0 l0_0.length c0_0]] w fun e w' => ∃ v0_ : Value, e = .returned (v0_) ∧ Kd.V k30 30 w' w.heap.size (fun k_ => (P0_0_ k_ ∨ w.heap.size ≤ k_)) v0_ r ∧ Below w.heap.size w w' := by
 have hu30 := Try.underlying30
 have HO0_0 := Aside0.mk (show Kd.V k30 30 w w.heap.size (fun k_ => (P0_0_ k_ ∨ w.heap.size ≤ k_)) (.slice A0_0 l0_0.length c0_0) l0_0 from Kd.V_mono hs0_0 (fun k_ hk => .inl hk))
 have HB := Aside0.mk (Below.refl w.heap.size w)
 have H : (some l0_0) = some r := h
 clear h
 obtain rfl := Option.some.inj H
 go_enter Try.func104, Try.ntmps104
 go_wp2_with (first | ((with_reducible refine gate_dst (N := 1) rfl ?_); refine zbx 1 #[.slice A0_0 l0_0.length c0_0] 30 ?_; intro gb101 hg w2 hbox hb; replace HO0_0 := Aside0.mk (Kd.V_below (Kd.V_elderB (y13 HO0_0.out) gb101 (Nat.le_of_eq hg.symm)) hb); have BK101 := Aside0.mk hbox; have GW101 := Aside0.mk ((y5 hg HB.out : w.heap.size ≤ gb101)); have GE101 := Aside0.mk ((y5 hg HB.out : w.heap.size ≤ gb101)); replace HB := Aside0.mk (below_step (y2 HB.out) hb); clear hb hbox hg; have hcz3_0 := zh BK101; have hfz3_0 := zfr BK101 0))
 go_ret
 exact ⟨_, y14, (by (with_reducible repeat (first | apply Kd.V_alloc | apply Kd.V_drewN | apply Kd.V_drew)); exact Kd.V_mono HO0_0.out (fun _ hk => hk.1)), (y3 HB.out GE101.out)⟩
end Go.Proofs.Ytjhbhihfifhljaa.PA
end
section
namespace Go.Proofs.Ytjhbhihfifhljaa.PA
open Go.RowKit Go.Proofs.YtjhbhihfifhljaaW.PrintWords Go.Proofs.YtjhbhihfifhljaaW.PrintLast Go.Proofs.YtjhbhihfifhljaaW.PrintMore
attribute [local go_sem] max2_int min2_int max_two min_two max_three min_three max_four min_four
set_option linter.unusedVariables false
set_option linter.unusedSimpArgs false
def impl_Type.l0 : Nat → List Int → Int → Int → List (S30) → Option ((List (S30)) × Bool)
 | 0, _, _, _, _ => none
 | k + 1, x10, x11, x12, x223000 => if x12 < x11 then (if 0 ≤ x12 then (if x12 < (x10.length : Int) then ((impl_Type_parts.f x223000).bind fun t225 => (if (t225.length : Int) = 2 then (if (rd x10 x12) < 0 then (some (([] : List (S30)), false)) else (if (rd x10 x12) > 1 then (some (([] : List (S30)), false)) else (if 0 ≤ (rd x10 x12) then (if (rd x10 x12) < (t225.length : Int) then (impl_Type.l0 k x10 x11 (wrap64 (x12 + 1)) ((rd_T30 t225 (rd x10 x12)).f0)) else (none)) else (none)))) else (some (([] : List (S30)), false)))) else (none)) else (none)) else (some (x223000, true))
def impl_Type.f (k : Nat) (l0_0 : List (S30)) (l1 : List Int) : Option ((List (S30)) × Bool) := impl_Type.l0 k l1 (l1.length : Int) 0 l0_0
theorem impl_Type.mono_l : ∀ k, (∀ y0 y1 y2 y3, LeO (impl_Type.l0 k y0 y1 y2 y3) (impl_Type.l0 (k + 1) y0 y1 y2 y3))
 | 0 => fun _ _ _ _ r h => by simp [impl_Type.l0] at h
 | k + 1 => by
  have ih0 := impl_Type.mono_l k
  ·intro y0 y1 y2 y3
   unfold impl_Type.l0
   repeat' first
   | (with_reducible exact ih0 _ _ _ _)
   | (with_reducible exact LeO.refl _)
   | (with_reducible exact LeO.none _)
   | (with_reducible refine LeO.ite ?_ ?_)
   | (with_reducible refine LeO.bind ?_ (fun _ => ?_))
   | exact ih0 _ _ _ _
   | exact LeO.none _
   | refine LeO.ite ?_ ?_
   | refine LeO.bind ?_ (fun _ => ?_)
theorem impl_Type.mono : ∀ a0 a1 k, LeO (impl_Type.f k a0 a1) (impl_Type.f (k + 1) a0 a1) := by
 intro a0 a1 k
 have ih0 := impl_Type.mono_l k
 unfold impl_Type.f
 repeat' first
   | (with_reducible exact ih0 _ _ _ _)
   | (with_reducible exact LeO.refl _)
   | (with_reducible exact LeO.none _)
   | (with_reducible refine LeO.ite ?_ ?_)
   | (with_reducible refine LeO.bind ?_ (fun _ => ?_))
   | exact ih0 _ _ _ _
   | exact LeO.none _
   | refine LeO.ite ?_ ?_
   | refine LeO.bind ?_ (fun _ => ?_)
set_option maxHeartbeats 8000000 in
set_option maxRecDepth 100000 in
theorem impl_Type.calls (k : Nat) (P0_0_ : Nat → Prop) (A0_0 : Option Addr) (c0_0 : Nat) (l0_0 : List (S30)) (A1 : Option Addr) (c1 : Nat) (l1 : List Int) (r1 : List (S30)) (r2 : Bool) (w : World) (hs0_0 : Kd.V k30 30 w w.heap.size (fun k_ => P0_0_ k_) (.slice A0_0 l0_0.length c0_0) l0_0) (hr1 : Kd.C (Kd.int .i64) w A1 l1.length l1) (hc1 : l1.length ≤ c1) (h : impl_Type.f k l0_0 l1 = some (r1, r2)) :
  Calls Try.prog 53 #[.agg #[.slice A0_0 l0_0.length c0_0], .slice A1 l1.length c1] w fun e w' => ∃ v0_ : Value, e = .returned (.tuple #[.agg #[v0_], .bool r2]) ∧ Kd.V k30 30 w' w.heap.size (fun k_ => (P0_0_ k_ ∨ w.heap.size ≤ k_)) v0_ r1 ∧ Below w.heap.size w w' := by
 have hu30 := Try.underlying30
 have hna30 : ∀ (v : Value) (W : World), (nilAhead 223 30 v "loop.example/handfast/impl.parts").run Try.prog W = .ok (some false) W := fun _ _ => by kernel_rfl
 have hme30 : ∀ (v : Value) (W : World), (method 223 30 v "loop.example/handfast/impl.parts").run Try.prog W = .ok (104, v) W := fun _ _ => by kernel_rfl
 have HO0_0 := Aside0.mk (show Kd.V k30 30 w w.heap.size (fun k_ => (P0_0_ k_ ∨ w.heap.size ≤ k_)) (.slice A0_0 l0_0.length c0_0) l0_0 from Kd.V_mono hs0_0 (fun k_ hk => .inl hk))
 have HR1 := Aside0.mk hr1
 have HC1 := Aside0.mk hc1
 clear hr1 hc1
 have HB := Aside0.mk (Below.refl w.heap.size w)
 have H : (impl_Type.l0 k l1 (l1.length : Int) 0 l0_0) = some (r1, r2) := h
 clear h
 have H' := Aside0.mk H
 clear H
 go_enter Try.func53, Try.ntmps53
 go_wp2_with (first | ((with_reducible refine gate_dst (N := 2) rfl ?_); refine zbx 2 #[.slice A0_0 l0_0.length c0_0] 30 ?_; intro gb222 hg w3 hbox hb; replace HO0_0 := Aside0.mk (Kd.V_below (Kd.V_elderB (y13 HO0_0.out) gb222 (Nat.le_of_eq hg.symm)) hb); have BK222 := Aside0.mk hbox; have GW222 := Aside0.mk ((y5 hg HB.out : w.heap.size ≤ gb222)); have GE222 := Aside0.mk ((y5 hg HB.out : w.heap.size ≤ gb222)); replace HB := Aside0.mk (below_step (y2 HB.out) hb); clear hb hbox hg) | ((with_reducible refine gate_dst (N := 4) rfl ?_); refine zbx 4 #[.slice none 0 0] 30 ?_; intro gb223 hg w4 hbox hb; replace HO0_0 := Aside0.mk (Kd.V_below (Kd.V_elderB (y13 HO0_0.out) gb223 (Nat.le_of_eq hg.symm)) hb); have BK223 := Aside0.mk hbox; have GW223 := Aside0.mk ((y6 hg HB.out GE222.out : w.heap.size ≤ gb223)); have GE223 := Aside0.mk ((y6 hg HB.out GE222.out : w.heap.size ≤ gb223)); replace HB := Aside0.mk (below_step (y3 HB.out GE222.out) hb); have NB222_223 := zltn hg BK222; have NB223_222 := zgtn hg BK222; replace BK222 := zbb BK222 hb; clear hb hbox hg))
 go_loopg [12] k (fun kq v12 w' => ∃ (x12_1 : Int) (x223000_1 : List (S30)) (u223000 : Value), v12 = .int .i64 x12_1 ∧ Aside0 (impl_Type.l0 kq l1 (l1.length : Int) x12_1 x223000_1 = some (r1, r2)) ∧ Aside0 (kq ≤ k) ∧ Aside0 (Kd.V k30 30 w' w.heap.size (fun k_ => (P0_0_ k_ ∨ w.heap.size ≤ k_) ∧ k_ ≠ gb222 ∧ k_ ≠ gb223) u223000 x223000_1) ∧ Aside0 (w'.heap[gb222]? = some (.cells #[u223000] 30 (0, 0))) ∧ Aside0 (w'.heap[gb223]? = some (.cells #[(.slice none 0 0)] 30 (0, 0))) ∧ Aside0 (Below w.heap.size w w'))
 case atStart => exact ⟨(0), (l0_0), (.slice A0_0 l0_0.length c0_0), y26, H', ⟨Nat.le_refl _⟩, ⟨(y63 HO0_0.out)⟩, ⟨(y0 BK222.out)⟩, ⟨(y0 BK223.out)⟩, ⟨(y1 HB.out GE222.out GE223.out)⟩⟩
 case round =>
  clear H'
  try clear c1
  try clear p2
  obtain ⟨x12_1, x223000_1, u223000, rfl, HA, HK1, HO_223000, BK222, BK223, HB⟩ := hrel
  cases gk with
  | zero => exact absurd HA.out (by simp [impl_Type.l0])
  | succ k1 =>
   have H := HA.out
   clear HA
   simp only [impl_Type.l0] at H
   by_cases c5 : x12_1 < (l1.length : Int)
   ·rw [if_pos c5] at H
    have c5b0 : decide (x12_1 < (l1.length : Int)) = true := decide_eq_true c5
    clear c5
    by_cases c6 : 0 ≤ x12_1
    ·rw [if_pos c6] at H
     have c6b0 : decide (0 ≤ x12_1) = true := decide_eq_true c6
     clear c6
     by_cases c7 : x12_1 < (l1.length : Int)
     ·rw [if_pos c7] at H
      have c7b0 : decide (x12_1 < (l1.length : Int)) = true := decide_eq_true c7
      clear c7
      obtain ⟨t225, A80, H⟩ := ob H
      have A8 := Aside0.mk A80
      clear A80
      by_cases c9 : (t225.length : Int) = 2
      ·rw [if_pos c9] at H
       have c9b0 : ((t225.length : Int) == 2) = true := beq_iff_eq.mpr c9
       have c9b1 : ((t225.length : Int) != 2) = false := bne_eq_false_iff_eq.mpr c9
       clear c9
       by_cases c10 : (rd l1 x12_1) < 0
       ·rw [if_pos c10] at H
        have c10b0 : decide ((rd l1 x12_1) < 0) = true := decide_eq_true c10
        clear c10
        simp only [Option.some.injEq, Prod.mk.injEq] at H
        obtain ⟨rfl, rfl⟩ := H
        have p224 : 0 ≤ (x12_1 : Int) := of_decide_eq_true y19
        have q224 : x12_1 < (l1.length : Int) := of_decide_eq_true y19
        obtain ⟨ad224, e224, hx224_0⟩ := Kd.at_int HR1.out x12_1 p224 q224
        cases e224
        replace hx224_0 := (HB.out.cell (World.block_lt_of_cell? w _ hx224_0)).trans hx224_0
        replace p224 := eq_true p224
        replace q224 := eq_true q224
        have hnb11 := NB222_223.out
        have hnc11 := NB223_222.out
        have hcz12_0 := zh BK222
        have hfz12_0 := zfr BK222 0
        obtain ⟨Ao13, co13, eo13⟩ := Kd.V_slice HO_223000.out
        subst eo13
        go_wp2_with (first | (go_at_call 104; (with_reducible refine (impl_Type_parts.calls (fun k_ => ((P0_0_ k_ ∨ w.heap.size ≤ k_) ∧ (k_ ≠ gb222 ∧ k_ ≠ gb223))) _ _ x223000_1 t225 _ ?side1 A8.out).mono ?_); (case side1 => exact HO_223000.out); rintro e w14 ⟨v226, rfl, ho0, hb⟩; replace HO_223000 := Aside0.mk (Kd.V_below (y13 HO_223000.out) hb); have HO227 := Aside0.mk (Kd.V_lower (Kd.V_mono (ok' := fun k_ => (P0_0_ k_ ∨ w.heap.size ≤ k_) ∧ k_ ≠ gb222 ∧ k_ ≠ gb223) ho0 (fun k_ hk_ => ⟨Or.elim hk_ (fun hs_ => hs_.1) (fun hn_ => (.inr (Nat.le_trans (below_size (y1 HB.out GE222.out GE223.out)) hn_))), Or.elim hk_ (fun hs_ => hs_.2.1) (fun hn_ => (Kd.freshB (g := gb222) (o := .cells #[.slice Ao13 x223000_1.length co13] 30 (0, 0)) (y0 BK222.out) k_ hn_)), Or.elim hk_ (fun hs_ => hs_.2.2) (fun hn_ => (Kd.freshB (g := gb223) (o := .cells #[.slice none 0 0] 30 (0, 0)) (y0 BK223.out) k_ hn_))⟩)) (below_size (y1 HB.out GE222.out GE223.out))); replace BK222 := zbb BK222 hb; replace BK223 := zbb BK223 hb; replace HB := Aside0.mk (below_step (y1 HB.out GE222.out GE223.out) hb); (try clear hb); (try clear hb2); (try clear hk); (try clear hi); (try clear ho0); obtain ⟨Ao15, co15, eo15⟩ := Kd.V_slice HO227.out; subst eo15) | ((with_reducible refine gate_dst (N := 9) rfl ?_); refine zbx 9 #[.slice none 0 0] 30 ?_; intro gb228 hg w16 hbox hb; replace HO_223000 := Aside0.mk (Kd.V_below (Kd.V_elderB (y13 HO_223000.out) gb228 (Nat.le_of_eq hg.symm)) hb); replace HO227 := Aside0.mk (Kd.V_below (Kd.V_elderB (y13 HO227.out) gb228 (Nat.le_of_eq hg.symm)) hb); have BK228 := Aside0.mk hbox; have GW228 := Aside0.mk ((y20 hg HB.out GE222.out GE223.out : w.heap.size ≤ gb228)); have GE228 := Aside0.mk ((y20 hg HB.out GE222.out GE223.out : w.heap.size ≤ gb228)); replace HB := Aside0.mk (below_step (y1 HB.out GE222.out GE223.out) hb); have NB222_228 := zltn hg BK222; have NB228_222 := zgtn hg BK222; replace BK222 := zbb BK222 hb; have NB223_228 := zltn hg BK223; have NB228_223 := zgtn hg BK223; replace BK223 := zbb BK223 hb; clear hb hbox hg; have hnb17 := NB228_222.out; have hnc17 := NB222_228.out; have hnb18 := NB228_223.out; have hnc18 := NB223_228.out; have hcz19_0 := zh BK228; have hfz19_0 := zfr BK228 0; have hcz20_0 := zh BK223; have hfz20_0 := zfr BK223 0))
        refine bodyPost_ret (results_ct rfl _ _ gb223 30 #[.slice none 0 0] (0, 0) _ rfl (by (with_reducible repeat (first | refine blk_drewN ?_ _ | refine blk_drew ?_ | refine blk_alloc ?_ _)); apply blk_put (i := 0); (case h => exact y0 BK223.out); (case e => rfl)) Try.underlying30 rfl (by kernel_rfl)) rfl ?_
        exact ⟨_, y14, Kd.V_nil _ _ _ _ _, (y7 HB.out GE222.out GE223.out GE228.out)⟩
       ·rw [if_neg c10] at H
        have c10b0 : decide ((rd l1 x12_1) < 0) = false := decide_eq_false c10
        clear c10
        by_cases c21 : (rd l1 x12_1) > 1
        ·rw [if_pos c21] at H
         have c21b0 : decide (1 < (rd l1 x12_1)) = true := decide_eq_true c21
         clear c21
         simp only [Option.some.injEq, Prod.mk.injEq] at H
         obtain ⟨rfl, rfl⟩ := H
         have p224 : 0 ≤ (x12_1 : Int) := of_decide_eq_true y19
         have q224 : x12_1 < (l1.length : Int) := of_decide_eq_true y19
         obtain ⟨ad224, e224, hx224_0⟩ := Kd.at_int HR1.out x12_1 p224 q224
         cases e224
         replace hx224_0 := (HB.out.cell (World.block_lt_of_cell? w _ hx224_0)).trans hx224_0
         replace p224 := eq_true p224
         replace q224 := eq_true q224
         have hnb22 := NB222_223.out
         have hnc22 := NB223_222.out
         have hcz23_0 := zh BK222
         have hfz23_0 := zfr BK222 0
         obtain ⟨Ao24, co24, eo24⟩ := Kd.V_slice HO_223000.out
         subst eo24
         go_wp2_with (first | (go_at_call 104; (with_reducible refine (impl_Type_parts.calls (fun k_ => ((P0_0_ k_ ∨ w.heap.size ≤ k_) ∧ (k_ ≠ gb222 ∧ k_ ≠ gb223))) _ _ x223000_1 t225 _ ?side1 A8.out).mono ?_); (case side1 => exact HO_223000.out); rintro e w25 ⟨v226, rfl, ho0, hb⟩; replace HO_223000 := Aside0.mk (Kd.V_below (y13 HO_223000.out) hb); have HO227 := Aside0.mk (Kd.V_lower (Kd.V_mono (ok' := fun k_ => (P0_0_ k_ ∨ w.heap.size ≤ k_) ∧ k_ ≠ gb222 ∧ k_ ≠ gb223) ho0 (fun k_ hk_ => ⟨Or.elim hk_ (fun hs_ => hs_.1) (fun hn_ => (.inr (Nat.le_trans (below_size (y1 HB.out GE222.out GE223.out)) hn_))), Or.elim hk_ (fun hs_ => hs_.2.1) (fun hn_ => (Kd.freshB (g := gb222) (o := .cells #[.slice Ao24 x223000_1.length co24] 30 (0, 0)) (y0 BK222.out) k_ hn_)), Or.elim hk_ (fun hs_ => hs_.2.2) (fun hn_ => (Kd.freshB (g := gb223) (o := .cells #[.slice none 0 0] 30 (0, 0)) (y0 BK223.out) k_ hn_))⟩)) (below_size (y1 HB.out GE222.out GE223.out))); replace BK222 := zbb BK222 hb; replace BK223 := zbb BK223 hb; replace HB := Aside0.mk (below_step (y1 HB.out GE222.out GE223.out) hb); (try clear hb); (try clear hb2); (try clear hk); (try clear hi); (try clear ho0); obtain ⟨Ao26, co26, eo26⟩ := Kd.V_slice HO227.out; subst eo26) | ((with_reducible refine gate_dst (N := 9) rfl ?_); refine zbx 9 #[.slice none 0 0] 30 ?_; intro gb229 hg w27 hbox hb; replace HO_223000 := Aside0.mk (Kd.V_below (Kd.V_elderB (y13 HO_223000.out) gb229 (Nat.le_of_eq hg.symm)) hb); replace HO227 := Aside0.mk (Kd.V_below (Kd.V_elderB (y13 HO227.out) gb229 (Nat.le_of_eq hg.symm)) hb); have BK229 := Aside0.mk hbox; have GW229 := Aside0.mk ((y20 hg HB.out GE222.out GE223.out : w.heap.size ≤ gb229)); have GE229 := Aside0.mk ((y20 hg HB.out GE222.out GE223.out : w.heap.size ≤ gb229)); replace HB := Aside0.mk (below_step (y1 HB.out GE222.out GE223.out) hb); have NB222_229 := zltn hg BK222; have NB229_222 := zgtn hg BK222; replace BK222 := zbb BK222 hb; have NB223_229 := zltn hg BK223; have NB229_223 := zgtn hg BK223; replace BK223 := zbb BK223 hb; clear hb hbox hg; have hnb28 := NB229_222.out; have hnc28 := NB222_229.out; have hnb29 := NB229_223.out; have hnc29 := NB223_229.out; have hcz30_0 := zh BK229; have hfz30_0 := zfr BK229 0; have hcz31_0 := zh BK223; have hfz31_0 := zfr BK223 0))
         refine bodyPost_ret (results_ct rfl _ _ gb223 30 #[.slice none 0 0] (0, 0) _ rfl (by (with_reducible repeat (first | refine blk_drewN ?_ _ | refine blk_drew ?_ | refine blk_alloc ?_ _)); apply blk_put (i := 0); (case h => exact y0 BK223.out); (case e => rfl)) Try.underlying30 rfl (by kernel_rfl)) rfl ?_
         exact ⟨_, y14, Kd.V_nil _ _ _ _ _, (y7 HB.out GE222.out GE223.out GE229.out)⟩
        ·rw [if_neg c21] at H
         have c21b0 : decide (1 < (rd l1 x12_1)) = false := decide_eq_false c21
         clear c21
         by_cases c32 : 0 ≤ (rd l1 x12_1)
         ·rw [if_pos c32] at H
          have c32b0 : decide (0 ≤ (rd l1 x12_1)) = true := decide_eq_true c32
          clear c32
          by_cases c33 : (rd l1 x12_1) < (t225.length : Int)
          ·rw [if_pos c33] at H
           have c33b0 : decide ((rd l1 x12_1) < (t225.length : Int)) = true := decide_eq_true c33
           clear c33
           have H' := Aside0.mk H
           clear H
           have p224 : 0 ≤ (x12_1 : Int) := of_decide_eq_true y19
           have q224 : x12_1 < (l1.length : Int) := of_decide_eq_true y19
           obtain ⟨ad224, e224, hx224_0⟩ := Kd.at_int HR1.out x12_1 p224 q224
           cases e224
           replace hx224_0 := (HB.out.cell (World.block_lt_of_cell? w _ hx224_0)).trans hx224_0
           replace p224 := eq_true p224
           replace q224 := eq_true q224
           have hnb34 := NB222_223.out
           have hnc34 := NB223_222.out
           have hcz35_0 := zh BK222
           have hfz35_0 := zfr BK222 0
           obtain ⟨Ao36, co36, eo36⟩ := Kd.V_slice HO_223000.out
           subst eo36
           go_wp2_with (first | (go_at_call 104; (with_reducible refine (impl_Type_parts.calls (fun k_ => ((P0_0_ k_ ∨ w.heap.size ≤ k_) ∧ (k_ ≠ gb222 ∧ k_ ≠ gb223))) _ _ x223000_1 t225 _ ?side1 A8.out).mono ?_); (case side1 => exact HO_223000.out); rintro e w37 ⟨v226, rfl, ho0, hb⟩; replace HO_223000 := Aside0.mk (Kd.V_below (y13 HO_223000.out) hb); have HO227 := Aside0.mk (Kd.V_lower (Kd.V_mono (ok' := fun k_ => (P0_0_ k_ ∨ w.heap.size ≤ k_) ∧ k_ ≠ gb222 ∧ k_ ≠ gb223) ho0 (fun k_ hk_ => ⟨Or.elim hk_ (fun hs_ => hs_.1) (fun hn_ => (.inr (Nat.le_trans (below_size (y1 HB.out GE222.out GE223.out)) hn_))), Or.elim hk_ (fun hs_ => hs_.2.1) (fun hn_ => (Kd.freshB (g := gb222) (o := .cells #[.slice Ao36 x223000_1.length co36] 30 (0, 0)) (y0 BK222.out) k_ hn_)), Or.elim hk_ (fun hs_ => hs_.2.2) (fun hn_ => (Kd.freshB (g := gb223) (o := .cells #[.slice none 0 0] 30 (0, 0)) (y0 BK223.out) k_ hn_))⟩)) (below_size (y1 HB.out GE222.out GE223.out))); replace BK222 := zbb BK222 hb; replace BK223 := zbb BK223 hb; replace HB := Aside0.mk (below_step (y1 HB.out GE222.out GE223.out) hb); (try clear hb); (try clear hb2); (try clear hk); (try clear hi); (try clear ho0); obtain ⟨Ao38, co38, eo38⟩ := Kd.V_slice HO227.out; subst eo38; have p230 : 0 ≤ ((rd l1 x12_1) : Int) := of_decide_eq_true y19; have q230 : (rd l1 x12_1) < (t225.length : Int) := of_decide_eq_true y19; obtain ⟨ad230, A230_0, c230_0, e230, hx230_0, hl230_0, hi230_0⟩ := at_T30 (Kd.V_reads' HO227.out).2.2 (rd l1 x12_1) p230 q230; cases e230; obtain ⟨ce230, hce230, hMe230, hcc230⟩ := Kd.V_get HO227.out z30 (rd l1 x12_1) p230 (by first | exact q230 | exact of_decide_eq_true y19 | (have e_ := (Kd.V_reads' HO227.out).1; omega)); obtain ⟨ua230_0, uc230_0, rfl, ul230_0, ge230_0⟩ := k30_openF hMe230; have hv230_0 := hcc230 0 _ rfl; rw [Nat.add_zero, show (k30).sz = 1 from rfl, Nat.mul_one] at hv230_0; replace hv230_0 := Option.some.inj (hv230_0.symm.trans hx230_0); injection hv230_0 with hva_ hvn_ hvc_; rw [hva_] at ge230_0; rw [hvc_] at ul230_0; have HL230_0 := Aside0.mk (show Kd.V k30 30 _ w.heap.size _ _ ((rd_T30 t225 (rd l1 x12_1)).f0) from Kd.V_mk ul230_0 ge230_0); clear hva_ hvn_ hvc_ ge230_0 ul230_0; clear hcc230 hce230; have HR230_0 := Aside0.mk hi230_0; have HC230_0 := Aside0.mk hl230_0; clear hi230_0 hl230_0; replace p230 := eq_true p230; replace q230 := eq_true q230; have hcz39_0 := zh BK222; have hfz39_0 := zfr BK222 0))
           go_roundg k1
           case measure => have := HK1.out; omega
           case rel => exact ⟨(wrap64 (x12_1 + 1)), ((rd_T30 t225 (rd l1 x12_1)).f0), (.slice A230_0 ((rd_T30 t225 (rd l1 x12_1)).f0).length c230_0), y26, H', ⟨(y46 HK1.out)⟩, ⟨(by (with_reducible repeat (first | apply Kd.V_alloc | apply Kd.V_drewN | apply Kd.V_drew)); exact Kd.V_mono (Kd.V_far (p := ⟨gb222, 0, none⟩) (Kd.V_mono HL230_0.out (fun k_ hk => (⟨hk, hk.2.1⟩ : _ ∧ k_ ≠ gb222))) (fun _ hk => hk.2) (.slice A230_0 ((rd_T30 t225 (rd l1 x12_1)).f0).length c230_0)) (fun _ hk => ⟨hk.1.1, ⟨hk.1.2.1, hk.1.2.2⟩⟩))⟩, ⟨(by (with_reducible repeat (first | refine blk_drewN ?_ _ | refine blk_drew ?_ | refine blk_alloc ?_ _)); refine blk_put (cs := #[.slice Ao36 x223000_1.length co36]) ?_ 0 _ rfl; (with_reducible repeat (first | refine blk_drewN ?_ _ | refine blk_drew ?_ | refine blk_alloc ?_ _)); exact BK222.out)⟩, ⟨(y21 NB223_222.out BK223.out)⟩, ⟨(y1 HB.out GE222.out GE223.out)⟩⟩
          ·rw [if_neg c33] at H
           exact absurd H (by simp)
         ·rw [if_neg c32] at H
          exact absurd H (by simp)
      ·rw [if_neg c9] at H
       have c9b0 : ((t225.length : Int) == 2) = false := beq_eq_false_iff_ne.mpr c9
       have c9b1 : ((t225.length : Int) != 2) = true := bne_iff_ne.mpr c9
       simp only [Option.some.injEq, Prod.mk.injEq] at H
       obtain ⟨rfl, rfl⟩ := H
       have p224 : 0 ≤ (x12_1 : Int) := of_decide_eq_true y19
       have q224 : x12_1 < (l1.length : Int) := of_decide_eq_true y19
       obtain ⟨ad224, e224, hx224_0⟩ := Kd.at_int HR1.out x12_1 p224 q224
       cases e224
       replace hx224_0 := (HB.out.cell (World.block_lt_of_cell? w _ hx224_0)).trans hx224_0
       replace p224 := eq_true p224
       replace q224 := eq_true q224
       have hnb40 := NB222_223.out
       have hnc40 := NB223_222.out
       have hcz41_0 := zh BK222
       have hfz41_0 := zfr BK222 0
       obtain ⟨Ao42, co42, eo42⟩ := Kd.V_slice HO_223000.out
       subst eo42
       go_wp2_with (first | (go_at_call 104; (with_reducible refine (impl_Type_parts.calls (fun k_ => ((P0_0_ k_ ∨ w.heap.size ≤ k_) ∧ (k_ ≠ gb222 ∧ k_ ≠ gb223))) _ _ x223000_1 t225 _ ?side1 A8.out).mono ?_); (case side1 => exact HO_223000.out); rintro e w43 ⟨v226, rfl, ho0, hb⟩; replace HO_223000 := Aside0.mk (Kd.V_below (y13 HO_223000.out) hb); have HO227 := Aside0.mk (Kd.V_lower (Kd.V_mono (ok' := fun k_ => (P0_0_ k_ ∨ w.heap.size ≤ k_) ∧ k_ ≠ gb222 ∧ k_ ≠ gb223) ho0 (fun k_ hk_ => ⟨Or.elim hk_ (fun hs_ => hs_.1) (fun hn_ => (.inr (Nat.le_trans (below_size (y1 HB.out GE222.out GE223.out)) hn_))), Or.elim hk_ (fun hs_ => hs_.2.1) (fun hn_ => (Kd.freshB (g := gb222) (o := .cells #[.slice Ao42 x223000_1.length co42] 30 (0, 0)) (y0 BK222.out) k_ hn_)), Or.elim hk_ (fun hs_ => hs_.2.2) (fun hn_ => (Kd.freshB (g := gb223) (o := .cells #[.slice none 0 0] 30 (0, 0)) (y0 BK223.out) k_ hn_))⟩)) (below_size (y1 HB.out GE222.out GE223.out))); replace BK222 := zbb BK222 hb; replace BK223 := zbb BK223 hb; replace HB := Aside0.mk (below_step (y1 HB.out GE222.out GE223.out) hb); (try clear hb); (try clear hb2); (try clear hk); (try clear hi); (try clear ho0); obtain ⟨Ao44, co44, eo44⟩ := Kd.V_slice HO227.out; subst eo44) | ((with_reducible refine gate_dst (N := 9) rfl ?_); refine zbx 9 #[.slice none 0 0] 30 ?_; intro gb231 hg w45 hbox hb; replace HO_223000 := Aside0.mk (Kd.V_below (Kd.V_elderB (y13 HO_223000.out) gb231 (Nat.le_of_eq hg.symm)) hb); replace HO227 := Aside0.mk (Kd.V_below (Kd.V_elderB (y13 HO227.out) gb231 (Nat.le_of_eq hg.symm)) hb); have BK231 := Aside0.mk hbox; have GW231 := Aside0.mk ((y20 hg HB.out GE222.out GE223.out : w.heap.size ≤ gb231)); have GE231 := Aside0.mk ((y20 hg HB.out GE222.out GE223.out : w.heap.size ≤ gb231)); replace HB := Aside0.mk (below_step (y1 HB.out GE222.out GE223.out) hb); have NB222_231 := zltn hg BK222; have NB231_222 := zgtn hg BK222; replace BK222 := zbb BK222 hb; have NB223_231 := zltn hg BK223; have NB231_223 := zgtn hg BK223; replace BK223 := zbb BK223 hb; clear hb hbox hg; have hnb46 := NB231_222.out; have hnc46 := NB222_231.out; have hnb47 := NB231_223.out; have hnc47 := NB223_231.out; have hcz48_0 := zh BK231; have hfz48_0 := zfr BK231 0; have hcz49_0 := zh BK223; have hfz49_0 := zfr BK223 0))
       refine bodyPost_ret (results_ct rfl _ _ gb223 30 #[.slice none 0 0] (0, 0) _ rfl (by (with_reducible repeat (first | refine blk_drewN ?_ _ | refine blk_drew ?_ | refine blk_alloc ?_ _)); apply blk_put (i := 0); (case h => exact y0 BK223.out); (case e => rfl)) Try.underlying30 rfl (by kernel_rfl)) rfl ?_
       exact ⟨_, y14, Kd.V_nil _ _ _ _ _, (y7 HB.out GE222.out GE223.out GE231.out)⟩
     ·rw [if_neg c7] at H
      exact absurd H (by simp)
    ·rw [if_neg c6] at H
     exact absurd H (by simp)
   ·rw [if_neg c5] at H
    have c5b0 : decide (x12_1 < (l1.length : Int)) = false := decide_eq_false c5
    clear c5
    simp only [Option.some.injEq, Prod.mk.injEq] at H
    obtain ⟨rfl, rfl⟩ := H
    have hnb50 := NB222_223.out
    have hnc50 := NB223_222.out
    have hcz51_0 := zh BK222
    have hfz51_0 := zfr BK222 0
    obtain ⟨Ao52, co52, eo52⟩ := Kd.V_slice HO_223000.out
    subst eo52
    have hcz53_0 := zh BK223
    have hfz53_0 := zfr BK223 0
    go_wp2
    refine bodyPost_ret (results_ct rfl _ _ gb223 30 #[.slice Ao52 x223000_1.length co52] (0, 0) _ rfl (by (with_reducible repeat (first | refine blk_drewN ?_ _ | refine blk_drew ?_ | refine blk_alloc ?_ _)); apply blk_put (i := 0); (case h => exact y0 BK223.out); (case e => rfl)) Try.underlying30 rfl (by kernel_rfl)) rfl ?_
    exact ⟨_, y14, (by (with_reducible repeat (first | apply Kd.V_alloc | apply Kd.V_drewN | apply Kd.V_drew)); exact Kd.V_mono (Kd.V_far (p := ⟨gb223, 0, none⟩) (Kd.V_mono HO_223000.out (fun k_ hk => (⟨hk, hk.2.2⟩ : _ ∧ k_ ≠ gb223))) (fun _ hk => hk.2) (.slice Ao52 x223000_1.length co52)) (fun _ hk => hk.1.1)), (y1 HB.out GE222.out GE223.out)⟩
end Go.Proofs.Ytjhbhihfifhljaa.PA
end
section
namespace Go.Proofs.Ytjhbhihfifhljaa.PA
open Go.RowKit Go.Proofs.YtjhbhihfifhljaaW.PrintWords Go.Proofs.YtjhbhihfifhljaaW.PrintLast Go.Proofs.YtjhbhihfifhljaaW.PrintMore
attribute [local go_sem] max2_int min2_int max_two min_two max_three min_three max_four min_four
set_option linter.unusedVariables false
set_option linter.unusedSimpArgs false
def impl_typePair.F (rec_ : List (S30) → Option ((List (S30)))) (k : Nat) (l0_0 : List (S30)) (l1_0 : List (S30)) : Option ((List (S30))) := (rec_ l0_0).bind fun t254 => ((rec_ l1_0).bind fun t257 => (some (([(⟨t254⟩ : S30), (⟨t257⟩ : S30)] : List (S30)))))
def impl_typeCopy.f : Nat → List (S30) → Option ((List (S30)))
 | 0, _ => none
 | k + 1, l0_0 => if (l0_0.length : Int) = 0 then (some ([] : List (S30))) else (if 0 < (l0_0.length : Int) then (if 1 < (l0_0.length : Int) then ((impl_typePair.F (impl_typeCopy.f k) k ((rd_T30 l0_0 0).f0) ((rd_T30 l0_0 1).f0)).bind fun t267 => (some t267)) else (none)) else (none))
theorem impl_typePair.Fmono {rec_ rec2_ : List (S30) → Option ((List (S30)))} (hrec : (∀ y0, LeO (rec_ y0) (rec2_ y0))) : ∀ a0 a1 k, LeO (impl_typePair.F rec_ k a0 a1) (impl_typePair.F rec2_ (k + 1) a0 a1) := by
 intro a0 a1 k
 unfold impl_typePair.F
 repeat' first
   | (with_reducible exact hrec _)
   | (with_reducible exact LeO.refl _)
   | (with_reducible exact LeO.none _)
   | (with_reducible refine LeO.ite ?_ ?_)
   | (with_reducible refine LeO.bind ?_ (fun _ => ?_))
   | exact hrec _
   | exact LeO.none _
   | refine LeO.ite ?_ ?_
   | refine LeO.bind ?_ (fun _ => ?_)
theorem impl_typeCopy.mono_l : ∀ k, (∀ y0, LeO (impl_typeCopy.f k y0) (impl_typeCopy.f (k + 1) y0))
 | 0 => fun _ r h => by simp [impl_typeCopy.f] at h
 | k + 1 => by
  have ih0 := impl_typeCopy.mono_l k
  ·intro y0
   unfold impl_typeCopy.f
   repeat' first
   | (with_reducible exact ih0 _)
   | (with_reducible exact impl_typePair.Fmono ih0 _ _ _)
   | (with_reducible exact LeO.refl _)
   | (with_reducible exact LeO.none _)
   | (with_reducible refine LeO.ite ?_ ?_)
   | (with_reducible refine LeO.bind ?_ (fun _ => ?_))
   | exact ih0 _
   | exact impl_typePair.Fmono ih0 _ _ _
   | exact LeO.none _
   | refine LeO.ite ?_ ?_
   | refine LeO.bind ?_ (fun _ => ?_)
theorem impl_typeCopy.mono : ∀ a0 k, LeO (impl_typeCopy.f k a0) (impl_typeCopy.f (k + 1) a0) := by
 intro a0 k
 have ih0 := impl_typeCopy.mono_l k
 exact ih0 a0
set_option maxHeartbeats 8000000 in
set_option maxRecDepth 100000 in
theorem impl_typePair.Fcalls (rec_ : List (S30) → Option ((List (S30)))) (IH : ∀ (A0_0 : Option Addr) (c0_0 : Nat) (l0_0 : List (S30)) (r : List (S30)) (w : World) (hr0_0 : Kd.C k30 w A0_0 l0_0.length l0_0) (hc0_0 : l0_0.length ≤ c0_0) (h : rec_ l0_0 = some r),
  Calls Try.prog 54 #[.agg #[.slice A0_0 l0_0.length c0_0]] w fun e w' => ∃ v0_ : Value, e = .returned (.agg #[v0_]) ∧ Kd.N k30 30 w' w.heap.size (fun k_ => (w.heap.size ≤ k_)) v0_ r ∧ Below w.heap.size w w') (k : Nat) (A0_0 : Option Addr) (c0_0 : Nat) (l0_0 : List (S30)) (A1_0 : Option Addr) (c1_0 : Nat) (l1_0 : List (S30)) (r : List (S30)) (w : World) (hr0_0 : Kd.C k30 w A0_0 l0_0.length l0_0) (hc0_0 : l0_0.length ≤ c0_0) (hr1_0 : Kd.C k30 w A1_0 l1_0.length l1_0) (hc1_0 : l1_0.length ≤ c1_0) (h : impl_typePair.F rec_ k l0_0 l1_0 = some r) :
  Calls Try.prog 79 #[.agg #[.slice A0_0 l0_0.length c0_0], .agg #[.slice A1_0 l1_0.length c1_0]] w fun e w' => ∃ v0_ : Value, e = .returned (.agg #[v0_]) ∧ Kd.N k30 30 w' w.heap.size (fun k_ => (w.heap.size ≤ k_)) v0_ r ∧ Below w.heap.size w w' := by
 have hu30 := Try.underlying30
 have HR0_0 := Aside0.mk hr0_0
 have HC0_0 := Aside0.mk hc0_0
 clear hr0_0 hc0_0
 have HR1_0 := Aside0.mk hr1_0
 have HC1_0 := Aside0.mk hc1_0
 clear hr1_0 hc1_0
 have HB := Aside0.mk (Below.refl w.heap.size w)
 have H : ((rec_ l0_0).bind fun t254 => ((rec_ l1_0).bind fun t257 => (some (([(⟨t254⟩ : S30), (⟨t257⟩ : S30)] : List (S30)))))) = some r := h
 clear h
 obtain ⟨t254, A30, H⟩ := ob H
 have A3 := Aside0.mk A30
 clear A30
 obtain ⟨t257, A40, H⟩ := ob H
 have A4 := Aside0.mk A40
 clear A40
 obtain ⟨y260, hy260⟩ : ∃ y_ : List (S30), y_ = (([(⟨t254⟩ : S30), (⟨t257⟩ : S30)] : List (S30))) := ⟨_, rfl⟩
 replace H : (some y260) = some r := by first | (rw [hy260]; with_reducible exact H) | (have H2_ := (Option.bind_some _ _).symm.trans H; rw [hy260]; with_reducible exact H2_) | (have H2_ := (Option.bind_some _ _).symm.trans H; with_reducible exact H2_) | with_reducible exact H | (rw [hy260]; exact H) | exact H
 have Ny260 := Aside0.mk hy260
 clear hy260
 obtain rfl := Option.some.inj H
 go_enter Try.func79, Try.ntmps79
 try go_wp2_with (first | ((with_reducible refine gate_dst (N := 2) rfl ?_); refine zbx 2 #[.slice A0_0 l0_0.length c0_0] 30 ?_; intro gb251 hg w5 hbox hb; have BK251 := Aside0.mk hbox; have GW251 := Aside0.mk ((y5 hg HB.out : w.heap.size ≤ gb251)); have GE251 := Aside0.mk ((y5 hg HB.out : w.heap.size ≤ gb251)); replace HB := Aside0.mk (below_step (y2 HB.out) hb); clear hb hbox hg) | ((with_reducible refine gate_dst (N := 3) rfl ?_); refine zbx 3 #[.slice A1_0 l1_0.length c1_0] 30 ?_; intro gb252 hg w6 hbox hb; have BK252 := Aside0.mk hbox; have GW252 := Aside0.mk ((y6 hg HB.out GE251.out : w.heap.size ≤ gb252)); have GE252 := Aside0.mk ((y6 hg HB.out GE251.out : w.heap.size ≤ gb252)); replace HB := Aside0.mk (below_step (y3 HB.out GE251.out) hb); have NB251_252 := zltn hg BK251; have NB252_251 := zgtn hg BK251; replace BK251 := zbb BK251 hb; clear hb hbox hg) | ((with_reducible refine gate_dst (N := 4) rfl ?_); refine zbx 4 #[.slice none 0 0] 30 ?_; intro gb253 hg w7 hbox hb; have BK253 := Aside0.mk hbox; have GW253 := Aside0.mk ((y20 hg HB.out GE251.out GE252.out : w.heap.size ≤ gb253)); have GE253 := Aside0.mk ((y20 hg HB.out GE251.out GE252.out : w.heap.size ≤ gb253)); replace HB := Aside0.mk (below_step (y1 HB.out GE251.out GE252.out) hb); have NB251_253 := zltn hg BK251; have NB253_251 := zgtn hg BK251; replace BK251 := zbb BK251 hb; have NB252_253 := zltn hg BK252; have NB253_252 := zgtn hg BK252; replace BK252 := zbb BK252 hb; clear hb hbox hg))
 replace BK251 := Aside0.mk (blk_drew BK251.out)
 replace BK252 := Aside0.mk (blk_drew BK252.out)
 replace BK253 := Aside0.mk (blk_drew BK253.out)
 replace HB := Aside0.mk (below_drew1 HB.out)
 refine start_ (n := 7) (S := fun w' => w'.cell? ⟨gb251, 0, none⟩ = some (.slice A0_0 l0_0.length c0_0) ∧ w'.cell? ⟨gb252, 0, none⟩ = some (.slice A1_0 l1_0.length c1_0)) (ds := []) #[false, false, false, false, false, false, false] (by kernel_rfl) rfl rfl ⟨(blk_cell BK251.out 0).trans rfl, (blk_cell BK252.out 0).trans rfl⟩ (fun hHeld => ?_)
 generalize w7.drew = w8 at BK251 BK252 BK253 HB hHeld ⊢
 refine take_ (i := 0) (N := some 5) (v := ?_) (a' := ?_) #[true, false, false, false, false, false, false] rfl rfl (by kernel_rfl) (fun _ _ _ h => h) (Or.inl ⟨(by rfl), ?_⟩) hHeld ?_ ?_
 rotate_left
 ·rintro w' ⟨s0, s1⟩
  go_simp
  with_reducible rfl
 rotate_left
 ·simp only [Act.put, List.setIfInBounds_toArray, List.set_cons_zero, List.set_cons_succ, i64_w, i32_w]
  rfl
 refine take_ (i := 2) (N := some 7) (v := ?_) (a' := ?_) #[true, false, true, false, false, false, false] rfl rfl (by kernel_rfl) (fun _ _ _ h => h) (Or.inl ⟨(by rfl), ?_⟩) hHeld ?_ ?_
 rotate_left
 ·rintro w' ⟨s0, s1⟩
  go_simp
  with_reducible rfl
 rotate_left
 ·simp only [Act.put, List.setIfInBounds_toArray, List.set_cons_zero, List.set_cons_succ, i64_w, i32_w]
  rfl
 refine one_ (i := 1) (N := some 6) #[true, true, true, false, false, false, false] rfl rfl (by kernel_rfl) (by decide) (fun K hK => ?_)
 refine goes_ Try.func54 (by kernel_rfl) rfl #[.agg #[.slice A0_0 l0_0.length c0_0]] (by rfl) rfl rfl y4 ?_
 with_reducible refine (IH  _ _ l0_0 t254 _ ?side1 ?side2 A3.out).mono ?_
 (case side1 => exact y8 HR0_0.out HB.out)
 (case side2 => exact HC0_0.out)
 rintro e w9 ⟨v255, rfl, ho0, hb⟩
 refine ⟨_, rfl, ?_⟩
 have HO256 := Aside0.mk (Kd.N_lower (Kd.N_mono (ok' := fun k_ => (w.heap.size ≤ k_) ∧ k_ ≠ gb251 ∧ k_ ≠ gb252 ∧ k_ ≠ gb253) ho0 (fun k_ hk_ => ⟨(Nat.le_trans (below_size (y7 HB.out GE251.out GE252.out GE253.out)) hk_), (Kd.freshB (g := gb251) (o := .cells #[.slice A0_0 l0_0.length c0_0] 30 (0, 0)) (y0 BK251.out) k_ hk_), (Kd.freshB (g := gb252) (o := .cells #[.slice A1_0 l1_0.length c1_0] 30 (0, 0)) (y0 BK252.out) k_ hk_), (Kd.freshB (g := gb253) (o := .cells #[.slice none 0 0] 30 (0, 0)) (y0 BK253.out) k_ hk_)⟩)) (below_size (y7 HB.out GE251.out GE252.out GE253.out)))
 replace BK251 := zbb BK251 hb
 replace BK252 := zbb BK252 hb
 replace BK253 := zbb BK253 hb
 replace HB := Aside0.mk (below_step (y7 HB.out GE251.out GE252.out GE253.out) hb)
 (try clear hb)
 (try clear hb2)
 (try clear hk)
 (try clear hi)
 (try clear ho0)
 refine hK.out _ _ ⟨(blk_cell BK251.out 0).trans rfl, (blk_cell BK252.out 0).trans rfl⟩ (fun hHeld => ?_)
 clear hK K
 refine norm_ (a' := ?_) ?_ ?_
 rotate_left
 ·show Act.put _ (some 6) _ = _
  simp only [Act.put, List.setIfInBounds_toArray, List.set_cons_zero, List.set_cons_succ, i64_w, i32_w]
  rfl
 refine one_ (i := 3) (N := some 8) #[true, true, true, true, false, false, false] rfl rfl (by kernel_rfl) (by decide) (fun K hK => ?_)
 refine goes_ Try.func54 (by kernel_rfl) rfl #[.agg #[.slice A1_0 l1_0.length c1_0]] (by rfl) rfl rfl y4 ?_
 with_reducible refine (IH  _ _ l1_0 t257 _ ?side1 ?side2 A4.out).mono ?_
 (case side1 => exact y8 HR1_0.out HB.out)
 (case side2 => exact HC1_0.out)
 rintro e w10 ⟨v258, rfl, ho0, hb⟩
 refine ⟨_, rfl, ?_⟩
 have HO259 := Aside0.mk (Kd.N_lower (Kd.N_mono (ok' := fun k_ => (w.heap.size ≤ k_) ∧ some k_ ≠ (v255 : Value).ownBlock ∧ k_ ≠ gb251 ∧ k_ ≠ gb252 ∧ k_ ≠ gb253) ho0 (fun k_ hk_ => ⟨(Nat.le_trans (below_size (y7 HB.out GE251.out GE252.out GE253.out)) hk_), (Kd.fresh' (Kd.N_lt (y9 HO256.out)) k_ hk_), (Kd.freshB (g := gb251) (o := .cells #[.slice A0_0 l0_0.length c0_0] 30 (0, 0)) (y0 BK251.out) k_ hk_), (Kd.freshB (g := gb252) (o := .cells #[.slice A1_0 l1_0.length c1_0] 30 (0, 0)) (y0 BK252.out) k_ hk_), (Kd.freshB (g := gb253) (o := .cells #[.slice none 0 0] 30 (0, 0)) (y0 BK253.out) k_ hk_)⟩)) (below_size (y7 HB.out GE251.out GE252.out GE253.out)))
 replace HO256 := Aside0.mk (Kd.N_elder' (y9 HO256.out) (Kd.N_base ho0) hb)
 replace BK251 := zbb BK251 hb
 replace BK252 := zbb BK252 hb
 replace BK253 := zbb BK253 hb
 replace HB := Aside0.mk (below_step (y7 HB.out GE251.out GE252.out GE253.out) hb)
 (try clear hb)
 (try clear hb2)
 (try clear hk)
 (try clear hi)
 (try clear ho0)
 obtain ⟨Ao11, co11, eo11⟩ := Kd.N_slice HO256.out
 (first | subst eo11 | (injection eo11 with f1_ f2_ f3_; have f4_ := f1_.symm; have f5_ := f3_.symm; clear f1_ f2_ f3_; subst f4_; subst f5_))
 obtain ⟨Ao12, co12, eo12⟩ := Kd.N_slice HO259.out
 (first | subst eo12 | (injection eo12 with f1_ f2_ f3_; have f4_ := f1_.symm; have f5_ := f3_.symm; clear f1_ f2_ f3_; subst f4_; subst f5_))
 refine hK.out _ _ ⟨(blk_cell BK251.out 0).trans rfl, (blk_cell BK252.out 0).trans rfl⟩ (fun hHeld => ?_)
 clear hK K
 refine norm_ (a' := ?_) ?_ ?_
 rotate_left
 ·show Act.put _ (some 8) _ = _
  simp only [Act.put, List.setIfInBounds_toArray, List.set_cons_zero, List.set_cons_succ, i64_w, i32_w]
  rfl
 refine one_ (i := 4) (N := some 9) #[true, true, true, true, true, false, false] rfl rfl (by kernel_rfl) (by decide) (fun K hK => ?_)
 refine Kd.N_lit_step k30 _ 30 ?hg (N' := 9) ?hd (xs := ([(⟨t254⟩ : S30), (⟨t257⟩ : S30)] : List (S30))) (inner := [.slice Ao11 t254.length co11, .slice Ao12 t257.length co12]) (ok := (fun k_ => (w.heap.size ≤ k_) ∧ k_ ≠ gb251 ∧ k_ ≠ gb252 ∧ k_ ≠ gb253)) (okp := (fun k_ => (w.heap.size ≤ k_) ∧ k_ ≠ gb251 ∧ k_ ≠ gb252 ∧ k_ ≠ gb253)) ?hr ?hp (fun _ hk => hk) ((show ∀ k_, w10.heap.size ≤ k_ → (fun k_ => (w.heap.size ≤ k_) ∧ k_ ≠ gb251 ∧ k_ ≠ gb252 ∧ k_ ≠ gb253) k_ from fun k_ hk => ⟨(Nat.le_trans (below_size (y7 HB.out GE251.out GE252.out GE253.out)) hk), Kd.freshB (g := gb251) (o := .cells #[.slice A0_0 l0_0.length c0_0] 30 (0, 0)) (y0 BK251.out) k_ hk, Kd.freshB (g := gb252) (o := .cells #[.slice A1_0 l1_0.length c1_0] 30 (0, 0)) (y0 BK252.out) k_ hk, Kd.freshB (g := gb253) (o := .cells #[.slice none 0 0] 30 (0, 0)) (y0 BK253.out) k_ hk⟩) _ (Nat.le_refl _)) (Below.refl _ _) (Nat.le_refl _) (by simp) ?_; (case hd => rfl); (case hg => rfl); (case hr => first | (go_simp; done) | (go_simp; rfl)); (case hp => exact (Reps.one (show Kd.FK k30 _ _ (⟨t254⟩ : S30) [.slice Ao11 t254.length co11] from (k30_mkF _ _ (⟨t254⟩ : S30) (Kd.N_reads' (Kd.N_mono (ok' := (fun k_ => (w.heap.size ≤ k_) ∧ k_ ≠ gb251 ∧ k_ ≠ gb252 ∧ k_ ≠ gb253)) (HO256.out) (fun k_ hk => ⟨hk.1.1, ⟨hk.1.2.1, ⟨hk.1.2.2.1, hk.1.2.2.2⟩⟩⟩))).2.1 (Kd.N_F (Kd.N_mono (ok' := (fun k_ => (w.heap.size ≤ k_) ∧ k_ ≠ gb251 ∧ k_ ≠ gb252 ∧ k_ ≠ gb253)) (HO256.out) (fun k_ hk => ⟨hk.1.1, ⟨hk.1.2.1, ⟨hk.1.2.2.1, hk.1.2.2.2⟩⟩⟩))))) (Reps.one (show Kd.FK k30 _ _ (⟨t257⟩ : S30) [.slice Ao12 t257.length co12] from (k30_mkF _ _ (⟨t257⟩ : S30) (Kd.N_reads' (Kd.N_mono (ok' := (fun k_ => (w.heap.size ≤ k_) ∧ k_ ≠ gb251 ∧ k_ ≠ gb252 ∧ k_ ≠ gb253)) (HO259.out) (fun k_ hk => ⟨hk.1, ⟨hk.2.2.1, ⟨hk.2.2.2.1, hk.2.2.2.2⟩⟩⟩))).2.1 (Kd.N_F (Kd.N_mono (ok' := (fun k_ => (w.heap.size ≤ k_) ∧ k_ ≠ gb251 ∧ k_ ≠ gb252 ∧ k_ ≠ gb253)) (HO259.out) (fun k_ hk => ⟨hk.1, ⟨hk.2.2.1, ⟨hk.2.2.2.1, hk.2.2.2.2⟩⟩⟩))))) (Reps.none _ _))))
 intro v261 w13 ho14 hb hg_ hnew_
 clear hg_ hnew_
 (first | rw [← Ny260.out] at ho14 | (simp only [Int.reduceToNat] at ho14; rw [← Ny260.out] at ho14))
 have HO262 := Aside0.mk (Kd.N_lower ho14 (below_size (y7 HB.out GE251.out GE252.out GE253.out)))
 replace BK251 := zbb BK251 hb
 replace BK252 := zbb BK252 hb
 replace BK253 := zbb BK253 hb
 replace HB := Aside0.mk (below_step (y7 HB.out GE251.out GE252.out GE253.out) hb)
 clear HO256 HO259
 clear hb ho14
 obtain ⟨Ao15, co15, eo15⟩ := Kd.N_slice HO262.out
 (first | subst eo15 | (injection eo15 with f1_ f2_ f3_; have f4_ := f1_.symm; have f5_ := f3_.symm; clear f1_ f2_ f3_; subst f4_; subst f5_))
 refine hK.out _ _ ⟨(blk_cell BK251.out 0).trans rfl, (blk_cell BK252.out 0).trans rfl⟩ (fun hHeld => ?_)
 clear hK K
 refine norm_ (a' := ?_) ?_ ?_
 rotate_left
 ·show Act.put _ (some 9) _ = _
  simp only [Act.put, List.setIfInBounds_toArray, List.set_cons_zero, List.set_cons_succ, i64_w, i32_w]
  rfl
 refine pure_ (i := 5) (N := some 10) (v := ?_) (a' := ?_) #[true, true, true, true, true, true, false] rfl rfl (by kernel_rfl) (fun _ _ _ h => h) (Or.inl ⟨(by rfl), ?_⟩) ?_ ?_
 rotate_left
 ·intro w'
  go_simp
  with_reducible rfl
 rotate_left
 ·simp only [Act.put, List.setIfInBounds_toArray, List.set_cons_zero, List.set_cons_succ, i64_w, i32_w]
  rfl
 refine one_ (i := 6) (N := none) #[true, true, true, true, true, true, true] rfl rfl (by kernel_rfl) (by decide) (fun K hK => ?_)
 have hs16 : w13.cell? ⟨gb253, 0, none⟩ = some (.slice none 0 0) := (blk_cell BK253.out 0).trans rfl
 have hfs16 := zfr BK253 0
 have hns16_0 := NB251_253.out
 have hns16_1 := NB252_253.out
 have hms16_0 := NB253_251.out
 have hms16_1 := NB253_252.out
 refine skip_ (w1 := ?_) (by rfl) rfl ?_ ?_
 rotate_left
 ·go_simp
  rfl
 refine hK.out _ _ ⟨((cell_far (p := ⟨gb253, _, none⟩) NB251_253.out _).trans (hHeld.1)), ((cell_far (p := ⟨gb253, _, none⟩) NB252_253.out _).trans (hHeld.2))⟩ (fun hHeld => ?_)
 clear hK K
 refine done_ (by kernel_rfl) ?_
 try go_wp2
 refine bodyPost_ret (results_cell_row rfl _ _ gb253 30 #[.slice Ao15 y260.length co15] (0, 0) _ rfl (by (with_reducible repeat (first | refine blk_drewN ?_ _ | refine blk_drew ?_ | refine blk_alloc ?_ _)); apply blk_put (i := 0); (case h => exact y0 BK253.out); (case e => rfl)) Try.underlying30 rfl (by kernel_rfl)) rfl ?_
 exact ⟨_, y14, (by (with_reducible repeat (first | apply Kd.N_alloc | apply Kd.N_drewN | apply Kd.N_drew)); exact Kd.N_mono (Kd.N_far (p := ⟨gb253, 0, none⟩) (Kd.N_mono HO262.out (fun k_ hk => (⟨hk, hk.2.2.2⟩ : _ ∧ k_ ≠ gb253))) (fun _ hk => hk.2) (.slice Ao15 y260.length co15)) (fun _ hk => hk.1.1)), (y7 HB.out GE251.out GE252.out GE253.out)⟩
def impl_typeCopy.T3 : Bool × List (List Nat × List Nat) := (true, [([], []), ([0], [0]), ([1], [1]), ([2], [2]), ([], []), ([4], [4]), ([5], [5]), ([6], [6]), ([3, 7], [3, 7]), ([8, 8, 0, 1, 2, 3, 4, 5, 6, 7, 8], [8])])
def impl_typeCopy.B3 : List Nat := [0, 1, 3, 7, 0, 16, 48, 112, 255, 511]
theorem impl_typeCopy.tab3 : rtab .any (opsOf Try.f54 3) = impl_typeCopy.T3 := by kernel_rfl
theorem impl_typeCopy.bits3 : waitsOk impl_typeCopy.T3.2 impl_typeCopy.B3 = true := by kernel_rfl
set_option maxHeartbeats 8000000 in
set_option maxRecDepth 100000 in
theorem impl_typeCopy.calls (k : Nat) : ∀ (A0_0 : Option Addr) (c0_0 : Nat) (l0_0 : List (S30)) (r : List (S30)) (w : World) (hr0_0 : Kd.C k30 w A0_0 l0_0.length l0_0) (hc0_0 : l0_0.length ≤ c0_0) (h : impl_typeCopy.f k l0_0 = some r),
  Calls Try.prog 54 #[.agg #[.slice A0_0 l0_0.length c0_0]] w fun e w' => ∃ v0_ : Value, e = .returned (.agg #[v0_]) ∧ Kd.N k30 30 w' w.heap.size (fun k_ => (w.heap.size ≤ k_)) v0_ r ∧ Below w.heap.size w w' := by
 induction k using Nat.strongRecOn with
 | _ k ih =>
 intro A0_0 c0_0 l0_0 r w hr0_0 hc0_0 h
 cases k with
 | zero => exact absurd h (by simp [impl_typeCopy.f])
 | succ k =>
 simp only [impl_typeCopy.f] at h
 have hu30 := Try.underlying30
 have HR0_0 := Aside0.mk hr0_0
 have HC0_0 := Aside0.mk hc0_0
 clear hr0_0 hc0_0
 have HB := Aside0.mk (Below.refl w.heap.size w)
 have H : (if (l0_0.length : Int) = 0 then (some ([] : List (S30))) else (if 0 < (l0_0.length : Int) then (if 1 < (l0_0.length : Int) then ((impl_typePair.F (impl_typeCopy.f k) k ((rd_T30 l0_0 0).f0) ((rd_T30 l0_0 1).f0)).bind fun t267 => (some t267)) else (none)) else (none))) = some r := h
 clear h
 by_cases c2 : (l0_0.length : Int) = 0
 ·rw [if_pos c2] at H
  have c2b0 : ((l0_0.length : Int) == 0) = true := beq_iff_eq.mpr c2
  have c2b1 : ((l0_0.length : Int) != 0) = false := bne_eq_false_iff_eq.mpr c2
  clear c2
  obtain rfl := Option.some.inj H
  go_enter Try.func54, Try.ntmps54
  go_wp2_with (first | ((with_reducible refine gate_dst (N := 1) rfl ?_); refine zbx 1 #[.slice A0_0 l0_0.length c0_0] 30 ?_; intro gb263 hg w3 hbox hb; have BK263 := Aside0.mk hbox; have GW263 := Aside0.mk ((y5 hg HB.out : w.heap.size ≤ gb263)); have GE263 := Aside0.mk ((y5 hg HB.out : w.heap.size ≤ gb263)); replace HB := Aside0.mk (below_step (y2 HB.out) hb); clear hb hbox hg) | ((with_reducible refine gate_dst (N := 2) rfl ?_); refine zbx 2 #[.slice none 0 0] 30 ?_; intro gb264 hg w4 hbox hb; have BK264 := Aside0.mk hbox; have GW264 := Aside0.mk ((y6 hg HB.out GE263.out : w.heap.size ≤ gb264)); have GE264 := Aside0.mk ((y6 hg HB.out GE263.out : w.heap.size ≤ gb264)); replace HB := Aside0.mk (below_step (y3 HB.out GE263.out) hb); have NB263_264 := zltn hg BK263; have NB264_263 := zgtn hg BK263; replace BK263 := zbb BK263 hb; clear hb hbox hg; have hnb5 := NB263_264.out; have hnc5 := NB264_263.out; have hcz6_0 := zh BK263; have hfz6_0 := zfr BK263 0; have hcz7_0 := zh BK264; have hfz7_0 := zfr BK264 0))
  refine bodyPost_ret (results_cell_row rfl _ _ gb264 30 #[.slice none 0 0] (0, 0) _ rfl (by (with_reducible repeat (first | refine blk_drewN ?_ _ | refine blk_drew ?_ | refine blk_alloc ?_ _)); apply blk_put (i := 0); (case h => exact y0 BK264.out); (case e => rfl)) Try.underlying30 rfl (by kernel_rfl)) rfl ?_
  exact ⟨_, y14, y36, (y1 HB.out GE263.out GE264.out)⟩
 ·rw [if_neg c2] at H
  have c2b0 : ((l0_0.length : Int) == 0) = false := beq_eq_false_iff_ne.mpr c2
  have c2b1 : ((l0_0.length : Int) != 0) = true := bne_iff_ne.mpr c2
  have c2b2 : ¬ (l0_0 = []) := fun h_ => c2 (by rw [h_]; rfl)
  by_cases c8 : 0 < (l0_0.length : Int)
  ·rw [if_pos c8] at H
   have c8b0 : decide (0 < (l0_0.length : Int)) = true := decide_eq_true c8
   have c8b1 : decide (0 < l0_0.length) = true := decide_eq_true (by omega)
   clear c8
   by_cases c9 : 1 < (l0_0.length : Int)
   ·rw [if_pos c9] at H
    have c9b0 : decide (1 < (l0_0.length : Int)) = true := decide_eq_true c9
    have c9b1 : decide (1 < l0_0.length) = true := decide_eq_true (by omega)
    clear c9
    obtain ⟨t267, A100, H⟩ := ob H
    have A10 := Aside0.mk A100
    clear A100
    obtain rfl := Option.some.inj H
    go_enter Try.func54, Try.ntmps54
    try go_wp2_with (first | ((with_reducible refine gate_dst (N := 1) rfl ?_); refine zbx 1 #[.slice A0_0 l0_0.length c0_0] 30 ?_; intro gb263 hg w11 hbox hb; have BK263 := Aside0.mk hbox; have GW263 := Aside0.mk ((y5 hg HB.out : w.heap.size ≤ gb263)); have GE263 := Aside0.mk ((y5 hg HB.out : w.heap.size ≤ gb263)); replace HB := Aside0.mk (below_step (y2 HB.out) hb); clear hb hbox hg) | ((with_reducible refine gate_dst (N := 2) rfl ?_); refine zbx 2 #[.slice none 0 0] 30 ?_; intro gb264 hg w12 hbox hb; have BK264 := Aside0.mk hbox; have GW264 := Aside0.mk ((y6 hg HB.out GE263.out : w.heap.size ≤ gb264)); have GE264 := Aside0.mk ((y6 hg HB.out GE263.out : w.heap.size ≤ gb264)); replace HB := Aside0.mk (below_step (y3 HB.out GE263.out) hb); have NB263_264 := zltn hg BK263; have NB264_263 := zgtn hg BK263; replace BK263 := zbb BK263 hb; clear hb hbox hg; have hnb13 := NB263_264.out; have hnc13 := NB264_263.out; have hcz14_0 := zh BK263; have hfz14_0 := zfr BK263 0))
    replace BK263 := Aside0.mk (blk_drew BK263.out)
    replace BK264 := Aside0.mk (blk_drew BK264.out)
    replace HB := Aside0.mk (below_drew1 HB.out)
    have p265 : 0 ≤ (0 : Int) := (by omega)
    have q265 : 0 < (l0_0.length : Int) := of_decide_eq_true y19
    obtain ⟨ad265, A265_0, c265_0, e265, hx265_0, hl265_0, hi265_0⟩ := at_T30 HR0_0.out 0 p265 q265
    have hw265_0 := hx265_0
    (try rw [show ((0 : Int)).toNat = 0 from rfl] at hw265_0)
    (try rw [show 0 * 1 = 0 from rfl] at hw265_0)
    (try rw [Addr.add_zero'] at hw265_0)
    cases e265
    have qi265 : (0 < l0_0.length) = True := eq_true (by omega)
    (try rw [show ((0 : Int)).toNat = 0 from rfl] at hx265_0)
    (try rw [Addr.add_zero'] at hx265_0)
    replace hx265_0 := (HB.out.cell (World.block_lt_of_cell? w _ hx265_0)).trans hx265_0
    have HR265_0 := Aside0.mk hi265_0
    have HC265_0 := Aside0.mk hl265_0
    clear hi265_0 hl265_0
    replace p265 := eq_true p265
    replace q265 := eq_true q265
    have p266 : 0 ≤ (1 : Int) := (by omega)
    have q266 : 1 < (l0_0.length : Int) := of_decide_eq_true y19
    obtain ⟨ad266, A266_0, c266_0, e266, hx266_0, hl266_0, hi266_0⟩ := at_T30 HR0_0.out 1 p266 q266
    have hw266_0 := hx266_0
    (try rw [show ((1 : Int)).toNat = 1 from rfl] at hw266_0)
    (try rw [show 1 * 1 = 1 from rfl] at hw266_0)
    (try simp only [Nat.reduceMul, Nat.reduceEqDiff, Go.Addr.add, ↓reduceIte] at hw266_0)
    obtain rfl : ad265 = ad266 := (by injection e266)
    (try simp only [show (1 : Int).toNat = 1 from rfl, Nat.reduceMul, Nat.reduceEqDiff, Go.Addr.add, ↓reduceIte] at hx266_0)
    have qi266 : (1 < l0_0.length) = True := eq_true (by omega)
    (try rw [show ((1 : Int)).toNat = 1 from rfl] at hx266_0)
    replace hx266_0 := (HB.out.cell (World.block_lt_of_cell? w _ hx266_0)).trans hx266_0
    have HR266_0 := Aside0.mk hi266_0
    have HC266_0 := Aside0.mk hl266_0
    clear hi266_0 hl266_0
    replace p266 := eq_true p266
    replace q266 := eq_true q266
    refine start_ (n := 10) (S := fun w' => w'.cell? ⟨gb263, 0, none⟩ = some (.slice (some ad265) l0_0.length c0_0) ∧ w'.cell? ad265 = some (.slice A265_0 ((rd_T30 l0_0 0).f0).length c265_0) ∧ w'.cell? ⟨ad265.block, ad265.off + 1, none⟩ = some (.slice A266_0 ((rd_T30 l0_0 1).f0).length c266_0)) (ds := []) #[false, false, false, false, false, false, false, false, false, false] (by kernel_rfl) rfl rfl ⟨(blk_cell BK263.out 0).trans rfl, ((HB.out.cell (World.block_lt_of_cell? w _ hw265_0)).trans hw265_0), ((HB.out.cell (World.block_lt_of_cell? w _ hw266_0)).trans hw266_0)⟩ (fun hHeld => ?_); refine with_tabW impl_typeCopy.tab3 impl_typeCopy.bits3 (fun HT_ HW_ => ?_)
    generalize w12.drew = w15 at BK263 BK264 HB HR265_0 HR266_0 hx265_0 hx266_0 hHeld ⊢
    refine zp 0 (some 8) HT_ ?_
    refine zp 4 (some 12) HT_ ?_
    refine zt3 1 (some 9) HT_ HW_ hHeld ?_
    refine zp 2 (some 10) HT_ ?_
    refine zt3 3 (some 11) HT_ HW_ hHeld ?_
    refine zt3 5 (some 13) HT_ HW_ hHeld ?_
    refine zp 6 (some 14) HT_ ?_
    refine zt3 7 (some 15) HT_ HW_ hHeld ?_
    refine one_ (i := 8) (N := some 16) #[true, true, true, true, true, true, true, true, true, false] rfl rfl (one_of HT_.out (by kernel_rfl)) (by decide) (fun K hK => ?_)
    refine goes_ Try.func79 (by kernel_rfl) rfl #[.agg #[.slice A265_0 ((rd_T30 l0_0 0).f0).length c265_0], .agg #[.slice A266_0 ((rd_T30 l0_0 1).f0).length c266_0]] (by rfl) rfl rfl y4 ?_
    with_reducible refine (impl_typePair.Fcalls (impl_typeCopy.f k) (ih k (by omega)) k _ _ ((rd_T30 l0_0 0).f0) _ _ ((rd_T30 l0_0 1).f0) t267 _ ?side1 ?side2 ?side3 ?side4 A10.out).mono ?_
    (case side1 => exact y8 HR265_0.out HB.out)
    (case side2 => exact HC265_0.out)
    (case side3 => exact y8 HR266_0.out HB.out)
    (case side4 => exact HC266_0.out)
    rintro e w16 ⟨v268, rfl, ho0, hb⟩
    refine ⟨_, rfl, ?_⟩
    have HO269 := Aside0.mk (Kd.N_lower (Kd.N_mono (ok' := fun k_ => (w.heap.size ≤ k_) ∧ k_ ≠ gb263 ∧ k_ ≠ gb264) ho0 (fun k_ hk_ => ⟨(Nat.le_trans (below_size (y1 HB.out GE263.out GE264.out)) hk_), (Kd.freshB (g := gb263) (o := .cells #[.slice (some ad265) l0_0.length c0_0] 30 (0, 0)) (y0 BK263.out) k_ hk_), (Kd.freshB (g := gb264) (o := .cells #[.slice none 0 0] 30 (0, 0)) (y0 BK264.out) k_ hk_)⟩)) (below_size (y1 HB.out GE263.out GE264.out)))
    replace BK263 := zbb BK263 hb
    replace BK264 := zbb BK264 hb
    replace HB := Aside0.mk (below_step (y1 HB.out GE263.out GE264.out) hb)
    (try clear hb)
    (try clear hb2)
    (try clear hk)
    (try clear hi)
    (try clear ho0)
    obtain ⟨Ao17, co17, eo17⟩ := Kd.N_slice HO269.out
    (first | subst eo17 | (injection eo17 with f1_ f2_ f3_; have f4_ := f1_.symm; have f5_ := f3_.symm; clear f1_ f2_ f3_; subst f4_; subst f5_))
    refine hK.out _ _ ⟨(blk_cell BK263.out 0).trans rfl, ((HB.out.cell (World.block_lt_of_cell? w _ hw265_0)).trans hw265_0), ((HB.out.cell (World.block_lt_of_cell? w _ hw266_0)).trans hw266_0)⟩ (fun hHeld => ?_)
    clear hK K
    refine norm_ (a' := ?_) ?_ ?_
    rotate_left
    ·show Act.put _ (some 16) _ = _
     simp only [Act.put, List.setIfInBounds_toArray, List.set_cons_zero, List.set_cons_succ, i64_w, i32_w]
     rfl
    refine one_ (i := 9) (N := none) #[true, true, true, true, true, true, true, true, true, true] rfl rfl (one_of HT_.out (by kernel_rfl)) (by decide) (fun K hK => ?_)
    have hs18 : w16.cell? ⟨gb264, 0, none⟩ = some (.slice none 0 0) := (blk_cell BK264.out 0).trans rfl
    have hfs18 := zfr BK264 0
    have hns18_0 := NB263_264.out
    have hms18_0 := NB264_263.out
    refine skip_ (w1 := ?_) (by rfl) rfl ?_ ?_
    rotate_left
    ·go_simp
     rfl
    refine hK.out _ _ ⟨((cell_far (p := ⟨gb264, _, none⟩) NB263_264.out _).trans (hHeld.1)), ((cell_far (p := ⟨gb264, _, none⟩) (by first | exact Nat.ne_of_lt (Nat.lt_of_lt_of_le (by have := World.block_lt_of_cell? _ _ hw265_0; first | rwa [add_block] at this | exact this) GW264.out) | (rw [add_block]; exact Nat.ne_of_lt (Nat.lt_of_lt_of_le (by have := World.block_lt_of_cell? _ _ hw265_0; first | rwa [add_block] at this | exact this) GW264.out)) | (show (Addr.add _ _).block ≠ _; rw [add_block]; exact Nat.ne_of_lt (Nat.lt_of_lt_of_le (by have := World.block_lt_of_cell? _ _ hw265_0; first | rwa [add_block] at this | exact this) GW264.out)) | (dsimp only; exact Nat.ne_of_lt (Nat.lt_of_lt_of_le (by have := World.block_lt_of_cell? _ _ hw265_0; first | rwa [add_block] at this | exact this) GW264.out))) _).trans (hHeld.2.1)), ((cell_far (p := ⟨gb264, _, none⟩) (by first | exact Nat.ne_of_lt (Nat.lt_of_lt_of_le (by have := World.block_lt_of_cell? _ _ hw266_0; first | rwa [add_block] at this | exact this) GW264.out) | (rw [add_block]; exact Nat.ne_of_lt (Nat.lt_of_lt_of_le (by have := World.block_lt_of_cell? _ _ hw266_0; first | rwa [add_block] at this | exact this) GW264.out)) | (show (Addr.add _ _).block ≠ _; rw [add_block]; exact Nat.ne_of_lt (Nat.lt_of_lt_of_le (by have := World.block_lt_of_cell? _ _ hw266_0; first | rwa [add_block] at this | exact this) GW264.out)) | (dsimp only; exact Nat.ne_of_lt (Nat.lt_of_lt_of_le (by have := World.block_lt_of_cell? _ _ hw266_0; first | rwa [add_block] at this | exact this) GW264.out))) _).trans (hHeld.2.2))⟩ (fun hHeld => ?_)
    clear hK K
    refine done_ (done_of HT_.out (by kernel_rfl)) ?_
    try go_wp2
    refine bodyPost_ret (results_cell_row rfl _ _ gb264 30 #[.slice Ao17 t267.length co17] (0, 0) _ rfl (by (with_reducible repeat (first | refine blk_drewN ?_ _ | refine blk_drew ?_ | refine blk_alloc ?_ _)); apply blk_put (i := 0); (case h => exact y0 BK264.out); (case e => rfl)) Try.underlying30 rfl (by kernel_rfl)) rfl ?_
    exact ⟨_, y14, (by (with_reducible repeat (first | apply Kd.N_alloc | apply Kd.N_drewN | apply Kd.N_drew)); exact Kd.N_mono (Kd.N_far (p := ⟨gb264, 0, none⟩) (Kd.N_mono HO269.out (fun k_ hk => (⟨hk, hk.2.2⟩ : _ ∧ k_ ≠ gb264))) (fun _ hk => hk.2) (.slice Ao17 t267.length co17)) (fun _ hk => hk.1.1)), (y1 HB.out GE263.out GE264.out)⟩
   ·rw [if_neg c9] at H
    exact absurd H (by simp)
  ·rw [if_neg c8] at H
   exact absurd H (by simp)
def impl_typePair.f (k : Nat) (l0_0 : List (S30)) (l1_0 : List (S30)) : Option ((List (S30))) := impl_typePair.F (impl_typeCopy.f k) k l0_0 l1_0
theorem impl_typePair.mono : ∀ a0 a1 k, LeO (impl_typePair.f k a0 a1) (impl_typePair.f (k + 1) a0 a1) := fun a0 a1 k => impl_typePair.Fmono (fun y0 => impl_typeCopy.mono y0 k) a0 a1 k
theorem impl_typePair.calls (k : Nat) (A0_0 : Option Addr) (c0_0 : Nat) (l0_0 : List (S30)) (A1_0 : Option Addr) (c1_0 : Nat) (l1_0 : List (S30)) (r : List (S30)) (w : World) (hr0_0 : Kd.C k30 w A0_0 l0_0.length l0_0) (hc0_0 : l0_0.length ≤ c0_0) (hr1_0 : Kd.C k30 w A1_0 l1_0.length l1_0) (hc1_0 : l1_0.length ≤ c1_0) (h : impl_typePair.f k l0_0 l1_0 = some r) :
  Calls Try.prog 79 #[.agg #[.slice A0_0 l0_0.length c0_0], .agg #[.slice A1_0 l1_0.length c1_0]] w fun e w' => ∃ v0_ : Value, e = .returned (.agg #[v0_]) ∧ Kd.N k30 30 w' w.heap.size (fun k_ => (w.heap.size ≤ k_)) v0_ r ∧ Below w.heap.size w w' := impl_typePair.Fcalls (impl_typeCopy.f k) (impl_typeCopy.calls k) k A0_0 c0_0 l0_0 A1_0 c1_0 l1_0 r w hr0_0 hc0_0 hr1_0 hc1_0 h
end Go.Proofs.Ytjhbhihfifhljaa.PA
end
section
namespace Go.Proofs.Ytjhbhihfifhljaa.PA
open Go.RowKit Go.Proofs.YtjhbhihfifhljaaW.PrintWords Go.Proofs.YtjhbhihfifhljaaW.PrintLast Go.Proofs.YtjhbhihfifhljaaW.PrintMore
attribute [local go_sem] max2_int min2_int max_two min_two max_three min_three max_four min_four
set_option linter.unusedVariables false
set_option linter.unusedSimpArgs false
def impl_TypeAt.f (k : Nat) (l0_0 : List (S30)) (l1 : List Int) : Option ((List (S30)) × Bool) := (impl_TypeOk.f k l0_0).bind fun t272 => (if t272 = true then ((impl_Type.f k l0_0 l1).bind fun bt273 => (if bt273.2 = true then ((impl_typeCopy.f k bt273.1).bind fun t278 => (some (t278, true))) else (some (([] : List (S30)), false)))) else (some (([] : List (S30)), false)))
theorem impl_TypeAt.mono : ∀ a0 a1 k, LeO (impl_TypeAt.f k a0 a1) (impl_TypeAt.f (k + 1) a0 a1) := by
 intro a0 a1 k
 unfold impl_TypeAt.f
 repeat' first
   | (with_reducible exact impl_Type.mono _ _ _)
   | (with_reducible exact impl_TypeOk.mono _ _)
   | (with_reducible exact impl_typeCopy.mono _ _)
   | (with_reducible exact LeO.refl _)
   | (with_reducible exact LeO.none _)
   | (with_reducible refine LeO.ite ?_ ?_)
   | (with_reducible refine LeO.bind ?_ (fun _ => ?_))
   | exact impl_Type.mono _ _ _
   | exact impl_TypeOk.mono _ _
   | exact impl_typeCopy.mono _ _
   | exact LeO.none _
   | refine LeO.ite ?_ ?_
   | refine LeO.bind ?_ (fun _ => ?_)
set_option maxHeartbeats 8000000 in
set_option maxRecDepth 100000 in
theorem impl_TypeAt.calls (k : Nat) (P0_0_ : Nat → Prop) (A0_0 : Option Addr) (c0_0 : Nat) (l0_0 : List (S30)) (A1 : Option Addr) (c1 : Nat) (l1 : List Int) (r1 : List (S30)) (r2 : Bool) (w : World) (hs0_0 : Kd.V k30 30 w w.heap.size (fun k_ => P0_0_ k_) (.slice A0_0 l0_0.length c0_0) l0_0) (hr1 : Kd.C (Kd.int .i64) w A1 l1.length l1) (hc1 : l1.length ≤ c1) (h : impl_TypeAt.f k l0_0 l1 = some (r1, r2)) :
  Calls Try.prog 21 #[.agg #[.slice A0_0 l0_0.length c0_0], .slice A1 l1.length c1] w fun e w' => ∃ v0_ : Value, e = .returned (.tuple #[.agg #[v0_], .bool r2]) ∧ Kd.N k30 30 w' w.heap.size (fun k_ => (P0_0_ k_ ∨ w.heap.size ≤ k_)) v0_ r1 ∧ Below w.heap.size w w' := by
 have hu30 := Try.underlying30
 have HO0_0 := Aside0.mk (show Kd.V k30 30 w w.heap.size (fun k_ => (P0_0_ k_ ∨ w.heap.size ≤ k_)) (.slice A0_0 l0_0.length c0_0) l0_0 from Kd.V_mono hs0_0 (fun k_ hk => .inl hk))
 have HR1 := Aside0.mk hr1
 have HC1 := Aside0.mk hc1
 clear hr1 hc1
 have HB := Aside0.mk (Below.refl w.heap.size w)
 have H : ((impl_TypeOk.f k l0_0).bind fun t272 => (if t272 = true then ((impl_Type.f k l0_0 l1).bind fun bt273 => (if bt273.2 = true then ((impl_typeCopy.f k bt273.1).bind fun t278 => (some (t278, true))) else (some (([] : List (S30)), false)))) else (some (([] : List (S30)), false)))) = some (r1, r2) := h
 clear h
 obtain ⟨t272, A30, H⟩ := ob H
 have A3 := Aside0.mk A30
 clear A30
 by_cases c4 : t272 = true
 ·subst c4
  rw [if_pos rfl] at H
  obtain ⟨⟨t273, t276⟩, A50, H⟩ := ob H
  have A5 := Aside0.mk A50
  clear A50
  by_cases c6 : t276 = true
  ·subst c6
   rw [if_pos rfl] at H
   obtain ⟨t278, A70, H⟩ := ob H
   have A7 := Aside0.mk A70
   clear A70
   simp only [Option.some.injEq, Prod.mk.injEq] at H
   obtain ⟨rfl, rfl⟩ := H
   go_enter Try.func21, Try.ntmps21
   go_wp2_with (first | ((with_reducible refine gate_dst (N := 2) rfl ?_); refine zbx 2 #[.slice A0_0 l0_0.length c0_0] 30 ?_; intro gb270 hg w8 hbox hb; replace HO0_0 := Aside0.mk (Kd.V_below (Kd.V_elderB (y13 HO0_0.out) gb270 (Nat.le_of_eq hg.symm)) hb); have BK270 := Aside0.mk hbox; have GW270 := Aside0.mk ((y5 hg HB.out : w.heap.size ≤ gb270)); have GE270 := Aside0.mk ((y5 hg HB.out : w.heap.size ≤ gb270)); replace HB := Aside0.mk (below_step (y2 HB.out) hb); clear hb hbox hg) | ((with_reducible refine gate_dst (N := 4) rfl ?_); refine zbx 4 #[.slice none 0 0] 30 ?_; intro gb271 hg w9 hbox hb; replace HO0_0 := Aside0.mk (Kd.V_below (Kd.V_elderB (y13 HO0_0.out) gb271 (Nat.le_of_eq hg.symm)) hb); have BK271 := Aside0.mk hbox; have GW271 := Aside0.mk ((y6 hg HB.out GE270.out : w.heap.size ≤ gb271)); have GE271 := Aside0.mk ((y6 hg HB.out GE270.out : w.heap.size ≤ gb271)); replace HB := Aside0.mk (below_step (y3 HB.out GE270.out) hb); have NB270_271 := zltn hg BK270; have NB271_270 := zgtn hg BK270; replace BK270 := zbb BK270 hb; clear hb hbox hg; have hnb10 := NB270_271.out; have hnc10 := NB271_270.out; have hcz11_0 := zh BK270; have hfz11_0 := zfr BK270 0) | ((with_reducible refine gate_callee (f := 18) rfl ?_); refine goesL_ (some 9) rfl rfl Try.func18 (by kernel_rfl) rfl #[.agg #[.slice A0_0 l0_0.length c0_0]] rfl y4 ?_; (with_reducible refine (impl_TypeOk.calls k _ _ l0_0 true _ ?side1 ?side2 A3.out).mono ?_); (case side1 => exact y31 HO0_0.out); (case side2 => exact (Kd.V_reads' HO0_0.out).2.1); rintro e w12 ⟨rfl, hb⟩; refine ⟨_, rfl, ?_⟩; replace HO0_0 := Aside0.mk (Kd.V_below (y13 HO0_0.out) hb); replace BK270 := zbb BK270 hb; replace BK271 := zbb BK271 hb; replace HB := Aside0.mk (below_step (y1 HB.out GE270.out GE271.out) hb); (try clear hb); (try clear hb2); (try clear hk); (try clear hi); have hcz13_0 := zh BK270; have hfz13_0 := zfr BK270 0) | ((with_reducible refine gate_callee (f := 53) rfl ?_); refine goesL_ (some 15) rfl rfl Try.func53 (by kernel_rfl) rfl #[.agg #[.slice A0_0 l0_0.length c0_0], .slice A1 l1.length c1] rfl y4 ?_; (with_reducible refine (impl_Type.calls k (fun k_ => (((P0_0_ k_ ∨ w.heap.size ≤ k_) ∧ k_ ≠ gb270) ∧ k_ ≠ gb271)) _ _ l0_0 _ _ l1 t273 true _ ?side1 ?side2 ?side3 A5.out).mono ?_); (case side1 => exact HO0_0.out); (case side2 => exact y8 HR1.out HB.out); (case side3 => exact HC1.out); rintro e w14 ⟨v274, rfl, ho0, hb⟩; refine ⟨_, rfl, ?_⟩; replace HO0_0 := Aside0.mk (Kd.V_below (y13 HO0_0.out) hb); have HO275 := Aside0.mk (Kd.V_lower (Kd.V_mono (ok' := fun k_ => (P0_0_ k_ ∨ w.heap.size ≤ k_) ∧ k_ ≠ gb270 ∧ k_ ≠ gb271) ho0 (fun k_ hk_ => ⟨Or.elim hk_ (fun hs_ => hs_.1.1) (fun hn_ => (.inr (Nat.le_trans (below_size (y1 HB.out GE270.out GE271.out)) hn_))), Or.elim hk_ (fun hs_ => hs_.1.2) (fun hn_ => (Kd.freshB (g := gb270) (o := .cells #[.slice A0_0 l0_0.length c0_0] 30 (0, 0)) (y0 BK270.out) k_ hn_)), Or.elim hk_ (fun hs_ => hs_.2) (fun hn_ => (Kd.freshB (g := gb271) (o := .cells #[.slice none 0 0] 30 (0, 0)) (y0 BK271.out) k_ hn_))⟩)) (below_size (y1 HB.out GE270.out GE271.out))); replace BK270 := zbb BK270 hb; replace BK271 := zbb BK271 hb; replace HB := Aside0.mk (below_step (y1 HB.out GE270.out GE271.out) hb); (try clear hb); (try clear hb2); (try clear hk); (try clear hi); (try clear ho0)) | ((with_reducible refine gate_dst (N := 6) rfl ?_); refine zbx 6 #[.slice none 0 0] 30 ?_; intro gb277 hg w15 hbox hb; replace HO0_0 := Aside0.mk (Kd.V_below (Kd.V_elderB (y13 HO0_0.out) gb277 (Nat.le_of_eq hg.symm)) hb); replace HO275 := Aside0.mk (Kd.V_below (Kd.V_elderB (y13 HO275.out) gb277 (Nat.le_of_eq hg.symm)) hb); have BK277 := Aside0.mk hbox; have GW277 := Aside0.mk ((y20 hg HB.out GE270.out GE271.out : w.heap.size ≤ gb277)); have GE277 := Aside0.mk ((y20 hg HB.out GE270.out GE271.out : w.heap.size ≤ gb277)); replace HB := Aside0.mk (below_step (y1 HB.out GE270.out GE271.out) hb); have NB270_277 := zltn hg BK270; have NB277_270 := zgtn hg BK270; replace BK270 := zbb BK270 hb; have NB271_277 := zltn hg BK271; have NB277_271 := zgtn hg BK271; replace BK271 := zbb BK271 hb; clear hb hbox hg; obtain ⟨Ao16, co16, eo16⟩ := Kd.V_slice HO275.out; subst eo16; have hnb17 := NB277_270.out; have hnc17 := NB270_277.out; have hnb18 := NB277_271.out; have hnc18 := NB271_277.out; have hcz19_0 := zh BK277; have hfz19_0 := zfr BK277 0) | ((with_reducible refine gate_callee (f := 54) rfl ?_); refine goesL_ (some 22) rfl rfl Try.func54 (by kernel_rfl) rfl #[.agg #[.slice Ao16 t273.length co16]] rfl y4 ?_; (with_reducible refine (impl_typeCopy.calls k _ _ t273 t278 _ ?side1 ?side2 A7.out).mono ?_); (case side1 => refine (Kd.V_reads' (e := 30) (base := w.heap.size) (ok := fun k_ => (((P0_0_ k_ ∨ w.heap.size ≤ k_) ∧ (k_ ≠ gb270 ∧ k_ ≠ gb271)) ∧ k_ ≠ gb277)) (n := t273.length) (c := co16) ?_).2.2; exact (by (with_reducible repeat (first | apply Kd.V_alloc | apply Kd.V_drewN | apply Kd.V_drew)); exact (Kd.V_mono (Kd.V_far (p := ⟨gb277, 0, none⟩) (Kd.V_mono HO275.out (fun k_ hk => (⟨hk, hk.2⟩ : _ ∧ k_ ≠ gb277))) (fun _ hk => hk.2) (.slice Ao16 t273.length co16)) (fun _ h_ => h_.1)))); (case side2 => exact (Kd.V_reads' HO275.out).2.1); rintro e w20 ⟨v279, rfl, ho0, hb⟩; refine ⟨_, rfl, ?_⟩; replace HO0_0 := Aside0.mk (Kd.V_elder' (by (with_reducible repeat (first | apply Kd.V_alloc | apply Kd.V_drewN | apply Kd.V_drew)); exact (Kd.V_mono (Kd.V_far (p := ⟨gb277, 0, none⟩) (Kd.V_mono HO0_0.out (fun k_ hk => (⟨hk, hk.2⟩ : _ ∧ k_ ≠ gb277))) (fun _ hk => hk.2) (.slice Ao16 t273.length co16)) (fun _ h_ => h_.1))) (Kd.N_base ho0) hb); replace HO275 := Aside0.mk (Kd.V_elder' (by (with_reducible repeat (first | apply Kd.V_alloc | apply Kd.V_drewN | apply Kd.V_drew)); exact (Kd.V_mono (Kd.V_far (p := ⟨gb277, 0, none⟩) (Kd.V_mono HO275.out (fun k_ hk => (⟨hk, hk.2⟩ : _ ∧ k_ ≠ gb277))) (fun _ hk => hk.2) (.slice Ao16 t273.length co16)) (fun _ h_ => h_.1))) (Kd.N_base ho0) hb); have HO280 := Aside0.mk (Kd.N_lower (Kd.N_mono (ok' := fun k_ => (P0_0_ k_ ∨ w.heap.size ≤ k_) ∧ k_ ≠ gb270 ∧ k_ ≠ gb271 ∧ k_ ≠ gb277) ho0 (fun k_ hk_ => ⟨(.inr (Nat.le_trans (below_size (y7 HB.out GE270.out GE271.out GE277.out)) hk_)), (Kd.freshB (g := gb270) (o := .cells #[.slice A0_0 l0_0.length c0_0] 30 (0, 0)) (y21 NB270_277.out BK270.out) k_ hk_), (Kd.freshB (g := gb271) (o := .cells #[.slice none 0 0] 30 (0, 0)) (y21 NB271_277.out BK271.out) k_ hk_), (Kd.freshB (g := gb277) (o := .cells #[.slice Ao16 t273.length co16] 30 (0, 0)) (by (with_reducible repeat (first | refine blk_drewN ?_ _ | refine blk_drew ?_ | refine blk_alloc ?_ _)); apply blk_put (i := 0); (case h => exact y0 BK277.out); (case e => rfl)) k_ hk_)⟩)) (below_size (y7 HB.out GE270.out GE271.out GE277.out))); replace BK270 := zbf BK270 NB270_277 hb; replace BK271 := zbf BK271 NB271_277 hb; replace BK277 := Aside0.mk (blk_below (g := gb277) (o := .cells #[.slice Ao16 t273.length co16] 30 (0, 0)) (by (with_reducible repeat (first | refine blk_drewN ?_ _ | refine blk_drew ?_ | refine blk_alloc ?_ _)); apply blk_put (i := 0); (case h => exact y0 BK277.out); (case e => rfl)) hb); replace HB := Aside0.mk (below_step (y7 HB.out GE270.out GE271.out GE277.out) hb); (try clear hb); (try clear hb2); (try clear hk); (try clear hi); (try clear ho0); obtain ⟨Ao21, co21, eo21⟩ := Kd.N_slice HO280.out; subst eo21; have hcz22_0 := zh BK271; have hfz22_0 := zfr BK271 0))
   refine bodyPost_ret (results_ct rfl _ _ gb271 30 #[.slice Ao21 t278.length co21] (0, 0) _ rfl (by (with_reducible repeat (first | refine blk_drewN ?_ _ | refine blk_drew ?_ | refine blk_alloc ?_ _)); apply blk_put (i := 0); (case h => exact y0 BK271.out); (case e => rfl)) Try.underlying30 rfl (by kernel_rfl)) rfl ?_
   exact ⟨_, y14, (by (with_reducible repeat (first | apply Kd.N_alloc | apply Kd.N_drewN | apply Kd.N_drew)); exact Kd.N_mono (Kd.N_far (p := ⟨gb271, 0, none⟩) (Kd.N_mono HO280.out (fun k_ hk => (⟨hk, hk.2.2.1⟩ : _ ∧ k_ ≠ gb271))) (fun _ hk => hk.2) (.slice Ao21 t278.length co21)) (fun _ hk => hk.1.1)), (y7 HB.out GE270.out GE271.out GE277.out)⟩
  ·replace c6 := Bool.eq_false_iff.mpr c6
   subst c6
   rw [if_neg (show ¬ (false = true) by decide)] at H
   simp only [Option.some.injEq, Prod.mk.injEq] at H
   obtain ⟨rfl, rfl⟩ := H
   go_enter Try.func21, Try.ntmps21
   go_wp2_with (first | ((with_reducible refine gate_dst (N := 2) rfl ?_); refine zbx 2 #[.slice A0_0 l0_0.length c0_0] 30 ?_; intro gb270 hg w23 hbox hb; replace HO0_0 := Aside0.mk (Kd.V_below (Kd.V_elderB (y13 HO0_0.out) gb270 (Nat.le_of_eq hg.symm)) hb); have BK270 := Aside0.mk hbox; have GW270 := Aside0.mk ((y5 hg HB.out : w.heap.size ≤ gb270)); have GE270 := Aside0.mk ((y5 hg HB.out : w.heap.size ≤ gb270)); replace HB := Aside0.mk (below_step (y2 HB.out) hb); clear hb hbox hg) | ((with_reducible refine gate_dst (N := 4) rfl ?_); refine zbx 4 #[.slice none 0 0] 30 ?_; intro gb271 hg w24 hbox hb; replace HO0_0 := Aside0.mk (Kd.V_below (Kd.V_elderB (y13 HO0_0.out) gb271 (Nat.le_of_eq hg.symm)) hb); have BK271 := Aside0.mk hbox; have GW271 := Aside0.mk ((y6 hg HB.out GE270.out : w.heap.size ≤ gb271)); have GE271 := Aside0.mk ((y6 hg HB.out GE270.out : w.heap.size ≤ gb271)); replace HB := Aside0.mk (below_step (y3 HB.out GE270.out) hb); have NB270_271 := zltn hg BK270; have NB271_270 := zgtn hg BK270; replace BK270 := zbb BK270 hb; clear hb hbox hg; have hnb25 := NB270_271.out; have hnc25 := NB271_270.out; have hcz26_0 := zh BK270; have hfz26_0 := zfr BK270 0) | ((with_reducible refine gate_callee (f := 18) rfl ?_); refine goesL_ (some 9) rfl rfl Try.func18 (by kernel_rfl) rfl #[.agg #[.slice A0_0 l0_0.length c0_0]] rfl y4 ?_; (with_reducible refine (impl_TypeOk.calls k _ _ l0_0 true _ ?side1 ?side2 A3.out).mono ?_); (case side1 => exact y31 HO0_0.out); (case side2 => exact (Kd.V_reads' HO0_0.out).2.1); rintro e w27 ⟨rfl, hb⟩; refine ⟨_, rfl, ?_⟩; replace HO0_0 := Aside0.mk (Kd.V_below (y13 HO0_0.out) hb); replace BK270 := zbb BK270 hb; replace BK271 := zbb BK271 hb; replace HB := Aside0.mk (below_step (y1 HB.out GE270.out GE271.out) hb); (try clear hb); (try clear hb2); (try clear hk); (try clear hi); have hcz28_0 := zh BK270; have hfz28_0 := zfr BK270 0) | ((with_reducible refine gate_callee (f := 53) rfl ?_); refine goesL_ (some 15) rfl rfl Try.func53 (by kernel_rfl) rfl #[.agg #[.slice A0_0 l0_0.length c0_0], .slice A1 l1.length c1] rfl y4 ?_; (with_reducible refine (impl_Type.calls k (fun k_ => (((P0_0_ k_ ∨ w.heap.size ≤ k_) ∧ k_ ≠ gb270) ∧ k_ ≠ gb271)) _ _ l0_0 _ _ l1 t273 false _ ?side1 ?side2 ?side3 A5.out).mono ?_); (case side1 => exact HO0_0.out); (case side2 => exact y8 HR1.out HB.out); (case side3 => exact HC1.out); rintro e w29 ⟨v274, rfl, ho0, hb⟩; refine ⟨_, rfl, ?_⟩; replace HO0_0 := Aside0.mk (Kd.V_below (y13 HO0_0.out) hb); have HO275 := Aside0.mk (Kd.V_lower (Kd.V_mono (ok' := fun k_ => (P0_0_ k_ ∨ w.heap.size ≤ k_) ∧ k_ ≠ gb270 ∧ k_ ≠ gb271) ho0 (fun k_ hk_ => ⟨Or.elim hk_ (fun hs_ => hs_.1.1) (fun hn_ => (.inr (Nat.le_trans (below_size (y1 HB.out GE270.out GE271.out)) hn_))), Or.elim hk_ (fun hs_ => hs_.1.2) (fun hn_ => (Kd.freshB (g := gb270) (o := .cells #[.slice A0_0 l0_0.length c0_0] 30 (0, 0)) (y0 BK270.out) k_ hn_)), Or.elim hk_ (fun hs_ => hs_.2) (fun hn_ => (Kd.freshB (g := gb271) (o := .cells #[.slice none 0 0] 30 (0, 0)) (y0 BK271.out) k_ hn_))⟩)) (below_size (y1 HB.out GE270.out GE271.out))); replace BK270 := zbb BK270 hb; replace BK271 := zbb BK271 hb; replace HB := Aside0.mk (below_step (y1 HB.out GE270.out GE271.out) hb); (try clear hb); (try clear hb2); (try clear hk); (try clear hi); (try clear ho0)) | ((with_reducible refine gate_dst (N := 6) rfl ?_); refine zbx 6 #[.slice none 0 0] 30 ?_; intro gb277 hg w30 hbox hb; replace HO0_0 := Aside0.mk (Kd.V_below (Kd.V_elderB (y13 HO0_0.out) gb277 (Nat.le_of_eq hg.symm)) hb); replace HO275 := Aside0.mk (Kd.V_below (Kd.V_elderB (y13 HO275.out) gb277 (Nat.le_of_eq hg.symm)) hb); have BK277 := Aside0.mk hbox; have GW277 := Aside0.mk ((y20 hg HB.out GE270.out GE271.out : w.heap.size ≤ gb277)); have GE277 := Aside0.mk ((y20 hg HB.out GE270.out GE271.out : w.heap.size ≤ gb277)); replace HB := Aside0.mk (below_step (y1 HB.out GE270.out GE271.out) hb); have NB270_277 := zltn hg BK270; have NB277_270 := zgtn hg BK270; replace BK270 := zbb BK270 hb; have NB271_277 := zltn hg BK271; have NB277_271 := zgtn hg BK271; replace BK271 := zbb BK271 hb; clear hb hbox hg; obtain ⟨Ao31, co31, eo31⟩ := Kd.V_slice HO275.out; subst eo31; have hnb32 := NB277_270.out; have hnc32 := NB270_277.out; have hnb33 := NB277_271.out; have hnc33 := NB271_277.out; have hcz34_0 := zh BK277; have hfz34_0 := zfr BK277 0; have hcz35_0 := zh BK271; have hfz35_0 := zfr BK271 0))
   refine bodyPost_ret (results_ct rfl _ _ gb271 30 #[.slice none 0 0] (0, 0) _ rfl (by (with_reducible repeat (first | refine blk_drewN ?_ _ | refine blk_drew ?_ | refine blk_alloc ?_ _)); refine blk_put (cs := #[.slice none 0 0]) ?_ 0 _ rfl; (with_reducible repeat (first | refine blk_drewN ?_ _ | refine blk_drew ?_ | refine blk_alloc ?_ _)); refine blk_far ?_ NB271_277.out _; (with_reducible repeat (first | refine blk_drewN ?_ _ | refine blk_drew ?_ | refine blk_alloc ?_ _)); exact BK271.out) Try.underlying30 rfl (by kernel_rfl)) rfl ?_
   exact ⟨_, y14, y36, (y7 HB.out GE270.out GE271.out GE277.out)⟩
 ·replace c4 := Bool.eq_false_iff.mpr c4
  subst c4
  rw [if_neg (show ¬ (false = true) by decide)] at H
  simp only [Option.some.injEq, Prod.mk.injEq] at H
  obtain ⟨rfl, rfl⟩ := H
  go_enter Try.func21, Try.ntmps21
  go_wp2_with (first | ((with_reducible refine gate_dst (N := 2) rfl ?_); refine zbx 2 #[.slice A0_0 l0_0.length c0_0] 30 ?_; intro gb270 hg w36 hbox hb; replace HO0_0 := Aside0.mk (Kd.V_below (Kd.V_elderB (y13 HO0_0.out) gb270 (Nat.le_of_eq hg.symm)) hb); have BK270 := Aside0.mk hbox; have GW270 := Aside0.mk ((y5 hg HB.out : w.heap.size ≤ gb270)); have GE270 := Aside0.mk ((y5 hg HB.out : w.heap.size ≤ gb270)); replace HB := Aside0.mk (below_step (y2 HB.out) hb); clear hb hbox hg) | ((with_reducible refine gate_dst (N := 4) rfl ?_); refine zbx 4 #[.slice none 0 0] 30 ?_; intro gb271 hg w37 hbox hb; replace HO0_0 := Aside0.mk (Kd.V_below (Kd.V_elderB (y13 HO0_0.out) gb271 (Nat.le_of_eq hg.symm)) hb); have BK271 := Aside0.mk hbox; have GW271 := Aside0.mk ((y6 hg HB.out GE270.out : w.heap.size ≤ gb271)); have GE271 := Aside0.mk ((y6 hg HB.out GE270.out : w.heap.size ≤ gb271)); replace HB := Aside0.mk (below_step (y3 HB.out GE270.out) hb); have NB270_271 := zltn hg BK270; have NB271_270 := zgtn hg BK270; replace BK270 := zbb BK270 hb; clear hb hbox hg; have hnb38 := NB270_271.out; have hnc38 := NB271_270.out; have hcz39_0 := zh BK270; have hfz39_0 := zfr BK270 0) | ((with_reducible refine gate_callee (f := 18) rfl ?_); refine goesL_ (some 9) rfl rfl Try.func18 (by kernel_rfl) rfl #[.agg #[.slice A0_0 l0_0.length c0_0]] rfl y4 ?_; (with_reducible refine (impl_TypeOk.calls k _ _ l0_0 false _ ?side1 ?side2 A3.out).mono ?_); (case side1 => exact y31 HO0_0.out); (case side2 => exact (Kd.V_reads' HO0_0.out).2.1); rintro e w40 ⟨rfl, hb⟩; refine ⟨_, rfl, ?_⟩; replace HO0_0 := Aside0.mk (Kd.V_below (y13 HO0_0.out) hb); replace BK270 := zbb BK270 hb; replace BK271 := zbb BK271 hb; replace HB := Aside0.mk (below_step (y1 HB.out GE270.out GE271.out) hb); (try clear hb); (try clear hb2); (try clear hk); (try clear hi); have hcz41_0 := zh BK271; have hfz41_0 := zfr BK271 0))
  refine bodyPost_ret (results_ct rfl _ _ gb271 30 #[.slice none 0 0] (0, 0) _ rfl (by (with_reducible repeat (first | refine blk_drewN ?_ _ | refine blk_drew ?_ | refine blk_alloc ?_ _)); apply blk_put (i := 0); (case h => exact y0 BK271.out); (case e => rfl)) Try.underlying30 rfl (by kernel_rfl)) rfl ?_
  exact ⟨_, y14, y36, (y1 HB.out GE270.out GE271.out)⟩
end Go.Proofs.Ytjhbhihfifhljaa.PA
end
section
namespace Go.Proofs.Ytjhbhihfifhljaa.PA
open Go.RowKit Go.Proofs.YtjhbhihfifhljaaW.PrintWords Go.Proofs.YtjhbhihfifhljaaW.PrintLast Go.Proofs.YtjhbhihfifhljaaW.PrintMore
attribute [local go_sem] max2_int min2_int max_two min_two max_three min_three max_four min_four
set_option linter.unusedVariables false
set_option linter.unusedSimpArgs false
def laws_toIntS.l0 : Nat → List Int → List Int → Int → Option (List Int)
 | 0, _, _, _ => none
 | k + 1, x0, x3, x4 => if x4 < (x0.length : Int) then (if 0 ≤ x4 then (if x4 < (x3.length : Int) then (laws_toIntS.l0 k x0 (x3.set (x4 : Int).toNat (rd x0 x4)) (wrap64 (x4 + 1))) else (none)) else (none)) else (some x3)
def laws_toIntS.f (k : Nat) (l0 : List Int) : Option (List Int) := if 0 ≤ (l0.length : Int) then (if ((l0.length : Int) : Int).toNat ≤ 35184372088832 then (laws_toIntS.l0 k l0 (List.replicate ((l0.length : Int) : Int).toNat 0) 0) else (none)) else (none)
theorem laws_toIntS.mono_l : ∀ k, (∀ y0 y1 y2, LeO (laws_toIntS.l0 k y0 y1 y2) (laws_toIntS.l0 (k + 1) y0 y1 y2))
 | 0 => fun _ _ _ r h => by simp [laws_toIntS.l0] at h
 | k + 1 => by
  have ih0 := laws_toIntS.mono_l k
  ·intro y0 y1 y2
   unfold laws_toIntS.l0
   repeat' first
   | (with_reducible exact ih0 _ _ _)
   | (with_reducible exact LeO.refl _)
   | (with_reducible exact LeO.none _)
   | (with_reducible refine LeO.ite ?_ ?_)
   | (with_reducible refine LeO.bind ?_ (fun _ => ?_))
   | exact ih0 _ _ _
   | exact LeO.none _
   | refine LeO.ite ?_ ?_
   | refine LeO.bind ?_ (fun _ => ?_)
theorem laws_toIntS.mono : ∀ a0 k, LeO (laws_toIntS.f k a0) (laws_toIntS.f (k + 1) a0) := by
 intro a0 k
 have ih0 := laws_toIntS.mono_l k
 unfold laws_toIntS.f
 repeat' first
   | (with_reducible exact ih0 _ _ _)
   | (with_reducible exact LeO.refl _)
   | (with_reducible exact LeO.none _)
   | (with_reducible refine LeO.ite ?_ ?_)
   | (with_reducible refine LeO.bind ?_ (fun _ => ?_))
   | exact ih0 _ _ _
   | exact LeO.none _
   | refine LeO.ite ?_ ?_
   | refine LeO.bind ?_ (fun _ => ?_)
set_option maxHeartbeats 8000000 in
set_option maxRecDepth 100000 in
theorem laws_toIntS.calls (k : Nat) (A0 : Option Addr) (c0 : Nat) (l0 : List Int) (r : List Int) (w : World) (hr0 : Kd.C (Kd.int .i64) w A0 l0.length l0) (hc0 : l0.length ≤ c0) (h : laws_toIntS.f k l0 = some r) :
  Calls Try.prog 37 #[.slice A0 l0.length c0] w fun e w' => ∃ v0_ : Value, e = .returned (v0_) ∧ Kd.R (Kd.int .i64) 3 w' w.heap.size (fun _ => True) v0_ r ∧ Below w.heap.size w w' := by
 have HR0 := Aside0.mk hr0
 have HC0 := Aside0.mk hc0
 clear hr0 hc0
 have HB := Aside0.mk (Below.refl w.heap.size w)
 have H : (if 0 ≤ (l0.length : Int) then (if ((l0.length : Int) : Int).toNat ≤ 35184372088832 then (laws_toIntS.l0 k l0 (List.replicate ((l0.length : Int) : Int).toNat 0) 0) else (none)) else (none)) = some r := h
 clear h
 by_cases c2 : 0 ≤ (l0.length : Int)
 ·rw [if_pos c2] at H
  have c2b0 := eq_true c2
  have c2b1 : decide (0 ≤ (l0.length : Int)) = true := decide_eq_true c2
  clear c2
  by_cases c3 : ((l0.length : Int) : Int).toNat ≤ 35184372088832
  ·rw [if_pos c3] at H
   have c3b0 := eq_true c3
   have c3b1 : decide (((l0.length : Int) : Int).toNat ≤ 35184372088832) = true := decide_eq_true c3
   clear c3
   obtain ⟨y483, hy483⟩ : ∃ y_ : List Int, y_ = (List.replicate ((l0.length : Int) : Int).toNat 0) := ⟨_, rfl⟩
   replace H : (laws_toIntS.l0 k l0 y483 0) = some r := by first | (rw [hy483]; with_reducible exact H) | (have H2_ := (Option.bind_some _ _).symm.trans H; rw [hy483]; with_reducible exact H2_) | (have H2_ := (Option.bind_some _ _).symm.trans H; with_reducible exact H2_) | with_reducible exact H | (rw [hy483]; exact H) | exact H
   have Ny483 := Aside0.mk hy483
   clear hy483
   have H' := Aside0.mk H
   clear H
   go_enter Try.func37, Try.ntmps37
   go_wp2_with (first | ((with_reducible refine gate_dst (N := 7) rfl ?_); refine Kd.R_make (Kd.int .i64) _ 3 rfl (N := 7) rfl 38 _ _ rfl (l0.length : Int) rfl rfl Try.underlying38 (.int .i64 0) 8 info3 rfl (by decide) (by omega) 0 (ok := fun _ => True) (okp := fun _ => True) rfl (fun _ hk => hk) trivial (of_decide_eq_true y19) (Nat.le_trans (Nat.mul_le_mul_right _ (of_decide_eq_true y19 : (l0.length : Int).toNat ≤ 35184372088832)) (by omega)) (Below.refl _ _) (Nat.le_refl _) ?_; intro v484 w4 ho5 hb hg_ hnew_; clear hg_ hnew_; (first | rw [← Ny483.out] at ho5 | (simp only [Int.reduceToNat] at ho5; rw [← Ny483.out] at ho5)); have HO485 := Aside0.mk (Kd.R_lower ho5 (below_size (y2 HB.out))); replace HB := Aside0.mk (below_step (y2 HB.out) hb); clear hb ho5))
   go_loopg [4] k (fun kq v4 w' => ∃ (x3_1 : List Int) (x4_1 : Int), v4 = .int .i64 x4_1 ∧ Aside0 (laws_toIntS.l0 kq l0 x3_1 x4_1 = some r) ∧ Aside0 (kq ≤ k) ∧ Aside0 (Kd.R (Kd.int .i64) 3 w' w.heap.size (fun _ => True) v484 x3_1) ∧ Aside0 (Below w.heap.size w w'))
   case atStart => exact ⟨(y483), (0), y26, H', ⟨Nat.le_refl _⟩, ⟨(y10 HO485.out)⟩, ⟨(y2 HB.out)⟩⟩
   case round =>
    clear H'
    try clear c2
    try clear c2b0
    try clear c2b1
    try clear p2
    try clear c3
    try clear c3b0
    try clear c3b1
    obtain ⟨x3_1, x4_1, rfl, HA, HK1, HO_3, HB⟩ := hrel
    cases gk with
    | zero => exact absurd HA.out (by simp [laws_toIntS.l0])
    | succ k1 =>
     have H := HA.out
     clear HA
     simp only [laws_toIntS.l0] at H
     by_cases c6 : x4_1 < (l0.length : Int)
     ·rw [if_pos c6] at H
      have c6b0 : decide (x4_1 < (l0.length : Int)) = true := decide_eq_true c6
      clear c6
      by_cases c7 : 0 ≤ x4_1
      ·rw [if_pos c7] at H
       have c7b0 : decide (0 ≤ x4_1) = true := decide_eq_true c7
       clear c7
       by_cases c8 : x4_1 < (x3_1.length : Int)
       ·rw [if_pos c8] at H
        have c8b0 : decide (x4_1 < (x3_1.length : Int)) = true := decide_eq_true c8
        clear c8
        obtain ⟨y487, hy487⟩ : ∃ y_ : List Int, y_ = (x3_1.set (x4_1 : Int).toNat (rd l0 x4_1)) := ⟨_, rfl⟩
        replace H : (laws_toIntS.l0 k1 l0 y487 (wrap64 (x4_1 + 1))) = some r := by first | (rw [hy487]; with_reducible exact H) | (have H2_ := (Option.bind_some _ _).symm.trans H; rw [hy487]; with_reducible exact H2_) | (have H2_ := (Option.bind_some _ _).symm.trans H; with_reducible exact H2_) | with_reducible exact H | (rw [hy487]; exact H) | exact H
        have Ny487 := Aside0.mk hy487
        clear hy487
        have H' := Aside0.mk H
        clear H
        have p486 : 0 ≤ (x4_1 : Int) := of_decide_eq_true y19
        have q486 : x4_1 < (l0.length : Int) := of_decide_eq_true y19
        obtain ⟨ad486, e486, hx486_0⟩ := Kd.at_int HR0.out x4_1 p486 q486
        cases e486
        replace hx486_0 := (HB.out.cell (World.block_lt_of_cell? w _ hx486_0)).trans hx486_0
        replace p486 := eq_true p486
        replace q486 := eq_true q486
        have p9 : 0 ≤ (x4_1 : Int) := of_decide_eq_true y19
        have q9 : (x4_1 : Int) < ((x3_1.length : Int) : Int) := of_decide_eq_true y19
        obtain ⟨go9, co9, eo9, gb9, gl9, cl9, HG9⟩ := Kd.R_form HO_3.out (by omega)
        (first | cases eo9 | (injection eo9 with ea_ en_ ec_; (first | subst ea_ | (injection ea_ with ea_; subst ea_)); subst ec_; clear en_))
        have GB9 := Aside0.mk gb9
        have GG9 := Aside0.mk HG9
        clear gb9 gl9 HG9
        obtain ⟨hx9_0, hf9_0⟩ := Kd.R_celln 0 HO_3.out (x4_1 : Int) p9 q9
        replace p9 := eq_true p9
        replace q9 := eq_true q9
        have HP10 := Kd.R_putg HO_3.out (x4_1 : Int) (rd l0 x4_1)
        go_wp2_with (first | ((with_reducible refine gate_store (t := 3) (p := 20) rfl ?_); refine store_event (t := 3) (p := 20) (v := ?vo_w11) (w1 := (wr.setCell ⟨go9, (x4_1 : Int).toNat, none⟩ (.int .i64 (rd l0 x4_1)))) ?hg ?ho ?hn ?hr ?_; (case ho => rfl); (case hg => rfl); (case hn => rfl); (case hr => first | (go_simp; done) | (go_simp; rfl)); intro w11 hw; have hg : wr.grownBy w11 (some go9) := (by rw [hw]; exact HP10.2); have hp_ : Kd.R (Kd.int .i64) 3 w11 w.heap.size (fun _ => True) (.slice (some ⟨go9, 0, none⟩) x3_1.length co9) y487 := (by rw [hw, Ny487.out]; exact HP10.1); clear HP10; replace HO_3 := Aside0.mk (hp_); replace HB := Aside0.mk ((by rw [hw]; exact below_set (HB.out) GB9.out : Below w.heap.size w w11)); clear hg hw hp_))
        go_roundg k1
        case measure => have := HK1.out; omega
        case rel => exact ⟨(y487), (wrap64 (x4_1 + 1)), y26, H', ⟨(y46 HK1.out)⟩, ⟨(y10 HO_3.out)⟩, ⟨(y2 HB.out)⟩⟩
       ·rw [if_neg c8] at H
        exact absurd H (by simp)
      ·rw [if_neg c7] at H
       exact absurd H (by simp)
     ·rw [if_neg c6] at H
      have c6b0 : decide (x4_1 < (l0.length : Int)) = false := decide_eq_false c6
      clear c6
      obtain rfl := Option.some.inj H
      go_wp2
      go_ret
      exact ⟨_, y14, (y10 HO_3.out), (y2 HB.out)⟩
  ·rw [if_neg c3] at H
   exact absurd H (by simp)
 ·rw [if_neg c2] at H
  exact absurd H (by simp)
end Go.Proofs.Ytjhbhihfifhljaa.PA
end
section
namespace Go.Proofs.Ytjhbhihfifhljaa.PA
open Go.RowKit Go.Proofs.YtjhbhihfifhljaaW.PrintWords Go.Proofs.YtjhbhihfifhljaaW.PrintLast Go.Proofs.YtjhbhihfifhljaaW.PrintMore
attribute [local go_sem] max2_int min2_int max_two min_two max_three min_three max_four min_four
set_option linter.unusedVariables false
set_option linter.unusedSimpArgs false
def laws_eqIntS.l0 : Nat → List Int → List Int → Int → Option (Bool)
 | 0, _, _, _ => none
 | k + 1, x0, x1, x5 => if x5 < (x0.length : Int) then (if 0 ≤ x5 then (if x5 < (x1.length : Int) then (if (rd x0 x5) = (rd x1 x5) then (laws_eqIntS.l0 k x0 x1 (wrap64 (x5 + 1))) else (some false)) else (none)) else (none)) else (some true)
def laws_eqIntS.f (k : Nat) (l0 : List Int) (l1 : List Int) : Option (Bool) := if (l0.length : Int) = (l1.length : Int) then (laws_eqIntS.l0 k l0 l1 0) else (some false)
theorem laws_eqIntS.mono_l : ∀ k, (∀ y0 y1 y2, LeO (laws_eqIntS.l0 k y0 y1 y2) (laws_eqIntS.l0 (k + 1) y0 y1 y2))
 | 0 => fun _ _ _ r h => by simp [laws_eqIntS.l0] at h
 | k + 1 => by
  have ih0 := laws_eqIntS.mono_l k
  ·intro y0 y1 y2
   unfold laws_eqIntS.l0
   repeat' first
   | (with_reducible exact ih0 _ _ _)
   | (with_reducible exact LeO.refl _)
   | (with_reducible exact LeO.none _)
   | (with_reducible refine LeO.ite ?_ ?_)
   | (with_reducible refine LeO.bind ?_ (fun _ => ?_))
   | exact ih0 _ _ _
   | exact LeO.none _
   | refine LeO.ite ?_ ?_
   | refine LeO.bind ?_ (fun _ => ?_)
theorem laws_eqIntS.mono : ∀ a0 a1 k, LeO (laws_eqIntS.f k a0 a1) (laws_eqIntS.f (k + 1) a0 a1) := by
 intro a0 a1 k
 have ih0 := laws_eqIntS.mono_l k
 unfold laws_eqIntS.f
 repeat' first
   | (with_reducible exact ih0 _ _ _)
   | (with_reducible exact LeO.refl _)
   | (with_reducible exact LeO.none _)
   | (with_reducible refine LeO.ite ?_ ?_)
   | (with_reducible refine LeO.bind ?_ (fun _ => ?_))
   | exact ih0 _ _ _
   | exact LeO.none _
   | refine LeO.ite ?_ ?_
   | refine LeO.bind ?_ (fun _ => ?_)
set_option maxHeartbeats 8000000 in
set_option maxRecDepth 100000 in
theorem laws_eqIntS.calls (k : Nat) (A0 : Option Addr) (c0 : Nat) (l0 : List Int) (A1 : Option Addr) (c1 : Nat) (l1 : List Int) (r : Bool) (w : World) (hr0 : Kd.C (Kd.int .i64) w A0 l0.length l0) (hc0 : l0.length ≤ c0) (hr1 : Kd.C (Kd.int .i64) w A1 l1.length l1) (hc1 : l1.length ≤ c1) (h : laws_eqIntS.f k l0 l1 = some r) :
  Calls Try.prog 38 #[.slice A0 l0.length c0, .slice A1 l1.length c1] w fun e w' => e = .returned (.bool r) ∧ Drawn0 w w' := by
 have HR0 := Aside0.mk hr0
 have HC0 := Aside0.mk hc0
 clear hr0 hc0
 have HR1 := Aside0.mk hr1
 have HC1 := Aside0.mk hc1
 clear hr1 hc1
 have H : (if (l0.length : Int) = (l1.length : Int) then (laws_eqIntS.l0 k l0 l1 0) else (some false)) = some r := h
 clear h
 by_cases c3 : (l0.length : Int) = (l1.length : Int)
 ·rw [if_pos c3] at H
  have c3b0 : ((l0.length : Int) == (l1.length : Int)) = true := beq_iff_eq.mpr c3
  have c3b1 : ((l0.length : Int) != (l1.length : Int)) = false := bne_eq_false_iff_eq.mpr c3
  have c3b2 : (l0.length == l1.length) = true := by first | simpa using c3 | (simp at c3 ⊢; omega)
  clear c3
  have H' := Aside0.mk H
  clear H
  go_enter Try.func38, Try.ntmps38
  go_wp2
  repeat (go_quiet (fail); try go_wp2)
  go_loopg [5] k (fun kq v5 w' => ∃ (x5_1 : Int), v5 = .int .i64 x5_1 ∧ Aside0 (laws_eqIntS.l0 kq l0 l1 x5_1 = some r) ∧ Aside0 (kq ≤ k) ∧ Drawn0 w w')
  case atStart => exact ⟨(0), y26, H', ⟨Nat.le_refl _⟩, y37⟩
  case round =>
   clear H'
   try clear c1
   try clear p2
   try clear c3
   try clear c3b0
   try clear c3b1
   try clear c3b2
   obtain ⟨x5_1, rfl, HA, HK1, ⟨m1, rfl⟩⟩ := hrel
   cases gk with
   | zero => exact absurd HA.out (by simp [laws_eqIntS.l0])
   | succ k1 =>
    have H := HA.out
    clear HA
    simp only [laws_eqIntS.l0] at H
    by_cases c4 : x5_1 < (l0.length : Int)
    ·rw [if_pos c4] at H
     have c4b0 : decide (x5_1 < (l0.length : Int)) = true := decide_eq_true c4
     clear c4
     by_cases c5 : 0 ≤ x5_1
     ·rw [if_pos c5] at H
      have c5b0 : decide (0 ≤ x5_1) = true := decide_eq_true c5
      clear c5
      by_cases c6 : x5_1 < (l1.length : Int)
      ·rw [if_pos c6] at H
       have c6b0 : decide (x5_1 < (l1.length : Int)) = true := decide_eq_true c6
       clear c6
       by_cases c7 : (rd l0 x5_1) = (rd l1 x5_1)
       ·rw [if_pos c7] at H
        have c7b0 : ((rd l0 x5_1) == (rd l1 x5_1)) = true := beq_iff_eq.mpr c7
        have c7b1 : ((rd l0 x5_1) != (rd l1 x5_1)) = false := bne_eq_false_iff_eq.mpr c7
        clear c7
        have H' := Aside0.mk H
        clear H
        have p494 : 0 ≤ (x5_1 : Int) := of_decide_eq_true y19
        have q494 : x5_1 < (l0.length : Int) := of_decide_eq_true y19
        obtain ⟨ad494, e494, hx494_0⟩ := Kd.at_int HR0.out x5_1 p494 q494
        cases e494
        replace p494 := eq_true p494
        replace q494 := eq_true q494
        have p495 : 0 ≤ (x5_1 : Int) := of_decide_eq_true y19
        have q495 : x5_1 < (l1.length : Int) := of_decide_eq_true y19
        obtain ⟨ad495, e495, hx495_0⟩ := Kd.at_int HR1.out x5_1 p495 q495
        cases e495
        replace p495 := eq_true p495
        replace q495 := eq_true q495
        go_wp2
        repeat (go_quiet (fail); try go_wp2)
        go_roundg k1
        case measure => have := HK1.out; omega
        case rel => exact ⟨(wrap64 (x5_1 + 1)), y26, H', ⟨(y46 HK1.out)⟩, y37⟩
       ·rw [if_neg c7] at H
        have c7b0 : ((rd l0 x5_1) == (rd l1 x5_1)) = false := beq_eq_false_iff_ne.mpr c7
        have c7b1 : ((rd l0 x5_1) != (rd l1 x5_1)) = true := bne_iff_ne.mpr c7
        obtain rfl := Option.some.inj H
        have p494 : 0 ≤ (x5_1 : Int) := of_decide_eq_true y19
        have q494 : x5_1 < (l0.length : Int) := of_decide_eq_true y19
        obtain ⟨ad494, e494, hx494_0⟩ := Kd.at_int HR0.out x5_1 p494 q494
        cases e494
        replace p494 := eq_true p494
        replace q494 := eq_true q494
        have p495 : 0 ≤ (x5_1 : Int) := of_decide_eq_true y19
        have q495 : x5_1 < (l1.length : Int) := of_decide_eq_true y19
        obtain ⟨ad495, e495, hx495_0⟩ := Kd.at_int HR1.out x5_1 p495 q495
        cases e495
        replace p495 := eq_true p495
        replace q495 := eq_true q495
        go_wp2
        repeat (go_quiet (fail); try go_wp2)
        go_ret
        exact ⟨y26, y37⟩
      ·rw [if_neg c6] at H
       exact absurd H (by simp)
     ·rw [if_neg c5] at H
      exact absurd H (by simp)
    ·rw [if_neg c4] at H
     have c4b0 : decide (x5_1 < (l0.length : Int)) = false := decide_eq_false c4
     clear c4
     obtain rfl := Option.some.inj H
     go_wp2
     repeat (go_quiet (fail); try go_wp2)
     go_ret
     exact ⟨y26, y37⟩
 ·rw [if_neg c3] at H
  have c3b0 : ((l0.length : Int) == (l1.length : Int)) = false := beq_eq_false_iff_ne.mpr c3
  have c3b1 : ((l0.length : Int) != (l1.length : Int)) = true := bne_iff_ne.mpr c3
  have c3b2 : (l0.length == l1.length) = false := by first | simpa using c3 | (simp at c3 ⊢; omega)
  obtain rfl := Option.some.inj H
  go_enter Try.func38, Try.ntmps38
  go_wp2
  repeat (go_quiet (fail); try go_wp2)
  go_ret
  exact ⟨y26, y37⟩
end Go.Proofs.Ytjhbhihfifhljaa.PA
end
section
namespace Go.Proofs.Ytjhbhihfifhljaa.PA
open Go.RowKit Go.Proofs.YtjhbhihfifhljaaW.PrintWords Go.Proofs.YtjhbhihfifhljaaW.PrintLast Go.Proofs.YtjhbhihfifhljaaW.PrintMore
attribute [local go_sem] max2_int min2_int max_two min_two max_three min_three max_four min_four
set_option linter.unusedVariables false
set_option linter.unusedSimpArgs false
mutual
def spec_l1Deep.j0 : Nat → Int → Bool → List (S30) → Option (Bool)
 | 0, _, _, _ => none
 | k + 1, x1, x19, x112000 => if x19 = true then (some false) else (spec_l1Deep.l0 k x1 0 x112000)
def spec_l1Deep.l0 : Nat → Int → Int → List (S30) → Option (Bool)
 | 0, _, _, _ => none
 | k + 1, x1, x5, x112000 => if x5 < (x112000.length : Int) then (if 0 ≤ x5 then ((spec_l1Deep.f k ((rd_T30 x112000 x5).f0) (wrap64 (x1 - 1))).bind fun t113 => (if t113 = true then (spec_l1Deep.l0 k x1 (wrap64 (x5 + 1)) x112000) else (some false))) else (none)) else (some true)
def spec_l1Deep.f : Nat → List (S30) → Int → Option (Bool)
 | 0, _, _ => none
 | k + 1, l0_0, a1 => if a1 < 1 then (spec_l1Deep.j0 k a1 true l0_0) else (if (l0_0.length : Int) = 0 then (spec_l1Deep.j0 k a1 false l0_0) else (spec_l1Deep.j0 k a1 ((l0_0.length : Int) != 2) l0_0))
end
theorem spec_l1Deep.mono_l : ∀ k, (∀ y0 y1, LeO (spec_l1Deep.f k y0 y1) (spec_l1Deep.f (k + 1) y0 y1)) ∧ (∀ y0 y1 y2, LeO (spec_l1Deep.j0 k y0 y1 y2) (spec_l1Deep.j0 (k + 1) y0 y1 y2)) ∧ (∀ y0 y1 y2, LeO (spec_l1Deep.l0 k y0 y1 y2) (spec_l1Deep.l0 (k + 1) y0 y1 y2))
 | 0 => ⟨fun _ _ r h => by simp [spec_l1Deep.f] at h, fun _ _ _ r h => by simp [spec_l1Deep.j0] at h, fun _ _ _ r h => by simp [spec_l1Deep.l0] at h⟩
 | k + 1 => by
  obtain ⟨ih0, ih1, ih2⟩ := spec_l1Deep.mono_l k
  refine ⟨?_, ?_, ?_⟩
  ·intro y0 y1
   unfold spec_l1Deep.f
   repeat' first
   | (with_reducible exact ih0 _ _)
   | (with_reducible exact ih1 _ _ _)
   | (with_reducible exact ih2 _ _ _)
   | (with_reducible exact LeO.refl _)
   | (with_reducible exact LeO.none _)
   | (with_reducible refine LeO.ite ?_ ?_)
   | (with_reducible refine LeO.bind ?_ (fun _ => ?_))
   | exact ih0 _ _
   | exact ih1 _ _ _
   | exact ih2 _ _ _
   | exact LeO.none _
   | refine LeO.ite ?_ ?_
   | refine LeO.bind ?_ (fun _ => ?_)
  ·intro y0 y1 y2
   unfold spec_l1Deep.j0
   repeat' first
   | (with_reducible exact ih0 _ _)
   | (with_reducible exact ih1 _ _ _)
   | (with_reducible exact ih2 _ _ _)
   | (with_reducible exact LeO.refl _)
   | (with_reducible exact LeO.none _)
   | (with_reducible refine LeO.ite ?_ ?_)
   | (with_reducible refine LeO.bind ?_ (fun _ => ?_))
   | exact ih0 _ _
   | exact ih1 _ _ _
   | exact ih2 _ _ _
   | exact LeO.none _
   | refine LeO.ite ?_ ?_
   | refine LeO.bind ?_ (fun _ => ?_)
  ·intro y0 y1 y2
   unfold spec_l1Deep.l0
   repeat' first
   | (with_reducible exact ih0 _ _)
   | (with_reducible exact ih1 _ _ _)
   | (with_reducible exact ih2 _ _ _)
   | (with_reducible exact LeO.refl _)
   | (with_reducible exact LeO.none _)
   | (with_reducible refine LeO.ite ?_ ?_)
   | (with_reducible refine LeO.bind ?_ (fun _ => ?_))
   | exact ih0 _ _
   | exact ih1 _ _ _
   | exact ih2 _ _ _
   | exact LeO.none _
   | refine LeO.ite ?_ ?_
   | refine LeO.bind ?_ (fun _ => ?_)
theorem spec_l1Deep.mono : ∀ a0 a1 k, LeO (spec_l1Deep.f k a0 a1) (spec_l1Deep.f (k + 1) a0 a1) := by
 intro a0 a1 k
 obtain ⟨ih0, ih1, ih2⟩ := spec_l1Deep.mono_l k
 exact ih0 a0 a1
set_option maxHeartbeats 8000000 in
set_option maxRecDepth 100000 in
theorem spec_l1Deep.calls (k : Nat) : ∀ (A0_0 : Option Addr) (c0_0 : Nat) (l0_0 : List (S30)) (a1 : Int) (r : Bool) (w : World) (hr0_0 : Kd.C k30 w A0_0 l0_0.length l0_0) (hc0_0 : l0_0.length ≤ c0_0) (h : spec_l1Deep.f k l0_0 a1 = some r),
  Calls Try.prog 47 #[.agg #[.slice A0_0 l0_0.length c0_0], .int .i64 a1] w fun e w' => e = .returned (.bool r) ∧ Below w.heap.size w w' := by
 induction k using Nat.strongRecOn with
 | _ k ih =>
 intro A0_0 c0_0 l0_0 a1 r w hr0_0 hc0_0 h
 cases k with
 | zero => exact absurd h (by simp [spec_l1Deep.f])
 | succ k =>
 simp only [spec_l1Deep.f] at h
 have hu30 := Try.underlying30
 have HR0_0 := Aside0.mk hr0_0
 have HC0_0 := Aside0.mk hc0_0
 clear hr0_0 hc0_0
 have HB := Aside0.mk (Below.refl w.heap.size w)
 have H : (if a1 < 1 then (spec_l1Deep.j0 k a1 true l0_0) else (if (l0_0.length : Int) = 0 then (spec_l1Deep.j0 k a1 false l0_0) else (spec_l1Deep.j0 k a1 ((l0_0.length : Int) != 2) l0_0))) = some r := h
 clear h
 have HC3 := Aside0.mk H
 clear H
 go_enter Try.func47, Try.ntmps47
 go_upto_region 1 with (first | ((with_reducible refine gate_dst (N := 2) rfl ?_); (try (refine gate_guard (by rfl) ?_; dsimp only)); refine zbx 2 #[.slice A0_0 l0_0.length c0_0] 30 ?_; intro gb111 hg w4 hbox hb; have BK111 := Aside0.mk hbox; have GW111 := Aside0.mk ((y5 hg HB.out : w.heap.size ≤ gb111)); have GE111 := Aside0.mk ((y5 hg HB.out : w.heap.size ≤ gb111)); replace HB := Aside0.mk (below_step (y2 HB.out) hb); clear hb hbox hg))
 (try simp only [Act.put, List.setIfInBounds_toArray, List.set_cons_zero, List.set_cons_succ])
 go_cut [19] (fun v19 wc => ∃ (kq : Nat) (x19_2 : Bool), v19 = .bool x19_2 ∧ Aside0 (spec_l1Deep.j0 kq a1 x19_2 l0_0 = some r) ∧ Aside0 (kq ≤ k) ∧ Aside0 (wc.heap[gb111]? = some (.cells #[(.slice A0_0 l0_0.length c0_0)] 30 (0, 0))) ∧ Aside0 (Below w.heap.size w wc))
 case first =>
  have H := HC3.out
  clear HC3
  by_cases c5 : a1 < 1
  ·rw [if_pos c5] at H
   have c5b0 : decide (a1 < 1) = true := decide_eq_true c5
   clear c5
   (first | rw [c5b0] | (simp only [i64_w, i32_w]; rw [c5b0]) | skip)
   have H' := Aside0.mk H
   clear H
   go_wp2
   go_meet
   case rel => exact ⟨_, (true), y26, H', ⟨y43⟩, ⟨(y0 BK111.out)⟩, ⟨(y3 HB.out GE111.out)⟩⟩
  ·rw [if_neg c5] at H
   have c5b0 : decide (a1 < 1) = false := decide_eq_false c5
   clear c5
   (first | rw [c5b0] | (simp only [i64_w, i32_w]; rw [c5b0]) | skip)
   by_cases c6 : (l0_0.length : Int) = 0
   ·rw [if_pos c6] at H
    have c6b0 : ((l0_0.length : Int) == 0) = true := beq_iff_eq.mpr c6
    have c6b1 : ((l0_0.length : Int) != 0) = false := bne_eq_false_iff_eq.mpr c6
    clear c6
    have H' := Aside0.mk H
    clear H
    have hcz7_0 := zh BK111
    have hfz7_0 := zfr BK111 0
    go_wp2
    go_meet
    case rel => exact ⟨_, (false), y26, H', ⟨y43⟩, ⟨(y0 BK111.out)⟩, ⟨(y3 HB.out GE111.out)⟩⟩
   ·rw [if_neg c6] at H
    have c6b0 : ((l0_0.length : Int) == 0) = false := beq_eq_false_iff_ne.mpr c6
    have c6b1 : ((l0_0.length : Int) != 0) = true := bne_iff_ne.mpr c6
    have c6b2 : ¬ (l0_0 = []) := fun h_ => c6 (by rw [h_]; rfl)
    have H' := Aside0.mk H
    clear H
    have hcz8_0 := zh BK111
    have hfz8_0 := zfr BK111 0
    go_wp2
    go_meet
    case rel => exact ⟨_, (((l0_0.length : Int) != 2)), y26, H', ⟨y43⟩, ⟨(y0 BK111.out)⟩, ⟨(y3 HB.out GE111.out)⟩⟩
 case rest =>
  clear HC3
  try clear p2
  try clear c4
  try clear c5
  try clear c5b0
  try clear c6
  try clear c6b0
  try clear c6b1
  try clear c6b2
  try clear hcz7_0
  try clear hcz8_0
  try clear hfz7_0
  try clear hfz8_0
  obtain ⟨kq, x19_2, rfl, HA, HJ2, BK111, HB⟩ := hcut
  cases kq with
  | zero => exact absurd HA.out (by simp [spec_l1Deep.j0])
  | succ kj2 =>
   have H := HA.out
   clear HA
   simp only [spec_l1Deep.j0] at H
   by_cases c9 : x19_2 = true
   ·subst c9
    rw [if_pos rfl] at H
    obtain rfl := Option.some.inj H
    go_wp2
    go_ret
    exact ⟨y14, (y3 HB.out GE111.out)⟩
   ·replace c9 := Bool.eq_false_iff.mpr c9
    subst c9
    rw [if_neg (show ¬ (false = true) by decide)] at H
    have H' := Aside0.mk H
    clear H
    go_wp2
    go_loopg [5] kj2 (fun kq v5 w' => ∃ (x5_2 : Int), v5 = .int .i64 x5_2 ∧ Aside0 (spec_l1Deep.l0 kq a1 x5_2 l0_0 = some r) ∧ Aside0 (kq ≤ kj2) ∧ Aside0 (w'.heap[gb111]? = some (.cells #[(.slice A0_0 l0_0.length c0_0)] 30 (0, 0))) ∧ Aside0 (Below w.heap.size w w'))
    case atStart => exact ⟨(0), y26, H', ⟨Nat.le_refl _⟩, ⟨(y0 BK111.out)⟩, ⟨(y3 HB.out GE111.out)⟩⟩
    case round =>
     clear H'
     try clear p2
     try clear c4
     try clear c5
     try clear c5b0
     try clear c6
     try clear c6b0
     try clear c6b1
     try clear c6b2
     try clear c9
     try clear hcz7_0
     try clear hcz8_0
     try clear hfz7_0
     try clear hfz8_0
     try clear p2
     obtain ⟨x5_2, rfl, HA, HK2, BK111, HB⟩ := hrel
     cases gk with
     | zero => exact absurd HA.out (by simp [spec_l1Deep.l0])
     | succ k2 =>
      have H := HA.out
      clear HA
      simp only [spec_l1Deep.l0] at H
      by_cases c10 : x5_2 < (l0_0.length : Int)
      ·rw [if_pos c10] at H
       have c10b0 : decide (x5_2 < (l0_0.length : Int)) = true := decide_eq_true c10
       clear c10
       by_cases c11 : 0 ≤ x5_2
       ·rw [if_pos c11] at H
        have c11b0 : decide (0 ≤ x5_2) = true := decide_eq_true c11
        clear c11
        obtain ⟨t113, A120, H⟩ := ob H
        have A12 := Aside0.mk A120
        clear A120
        by_cases c13 : t113 = true
        ·subst c13
         rw [if_pos rfl] at H
         have H' := Aside0.mk H
         clear H
         have hcz14_0 := zh BK111
         have hfz14_0 := zfr BK111 0
         have p112 : 0 ≤ (x5_2 : Int) := of_decide_eq_true y19
         have q112 : x5_2 < (l0_0.length : Int) := of_decide_eq_true y19
         obtain ⟨ad112, A112_0, c112_0, e112, hx112_0, hl112_0, hi112_0⟩ := at_T30 HR0_0.out x5_2 p112 q112
         cases e112
         replace hx112_0 := (HB.out.cell (World.block_lt_of_cell? w _ hx112_0)).trans hx112_0
         have HR112_0 := Aside0.mk hi112_0
         have HC112_0 := Aside0.mk hl112_0
         clear hi112_0 hl112_0
         replace p112 := eq_true p112
         replace q112 := eq_true q112
         go_wp2_with (first | ((with_reducible refine gate_callee (f := 47) rfl ?_); refine goesL_ (some 34) rfl rfl Try.func47 (by kernel_rfl) rfl #[.agg #[.slice A112_0 ((rd_T30 l0_0 x5_2).f0).length c112_0], .int .i64 (wrap64 (a1 - 1))] rfl y4 ?_; (with_reducible refine (ih k2 (y79 HJ2.out HK2.out) _ _ ((rd_T30 l0_0 x5_2).f0) (wrap64 (a1 - 1)) true _ ?side1 ?side2 A12.out).mono ?_); (case side1 => exact y8 HR112_0.out HB.out); (case side2 => exact HC112_0.out); rintro e w15 ⟨rfl, hb⟩; refine ⟨_, rfl, ?_⟩; replace BK111 := zbb BK111 hb; replace HB := Aside0.mk (below_step (y3 HB.out GE111.out) hb); (try clear hb); (try clear hb2); (try clear hk); (try clear hi)))
         go_roundg k2
         case measure => have := HJ2.out; have := HK2.out; omega
         case rel => exact ⟨(wrap64 (x5_2 + 1)), y26, H', ⟨(y79 HJ2.out HK2.out)⟩, ⟨(y0 BK111.out)⟩, ⟨(y3 HB.out GE111.out)⟩⟩
        ·replace c13 := Bool.eq_false_iff.mpr c13
         subst c13
         rw [if_neg (show ¬ (false = true) by decide)] at H
         obtain rfl := Option.some.inj H
         have hcz16_0 := zh BK111
         have hfz16_0 := zfr BK111 0
         have p112 : 0 ≤ (x5_2 : Int) := of_decide_eq_true y19
         have q112 : x5_2 < (l0_0.length : Int) := of_decide_eq_true y19
         obtain ⟨ad112, A112_0, c112_0, e112, hx112_0, hl112_0, hi112_0⟩ := at_T30 HR0_0.out x5_2 p112 q112
         cases e112
         replace hx112_0 := (HB.out.cell (World.block_lt_of_cell? w _ hx112_0)).trans hx112_0
         have HR112_0 := Aside0.mk hi112_0
         have HC112_0 := Aside0.mk hl112_0
         clear hi112_0 hl112_0
         replace p112 := eq_true p112
         replace q112 := eq_true q112
         go_wp2_with (first | ((with_reducible refine gate_callee (f := 47) rfl ?_); refine goesL_ (some 34) rfl rfl Try.func47 (by kernel_rfl) rfl #[.agg #[.slice A112_0 ((rd_T30 l0_0 x5_2).f0).length c112_0], .int .i64 (wrap64 (a1 - 1))] rfl y4 ?_; (with_reducible refine (ih k2 (y79 HJ2.out HK2.out) _ _ ((rd_T30 l0_0 x5_2).f0) (wrap64 (a1 - 1)) false _ ?side1 ?side2 A12.out).mono ?_); (case side1 => exact y8 HR112_0.out HB.out); (case side2 => exact HC112_0.out); rintro e w17 ⟨rfl, hb⟩; refine ⟨_, rfl, ?_⟩; replace BK111 := zbb BK111 hb; replace HB := Aside0.mk (below_step (y3 HB.out GE111.out) hb); (try clear hb); (try clear hb2); (try clear hk); (try clear hi)))
         go_ret
         exact ⟨y14, (y3 HB.out GE111.out)⟩
       ·rw [if_neg c11] at H
        exact absurd H (by simp)
      ·rw [if_neg c10] at H
       have c10b0 : decide (x5_2 < (l0_0.length : Int)) = false := decide_eq_false c10
       clear c10
       obtain rfl := Option.some.inj H
       have hcz18_0 := zh BK111
       have hfz18_0 := zfr BK111 0
       go_wp2
       go_ret
       exact ⟨y14, (y3 HB.out GE111.out)⟩
end Go.Proofs.Ytjhbhihfifhljaa.PA
end
section
namespace Go.Proofs.Ytjhbhihfifhljaa.PA
open Go.RowKit Go.Proofs.YtjhbhihfifhljaaW.PrintWords Go.Proofs.YtjhbhihfifhljaaW.PrintLast Go.Proofs.YtjhbhihfifhljaaW.PrintMore
attribute [local go_sem] max2_int min2_int max_two min_two max_three min_three max_four min_four
set_option linter.unusedVariables false
set_option linter.unusedSimpArgs false
def spec_TypeOk.f (k : Nat) (l0_0 : List (S30)) : Option (Bool) := (spec_l1Deep.f k l0_0 4).bind fun t115 => (some t115)
theorem spec_TypeOk.mono : ∀ a0 k, LeO (spec_TypeOk.f k a0) (spec_TypeOk.f (k + 1) a0) := by
 intro a0 k
 unfold spec_TypeOk.f
 repeat' first
   | (with_reducible exact spec_l1Deep.mono _ _ _)
   | (with_reducible exact LeO.refl _)
   | (with_reducible exact LeO.none _)
   | (with_reducible refine LeO.ite ?_ ?_)
   | (with_reducible refine LeO.bind ?_ (fun _ => ?_))
   | exact spec_l1Deep.mono _ _ _
   | exact LeO.none _
   | refine LeO.ite ?_ ?_
   | refine LeO.bind ?_ (fun _ => ?_)
set_option maxHeartbeats 8000000 in
set_option maxRecDepth 100000 in
theorem spec_TypeOk.calls (k : Nat) (A0_0 : Option Addr) (c0_0 : Nat) (l0_0 : List (S30)) (r : Bool) (w : World) (hr0_0 : Kd.C k30 w A0_0 l0_0.length l0_0) (hc0_0 : l0_0.length ≤ c0_0) (h : spec_TypeOk.f k l0_0 = some r) :
  Calls Try.prog 16 #[.agg #[.slice A0_0 l0_0.length c0_0]] w fun e w' => e = .returned (.bool r) ∧ Below w.heap.size w w' := by
 have hu30 := Try.underlying30
 have HR0_0 := Aside0.mk hr0_0
 have HC0_0 := Aside0.mk hc0_0
 clear hr0_0 hc0_0
 have HB := Aside0.mk (Below.refl w.heap.size w)
 have H : ((spec_l1Deep.f k l0_0 4).bind fun t115 => (some t115)) = some r := h
 clear h
 obtain ⟨t115, A20, H⟩ := ob H
 have A2 := Aside0.mk A20
 clear A20
 obtain rfl := Option.some.inj H
 go_enter Try.func16, Try.ntmps16
 go_wp2_with (first | ((with_reducible refine gate_dst (N := 1) rfl ?_); refine zbx 1 #[.slice A0_0 l0_0.length c0_0] 30 ?_; intro gb114 hg w3 hbox hb; have BK114 := Aside0.mk hbox; have GW114 := Aside0.mk ((y5 hg HB.out : w.heap.size ≤ gb114)); have GE114 := Aside0.mk ((y5 hg HB.out : w.heap.size ≤ gb114)); replace HB := Aside0.mk (below_step (y2 HB.out) hb); clear hb hbox hg; have hcz4_0 := zh BK114; have hfz4_0 := zfr BK114 0) | ((with_reducible refine gate_callee (f := 47) rfl ?_); refine goesL_ (some 4) rfl rfl Try.func47 (by kernel_rfl) rfl #[.agg #[.slice A0_0 l0_0.length c0_0], .int .i64 4] rfl y4 ?_; (with_reducible refine (spec_l1Deep.calls k _ _ l0_0 4 t115 _ ?side1 ?side2 A2.out).mono ?_); (case side1 => exact y8 HR0_0.out HB.out); (case side2 => exact HC0_0.out); rintro e w5 ⟨rfl, hb⟩; refine ⟨_, rfl, ?_⟩; replace BK114 := zbb BK114 hb; replace HB := Aside0.mk (below_step (y3 HB.out GE114.out) hb); (try clear hb); (try clear hb2); (try clear hk); (try clear hi)))
 go_ret
 exact ⟨y14, (y3 HB.out GE114.out)⟩
end Go.Proofs.Ytjhbhihfifhljaa.PA
end
section
namespace Go.Proofs.Ytjhbhihfifhljaa.PA
open Go.RowKit Go.Proofs.YtjhbhihfifhljaaW.PrintWords Go.Proofs.YtjhbhihfifhljaaW.PrintLast Go.Proofs.YtjhbhihfifhljaaW.PrintMore
attribute [local go_sem] max2_int min2_int max_two min_two max_three min_three max_four min_four
set_option linter.unusedVariables false
set_option linter.unusedSimpArgs false
def spec_l6In.f (a0 : Int) (a1 : Int) (a2 : Int) : Option (Bool) := if a0 ≥ a1 then (some (decide (a0 ≤ a2))) else (some false)
set_option maxHeartbeats 8000000 in
set_option maxRecDepth 100000 in
theorem spec_l6In.calls (a0 : Int) (a1 : Int) (a2 : Int) (r : Bool) (w : World) (h : spec_l6In.f a0 a1 a2 = some r) :
  Calls Try.prog 65 #[.int .i64 a0, .int .i64 a1, .int .i64 a2] w fun e w' => e = .returned (.bool r) ∧ Drawn0 w w' := by
 have H : (if a0 ≥ a1 then (some (decide (a0 ≤ a2))) else (some false)) = some r := h
 clear h
 by_cases c4 : a0 ≥ a1
 ·rw [if_pos c4] at H
  have c4b0 : decide (a1 ≤ a0) = true := decide_eq_true c4
  clear c4
  obtain rfl := Option.some.inj H
  go_enter Try.func65, Try.ntmps65
  go_wp2
  go_ret
  exact ⟨y26, y37⟩
 ·rw [if_neg c4] at H
  have c4b0 : decide (a1 ≤ a0) = false := decide_eq_false c4
  clear c4
  obtain rfl := Option.some.inj H
  go_enter Try.func65, Try.ntmps65
  go_wp2
  go_ret
  exact ⟨y26, y37⟩
end Go.Proofs.Ytjhbhihfifhljaa.PA
end
section
namespace Go.Proofs.Ytjhbhihfifhljaa.PA
open Go.RowKit Go.Proofs.YtjhbhihfifhljaaW.PrintWords Go.Proofs.YtjhbhihfifhljaaW.PrintLast Go.Proofs.YtjhbhihfifhljaaW.PrintMore
attribute [local go_sem] max2_int min2_int max_two min_two max_three min_three max_four min_four
set_option linter.unusedVariables false
set_option linter.unusedSimpArgs false
mutual
def spec_l1Copy.l0 : Nat → Int → List (S30) → List (S30) → Option ((List (S30)))
 | 0, _, _, _ => none
 | k + 1, x4, x576000, x578000 => if x4 < (x576000.length : Int) then (if 0 ≤ x4 then ((spec_l1Copy.f k ((rd_T30 x576000 x4).f0)).bind fun t579 => (if x578000.length < 5864062014805 then (spec_l1Copy.l0 k (wrap64 (x4 + 1)) x576000 (x578000 ++ [(⟨t579⟩ : S30)])) else (none))) else (none)) else (some x578000)
def spec_l1Copy.f : Nat → List (S30) → Option ((List (S30)))
 | 0, _ => none
 | k + 1, l0_0 => spec_l1Copy.l0 k 0 l0_0 ([] : List (S30))
end
theorem spec_l1Copy.mono_l : ∀ k, (∀ y0, LeO (spec_l1Copy.f k y0) (spec_l1Copy.f (k + 1) y0)) ∧ (∀ y0 y1 y2, LeO (spec_l1Copy.l0 k y0 y1 y2) (spec_l1Copy.l0 (k + 1) y0 y1 y2))
 | 0 => ⟨fun _ r h => by simp [spec_l1Copy.f] at h, fun _ _ _ r h => by simp [spec_l1Copy.l0] at h⟩
 | k + 1 => by
  obtain ⟨ih0, ih1⟩ := spec_l1Copy.mono_l k
  refine ⟨?_, ?_⟩
  ·intro y0
   unfold spec_l1Copy.f
   repeat' first
   | (with_reducible exact ih0 _)
   | (with_reducible exact ih1 _ _ _)
   | (with_reducible exact LeO.refl _)
   | (with_reducible exact LeO.none _)
   | (with_reducible refine LeO.ite ?_ ?_)
   | (with_reducible refine LeO.bind ?_ (fun _ => ?_))
   | exact ih0 _
   | exact ih1 _ _ _
   | exact LeO.none _
   | refine LeO.ite ?_ ?_
   | refine LeO.bind ?_ (fun _ => ?_)
  ·intro y0 y1 y2
   unfold spec_l1Copy.l0
   repeat' first
   | (with_reducible exact ih0 _)
   | (with_reducible exact ih1 _ _ _)
   | (with_reducible exact LeO.refl _)
   | (with_reducible exact LeO.none _)
   | (with_reducible refine LeO.ite ?_ ?_)
   | (with_reducible refine LeO.bind ?_ (fun _ => ?_))
   | exact ih0 _
   | exact ih1 _ _ _
   | exact LeO.none _
   | refine LeO.ite ?_ ?_
   | refine LeO.bind ?_ (fun _ => ?_)
theorem spec_l1Copy.mono : ∀ a0 k, LeO (spec_l1Copy.f k a0) (spec_l1Copy.f (k + 1) a0) := by
 intro a0 k
 obtain ⟨ih0, ih1⟩ := spec_l1Copy.mono_l k
 exact ih0 a0
def spec_l1Copy.T5 : Bool × List (List Nat × List Nat) := (true, [([], []), ([0], [0]), ([], []), ([2], [2]), ([], []), ([3, 4], [3, 4]), ([5], [5]), ([6], [6]), ([7], [7]), ([1, 8, 7], [1, 8]), ([0, 1, 2, 3, 4, 5, 6, 7, 8, 9], []), ([10, 9, 9, 0, 1, 2, 3, 4, 5, 6, 7, 8, 9], [9, 10])])
def spec_l1Copy.B5 : List Nat := [0, 1, 0, 4, 0, 28, 60, 124, 252, 511, 1023, 2047]
theorem spec_l1Copy.tab5 : rtab .any (opsOf Try.f66 5) = spec_l1Copy.T5 := by kernel_rfl
theorem spec_l1Copy.bits5 : waitsOk spec_l1Copy.T5.2 spec_l1Copy.B5 = true := by kernel_rfl
set_option maxHeartbeats 8000000 in
set_option maxRecDepth 100000 in
theorem spec_l1Copy.calls (k : Nat) : ∀ (A0_0 : Option Addr) (c0_0 : Nat) (l0_0 : List (S30)) (r : List (S30)) (w : World) (hr0_0 : Kd.C k30 w A0_0 l0_0.length l0_0) (hc0_0 : l0_0.length ≤ c0_0) (h : spec_l1Copy.f k l0_0 = some r),
  Calls Try.prog 66 #[.agg #[.slice A0_0 l0_0.length c0_0]] w fun e w' => ∃ v0_ : Value, e = .returned (.agg #[v0_]) ∧ Kd.R k30 30 w' w.heap.size (fun _ => True) v0_ r ∧ Below w.heap.size w w' := by
 induction k using Nat.strongRecOn with
 | _ k ih =>
 intro A0_0 c0_0 l0_0 r w hr0_0 hc0_0 h
 cases k with
 | zero => exact absurd h (by simp [spec_l1Copy.f])
 | succ k =>
 simp only [spec_l1Copy.f] at h
 have hu30 := Try.underlying30
 have HR0_0 := Aside0.mk hr0_0
 have HC0_0 := Aside0.mk hc0_0
 clear hr0_0 hc0_0
 have HB := Aside0.mk (Below.refl w.heap.size w)
 have H : (spec_l1Copy.l0 k 0 l0_0 ([] : List (S30))) = some r := h
 clear h
 have H' := Aside0.mk H
 clear H
 go_enter Try.func66, Try.ntmps66
 go_wp2_with (first | ((with_reducible refine gate_dst (N := 1) rfl ?_); refine zbx 1 #[.slice A0_0 l0_0.length c0_0] 30 ?_; intro gb575 hg w2 hbox hb; have BK575 := Aside0.mk hbox; have GW575 := Aside0.mk ((y5 hg HB.out : w.heap.size ≤ gb575)); have GE575 := Aside0.mk ((y5 hg HB.out : w.heap.size ≤ gb575)); replace HB := Aside0.mk (below_step (y2 HB.out) hb); clear hb hbox hg) | ((with_reducible refine gate_dst (N := 2) rfl ?_); refine zbx 2 #[.slice none 0 0] 30 ?_; intro gb576 hg w3 hbox hb; have BK576 := Aside0.mk hbox; have GW576 := Aside0.mk ((y6 hg HB.out GE575.out : w.heap.size ≤ gb576)); have GE576 := Aside0.mk ((y6 hg HB.out GE575.out : w.heap.size ≤ gb576)); replace HB := Aside0.mk (below_step (y3 HB.out GE575.out) hb); have NB575_576 := zltn hg BK575; have NB576_575 := zgtn hg BK575; replace BK575 := zbb BK575 hb; clear hb hbox hg) | ((with_reducible refine gate_dst (N := 3) rfl ?_); refine zbx 3 #[.slice none 0 0] 30 ?_; intro gb577 hg w4 hbox hb; have BK577 := Aside0.mk hbox; have GW577 := Aside0.mk ((y20 hg HB.out GE575.out GE576.out : w.heap.size ≤ gb577)); have GE577 := Aside0.mk ((y20 hg HB.out GE575.out GE576.out : w.heap.size ≤ gb577)); replace HB := Aside0.mk (below_step (y1 HB.out GE575.out GE576.out) hb); have NB575_577 := zltn hg BK575; have NB577_575 := zgtn hg BK575; replace BK575 := zbb BK575 hb; have NB576_577 := zltn hg BK576; have NB577_576 := zgtn hg BK576; replace BK576 := zbb BK576 hb; clear hb hbox hg; have hnb5 := NB577_575.out; have hnc5 := NB575_577.out; have hnb6 := NB577_576.out; have hnc6 := NB576_577.out; have hcz7_0 := zh BK577; have hfz7_0 := zfr BK577 0))
 go_loopg [4] k (fun kq v4 w' => ∃ (x4_1 : Int) (x578000_1 : List (S30)) (u578000 : Value), v4 = .int .i64 x4_1 ∧ Aside0 (spec_l1Copy.l0 kq x4_1 l0_0 x578000_1 = some r) ∧ Aside0 (kq ≤ k) ∧ Aside0 (Kd.R k30 30 w' w.heap.size (fun k_ => k_ ≠ gb575 ∧ k_ ≠ gb576 ∧ k_ ≠ gb577) u578000 x578000_1) ∧ Aside0 (w'.heap[gb575]? = some (.cells #[(.slice A0_0 l0_0.length c0_0)] 30 (0, 0))) ∧ Aside0 (w'.heap[gb576]? = some (.cells #[(.slice none 0 0)] 30 (0, 0))) ∧ Aside0 (w'.heap[gb577]? = some (.cells #[u578000] 30 (0, 0))) ∧ Aside0 (Below w.heap.size w w'))
 case atStart => exact ⟨(0), (([] : List (S30))), (.slice none 0 0), y26, H', ⟨Nat.le_refl _⟩, ⟨y36⟩, ⟨(y21 NB575_577.out BK575.out)⟩, ⟨(y21 NB576_577.out BK576.out)⟩, ⟨(by (with_reducible repeat (first | refine blk_drewN ?_ _ | refine blk_drew ?_ | refine blk_alloc ?_ _)); refine blk_put (cs := #[.slice none 0 0]) ?_ 0 _ rfl; (with_reducible repeat (first | refine blk_drewN ?_ _ | refine blk_drew ?_ | refine blk_alloc ?_ _)); exact BK577.out)⟩, ⟨(y7 HB.out GE575.out GE576.out GE577.out)⟩⟩
 case round =>
  clear H'
  try clear p2
  try clear c5
  try clear c6
  try clear hcz7_0
  try clear hfz7_0
  obtain ⟨x4_1, x578000_1, u578000, rfl, HA, HK1, HO_578000, BK575, BK576, BK577, HB⟩ := hrel
  cases gk with
  | zero => exact absurd HA.out (by simp [spec_l1Copy.l0])
  | succ k1 =>
   have H := HA.out
   clear HA
   simp only [spec_l1Copy.l0] at H
   by_cases c8 : x4_1 < (l0_0.length : Int)
   ·rw [if_pos c8] at H
    have c8b0 : decide (x4_1 < (l0_0.length : Int)) = true := decide_eq_true c8
    clear c8
    by_cases c9 : 0 ≤ x4_1
    ·rw [if_pos c9] at H
     have c9b0 : decide (0 ≤ x4_1) = true := decide_eq_true c9
     clear c9
     obtain ⟨t579, A100, H⟩ := ob H
     have A10 := Aside0.mk A100
     clear A100
     by_cases c11 : x578000_1.length < 5864062014805
     ·rw [if_pos c11] at H
      have LMc11 := Aside0.mk c11
      clear c11
      obtain ⟨y582, hy582⟩ : ∃ y_ : List (S30), y_ = (x578000_1 ++ [(⟨t579⟩ : S30)]) := ⟨_, rfl⟩
      replace H : (spec_l1Copy.l0 k1 (wrap64 (x4_1 + 1)) l0_0 y582) = some r := by first | (rw [hy582]; with_reducible exact H) | (have H2_ := (Option.bind_some _ _).symm.trans H; rw [hy582]; with_reducible exact H2_) | (have H2_ := (Option.bind_some _ _).symm.trans H; with_reducible exact H2_) | with_reducible exact H | (rw [hy582]; exact H) | exact H
      have Ny582 := Aside0.mk hy582
      clear hy582
      have H' := Aside0.mk H
      clear H
      have hnb12 := NB575_576.out
      have hnc12 := NB576_575.out
      have hnb13 := NB575_577.out
      have hnc13 := NB577_575.out
      have hcz14_0 := zh BK575
      have hfz14_0 := zfr BK575 0
      try go_wp2
      replace HO_578000 := Aside0.mk (Kd.R_drew HO_578000.out)
      replace BK575 := Aside0.mk (blk_drew BK575.out)
      replace BK576 := Aside0.mk (blk_drew BK576.out)
      replace BK577 := Aside0.mk (blk_drew BK577.out)
      replace HB := Aside0.mk (below_drew1 HB.out)
      have p578 : 0 ≤ (x4_1 : Int) := of_decide_eq_true y19
      have q578 : x4_1 < (l0_0.length : Int) := of_decide_eq_true y19
      obtain ⟨ad578, A578_0, c578_0, e578, hx578_0, hl578_0, hi578_0⟩ := at_T30 HR0_0.out x4_1 p578 q578
      have hw578_0 := hx578_0
      cases e578
      replace hx578_0 := (HB.out.cell (World.block_lt_of_cell? w _ hx578_0)).trans hx578_0
      have HR578_0 := Aside0.mk hi578_0
      have HC578_0 := Aside0.mk hl578_0
      clear hi578_0 hl578_0
      replace p578 := eq_true p578
      replace q578 := eq_true q578
      refine start_ (n := 12) (S := fun w' => w'.cell? ⟨gb577, 0, none⟩ = some (u578000) ∧ w'.cell? ⟨gb575, 0, none⟩ = some (.slice (some ad578) l0_0.length c0_0) ∧ w'.cell? (ad578.add (x4_1).toNat) = some (.slice A578_0 ((rd_T30 l0_0 x4_1).f0).length c578_0)) (ds := [11]) #[false, false, false, false, false, false, false, false, false, false, false, false] (by kernel_rfl) rfl rfl ⟨(blk_cell BK577.out 0).trans rfl, (blk_cell BK575.out 0).trans rfl, ((HB.out.cell (World.block_lt_of_cell? w _ hw578_0)).trans hw578_0)⟩ (fun hHeld => ?_); refine with_tabW spec_l1Copy.tab5 spec_l1Copy.bits5 (fun HT_ HW_ => ?_)
      generalize wr.drew = w15 at HO_578000 BK575 BK576 BK577 HB HR578_0 hx578_0 hHeld ⊢
      refine zp 0 (some 13) HT_ ?_
      refine zp 2 (some 15) HT_ ?_
      refine zp 4 (some 17) HT_ ?_
      refine zt3 1 (some 14) HT_ HW_ hHeld ?_
      refine zt3 3 (some 16) HT_ HW_ hHeld ?_
      refine zp 5 (some 18) HT_ ?_
      refine zt3 6 (some 19) HT_ HW_ hHeld ?_
      refine one_ (i := 7) (N := some 20) #[true, true, true, true, true, true, true, true, false, false, false, false] rfl rfl (one_of HT_.out (by kernel_rfl)) (by decide) (fun K hK => ?_)
      refine goes_ Try.func66 (by kernel_rfl) rfl #[.agg #[.slice A578_0 ((rd_T30 l0_0 x4_1).f0).length c578_0]] (by rfl) rfl rfl y4 ?_
      with_reducible refine (ih k1 (y46 HK1.out) _ _ ((rd_T30 l0_0 x4_1).f0) t579 _ ?side1 ?side2 A10.out).mono ?_
      (case side1 => exact y8 HR578_0.out HB.out)
      (case side2 => exact HC578_0.out)
      rintro e w16 ⟨v580, rfl, ho0, hb⟩
      refine ⟨_, rfl, ?_⟩
      have HO581 := Aside0.mk (Kd.R_lower (Kd.R_newB (Kd.R_newB (Kd.R_newB (Kd.R_new' ho0 (Kd.R_lt (y10 HO_578000.out))) (g := gb575) (o := .cells #[.slice (some ad578) l0_0.length c0_0] 30 (0, 0)) (y0 BK575.out)) (g := gb576) (o := .cells #[.slice none 0 0] 30 (0, 0)) (y0 BK576.out)) (g := gb577) (o := .cells #[u578000] 30 (0, 0)) (y0 BK577.out)) (below_size (y7 HB.out GE575.out GE576.out GE577.out)))
      replace HO_578000 := Aside0.mk (Kd.R_elder' (y10 HO_578000.out) (Kd.R_base ho0) hb)
      replace BK575 := zbb BK575 hb
      replace BK576 := zbb BK576 hb
      replace BK577 := zbb BK577 hb
      replace HB := Aside0.mk (below_step (y7 HB.out GE575.out GE576.out GE577.out) hb)
      (try clear hb)
      (try clear hb2)
      (try clear hk)
      (try clear hi)
      (try clear ho0)
      obtain ⟨Ao18, co18, eo18⟩ := Kd.R_slice HO581.out
      (first | subst eo18 | (injection eo18 with f1_ f2_ f3_; have f4_ := f1_.symm; have f5_ := f3_.symm; clear f1_ f2_ f3_; subst f4_; subst f5_))
      refine hK.out _ _ ⟨(blk_cell BK577.out 0).trans rfl, (blk_cell BK575.out 0).trans rfl, ((HB.out.cell (World.block_lt_of_cell? w _ hw578_0)).trans hw578_0)⟩ (fun hHeld => ?_)
      clear hK K
      refine norm_ (a' := ?_) ?_ ?_
      rotate_left
      ·show Act.put _ (some 20) _ = _
       simp only [Act.put, List.setIfInBounds_toArray, List.set_cons_zero, List.set_cons_succ, i64_w, i32_w]
       rfl
      refine one_ (i := 8) (N := some 21) #[true, true, true, true, true, true, true, true, true, false, false, false] rfl rfl (one_of HT_.out (by kernel_rfl)) (by decide) (fun K hK => ?_)
      refine value_ (w1 := ?_) (v := ?_) (by rfl) rfl ?_ ?_
      rotate_left 2
      ·go_simp
       constructor
       ·rfl
       ·rfl
      refine hK.out _ _ ⟨(blk_cell (blk_alloc BK577.out _) 0).trans rfl, (blk_cell (blk_alloc BK575.out _) 0).trans rfl, (World.cell?_alloc_lt _ _ _ (World.block_lt_of_cell? _ _ (((HB.out.cell (World.block_lt_of_cell? w _ hw578_0)).trans hw578_0)))).trans (((HB.out.cell (World.block_lt_of_cell? w _ hw578_0)).trans hw578_0))⟩ (fun hHeld => ?_)
      clear hK K
      refine norm_ (a' := ?_) ?_ ?_
      rotate_left
      ·show Act.put _ (some 21) _ = _
       simp only [Act.put, List.setIfInBounds_toArray, List.set_cons_zero, List.set_cons_succ, i64_w, i32_w]
       rfl
      refine one_ (i := 9) (N := some 22) #[true, true, true, true, true, true, true, true, true, true, false, false] rfl rfl (one_of HT_.out (by kernel_rfl)) (by decide) (fun K hK => ?_)
      refine Kd.R_append_step k30 (w0 := w) w.heap.size (by rfl) (.tmp 14) (.tmp 21) 28 30 (.agg #[(.slice none 0 0)]) 24 rfl Try.underlying28 info30 rfl (by decide) (by omega) u578000 x578000_1 (⟨t579⟩ : S30) [.slice Ao18 t579.length co18] (fun k_ => k_ ≠ gb575 ∧ k_ ≠ gb576 ∧ k_ ≠ gb577) (fun k_ => ((fun k_ => k_ ≠ gb575 ∧ k_ ≠ gb576 ∧ k_ ≠ gb577)) k_ ∧ some k_ ≠ (u578000 : Value).ownBlock) rfl rfl ?aP (fun _ hk => hk) ?aF ?aO ?aB ?aS ?aL ?_
      (case aP => exact k30_mkM _ _ _ (⟨t579⟩ : S30) (Kd.R_mono (HO581.out) (fun k_ hk => ⟨⟨hk.1.1.2, ⟨hk.1.2, hk.2⟩⟩, hk.1.1.1.2⟩)))
      (case aB => exact (y7 HB.out GE575.out GE576.out GE577.out))
      (case aF => exact (fun k_ hk => ⟨Kd.freshB (g := gb575) (o := .cells #[.slice (some ad578) l0_0.length c0_0] 30 (0, 0)) (y0 BK575.out) k_ hk, Kd.freshB (g := gb576) (o := .cells #[.slice none 0 0] 30 (0, 0)) (y0 BK576.out) k_ hk, Kd.freshB (g := gb577) (o := .cells #[u578000] 30 (0, 0)) (y0 BK577.out) k_ hk⟩))
      (case aO => exact (by (with_reducible repeat (first | apply Kd.R_alloc | apply Kd.R_drewN | apply Kd.R_drew)); exact Kd.R_mono HO_578000.out (fun _ hk => ⟨hk.1.1, ⟨hk.1.2.1, hk.1.2.2⟩⟩)))
      (case aS => exact (below_size (y7 HB.out GE575.out GE576.out GE577.out)))
      (case aL => exact y46 LMc11.out)
      intro v583 w17 ho hb hg hat
      rw [← Ny582.out] at ho
      replace BK575 := Aside0.mk (blk_grown (g := gb575) (o := .cells #[.slice (some ad578) l0_0.length c0_0] 30 (0, 0)) (y0 BK575.out) hg (Kd.R_away HO_578000.out (fun _ hk => hk.1.1)))
      replace BK576 := Aside0.mk (blk_grown (g := gb576) (o := .cells #[.slice none 0 0] 30 (0, 0)) (y0 BK576.out) hg (Kd.R_away HO_578000.out (fun _ hk => hk.1.2.1)))
      replace BK577 := Aside0.mk (blk_grown (g := gb577) (o := .cells #[u578000] 30 (0, 0)) (y0 BK577.out) hg (Kd.R_away HO_578000.out (fun _ hk => hk.1.2.2)))
      replace HB := Aside0.mk (hb)
      have HO584 := Aside0.mk (ho)
      clear HO581 HO_578000
      clear ho hb hg hat
      obtain ⟨Ao19, co19, eo19⟩ := Kd.R_slice HO584.out
      (first | subst eo19 | (injection eo19 with f1_ f2_ f3_; have f4_ := f1_.symm; have f5_ := f3_.symm; clear f1_ f2_ f3_; subst f4_; subst f5_))
      refine hK.out _ _ ⟨(blk_cell BK577.out 0).trans rfl, (blk_cell BK575.out 0).trans rfl, ((HB.out.cell (World.block_lt_of_cell? w _ hw578_0)).trans hw578_0)⟩ (fun hHeld => ?_)
      clear hK K
      refine norm_ (a' := ?_) ?_ ?_
      rotate_left
      ·show Act.put _ (some 22) _ = _
       simp only [Act.put, List.setIfInBounds_toArray, List.set_cons_zero, List.set_cons_succ, i64_w, i32_w]
       rfl
      refine zp 10 (some 23) HT_ ?_
      refine last_ (i := 11) (N := none) #[true, true, true, true, true, true, true, true, true, true, true, true] rfl rfl (one_of HT_.out (by kernel_rfl)) (by decide) (fun K hK => ?_)
      have hs20 : w17.cell? ⟨gb577, 0, none⟩ = some (u578000) := (blk_cell BK577.out 0).trans rfl
      have hfs20 := zfr BK577 0
      have hns20_0 := NB575_577.out
      have hns20_1 := NB576_577.out
      have hms20_0 := NB577_575.out
      have hms20_1 := NB577_576.out
      refine skip_ (w1 := ?_) (by rfl) rfl ?_ ?_
      rotate_left
      ·go_simp
       rfl
      refine hK.out _ _ ?_
      clear hK K
      refine done_ (done_of HT_.out (by kernel_rfl)) ?_
      try go_wp2
      go_roundg k1
      case measure => have := HK1.out; omega
      case rel => exact ⟨(wrap64 (x4_1 + 1)), (y582), (.slice Ao19 y582.length co19), y26, H', ⟨(y46 HK1.out)⟩, ⟨(by (with_reducible repeat (first | apply Kd.R_alloc | apply Kd.R_drewN | apply Kd.R_drew)); exact Kd.R_mono (Kd.R_far (p := ⟨gb577, 0, none⟩) (Kd.R_mono HO584.out (fun k_ hk => (⟨hk, hk.2.2⟩ : _ ∧ k_ ≠ gb577))) (fun _ hk => hk.2) (.slice Ao19 y582.length co19)) (fun _ hk => ⟨hk.1.1, ⟨hk.1.2.1, hk.1.2.2⟩⟩))⟩, ⟨(y21 NB575_577.out BK575.out)⟩, ⟨(y21 NB576_577.out BK576.out)⟩, ⟨(by (with_reducible repeat (first | refine blk_drewN ?_ _ | refine blk_drew ?_ | refine blk_alloc ?_ _)); refine blk_put (cs := #[u578000]) ?_ 0 _ rfl; (with_reducible repeat (first | refine blk_drewN ?_ _ | refine blk_drew ?_ | refine blk_alloc ?_ _)); exact BK577.out)⟩, ⟨(y7 HB.out GE575.out GE576.out GE577.out)⟩⟩
     ·rw [if_neg c11] at H
      exact absurd H (by simp)
    ·rw [if_neg c9] at H
     exact absurd H (by simp)
   ·rw [if_neg c8] at H
    have c8b0 : decide (x4_1 < (l0_0.length : Int)) = false := decide_eq_false c8
    clear c8
    obtain rfl := Option.some.inj H
    have hnb21 := NB575_576.out
    have hnc21 := NB576_575.out
    have hnb22 := NB575_577.out
    have hnc22 := NB577_575.out
    have hcz23_0 := zh BK575
    have hfz23_0 := zfr BK575 0
    have hnb24 := NB577_576.out
    have hnc24 := NB576_577.out
    have hcz25_0 := zh BK577
    have hfz25_0 := zfr BK577 0
    obtain ⟨Ao26, co26, eo26⟩ := Kd.R_slice HO_578000.out
    subst eo26
    have hcz27_0 := zh BK576
    have hfz27_0 := zfr BK576 0
    go_wp2
    refine bodyPost_ret (results_cell_row rfl _ _ gb576 30 #[.slice Ao26 x578000_1.length co26] (0, 0) _ rfl (by (with_reducible repeat (first | refine blk_drewN ?_ _ | refine blk_drew ?_ | refine blk_alloc ?_ _)); apply blk_put (i := 0); (case h => exact y0 BK576.out); (case e => rfl)) Try.underlying30 rfl (by kernel_rfl)) rfl ?_
    exact ⟨_, y14, (by (with_reducible repeat (first | apply Kd.R_alloc | apply Kd.R_drewN | apply Kd.R_drew)); exact Kd.R_mono (Kd.R_far (p := ⟨gb576, 0, none⟩) (Kd.R_mono HO_578000.out (fun k_ hk => (⟨hk, hk.2.1⟩ : _ ∧ k_ ≠ gb576))) (fun _ hk => hk.2) (.slice Ao26 x578000_1.length co26)) (fun _ hk => trivial)), (y7 HB.out GE575.out GE576.out GE577.out)⟩
end Go.Proofs.Ytjhbhihfifhljaa.PA
end
section
namespace Go.Proofs.Ytjhbhihfifhljaa.PA
open Go.RowKit Go.Proofs.YtjhbhihfifhljaaW.PrintWords Go.Proofs.YtjhbhihfifhljaaW.PrintLast Go.Proofs.YtjhbhihfifhljaaW.PrintMore
attribute [local go_sem] max2_int min2_int max_two min_two max_three min_three max_four min_four
set_option linter.unusedVariables false
set_option linter.unusedSimpArgs false
def spec_TypeAt.l0 : Nat → List Int → Int → List (S30) → Option ((List (S30)) × Bool)
 | 0, _, _, _ => none
 | k + 1, x1, x6, x586000 => if x6 < (x1.length : Int) then (if 0 ≤ x6 then ((spec_l6In.f (rd x1 x6) 0 (wrap64 ((x586000.length : Int) - 1))).bind fun t589 => (if t589 = true then (if 0 ≤ (rd x1 x6) then (if (rd x1 x6) < (x586000.length : Int) then (spec_TypeAt.l0 k x1 (wrap64 (x6 + 1)) ((rd_T30 x586000 (rd x1 x6)).f0)) else (none)) else (none)) else (some (([] : List (S30)), false)))) else (none)) else ((spec_l1Copy.f k x586000).bind fun t592 => (some (t592, true)))
def spec_TypeAt.f (k : Nat) (l0_0 : List (S30)) (l1 : List Int) : Option ((List (S30)) × Bool) := (spec_TypeOk.f k l0_0).bind fun t587 => (if t587 = true then (spec_TypeAt.l0 k l1 0 l0_0) else (some (([] : List (S30)), false)))
theorem spec_TypeAt.mono_l : ∀ k, (∀ y0 y1 y2, LeO (spec_TypeAt.l0 k y0 y1 y2) (spec_TypeAt.l0 (k + 1) y0 y1 y2))
 | 0 => fun _ _ _ r h => by simp [spec_TypeAt.l0] at h
 | k + 1 => by
  have ih0 := spec_TypeAt.mono_l k
  ·intro y0 y1 y2
   unfold spec_TypeAt.l0
   repeat' first
   | (with_reducible exact ih0 _ _ _)
   | (with_reducible exact spec_TypeOk.mono _ _)
   | (with_reducible exact spec_l1Copy.mono _ _)
   | (with_reducible exact LeO.refl _)
   | (with_reducible exact LeO.none _)
   | (with_reducible refine LeO.ite ?_ ?_)
   | (with_reducible refine LeO.bind ?_ (fun _ => ?_))
   | exact ih0 _ _ _
   | exact spec_TypeOk.mono _ _
   | exact spec_l1Copy.mono _ _
   | exact LeO.none _
   | refine LeO.ite ?_ ?_
   | refine LeO.bind ?_ (fun _ => ?_)
theorem spec_TypeAt.mono : ∀ a0 a1 k, LeO (spec_TypeAt.f k a0 a1) (spec_TypeAt.f (k + 1) a0 a1) := by
 intro a0 a1 k
 have ih0 := spec_TypeAt.mono_l k
 unfold spec_TypeAt.f
 repeat' first
   | (with_reducible exact ih0 _ _ _)
   | (with_reducible exact spec_TypeOk.mono _ _)
   | (with_reducible exact spec_l1Copy.mono _ _)
   | (with_reducible exact LeO.refl _)
   | (with_reducible exact LeO.none _)
   | (with_reducible refine LeO.ite ?_ ?_)
   | (with_reducible refine LeO.bind ?_ (fun _ => ?_))
   | exact ih0 _ _ _
   | exact spec_TypeOk.mono _ _
   | exact spec_l1Copy.mono _ _
   | exact LeO.none _
   | refine LeO.ite ?_ ?_
   | refine LeO.bind ?_ (fun _ => ?_)
def spec_TypeAt.T6 : Bool × List (List Nat × List Nat) := (true, [([], []), ([], []), ([0, 1], [0, 1]), ([2], [2]), ([], []), ([4], [4]), ([5], [5]), ([6], [6]), ([3, 7], [3, 7]), ([8], [8])])
def spec_TypeAt.B6 : List Nat := [0, 0, 3, 7, 0, 16, 48, 112, 255, 511]
theorem spec_TypeAt.tab6 : rtab .any (opsOf Try.f33 6) = spec_TypeAt.T6 := by kernel_rfl
theorem spec_TypeAt.bits6 : waitsOk spec_TypeAt.T6.2 spec_TypeAt.B6 = true := by kernel_rfl
def spec_TypeAt.T8 : Bool × List (List Nat × List Nat) := (true, [([], []), ([0], [0]), ([], []), ([], []), ([2, 3], [2, 3]), ([4], [4]), ([1, 5], [1, 5]), ([6], [6]), ([7, 0, 1, 2, 3, 4, 5, 6, 7], [7])])
def spec_TypeAt.B8 : List Nat := [0, 1, 0, 0, 12, 28, 63, 127, 255]
theorem spec_TypeAt.tab8 : rtab .any (opsOf Try.f33 8) = spec_TypeAt.T8 := by kernel_rfl
theorem spec_TypeAt.bits8 : waitsOk spec_TypeAt.T8.2 spec_TypeAt.B8 = true := by kernel_rfl
set_option maxHeartbeats 8000000 in
set_option maxRecDepth 100000 in
theorem spec_TypeAt.calls (k : Nat) (P0_0_ : Nat → Prop) (A0_0 : Option Addr) (c0_0 : Nat) (l0_0 : List (S30)) (A1 : Option Addr) (c1 : Nat) (l1 : List Int) (r1 : List (S30)) (r2 : Bool) (w : World) (hs0_0 : Kd.V k30 30 w w.heap.size (fun k_ => P0_0_ k_) (.slice A0_0 l0_0.length c0_0) l0_0) (hr1 : Kd.C (Kd.int .i64) w A1 l1.length l1) (hc1 : l1.length ≤ c1) (h : spec_TypeAt.f k l0_0 l1 = some (r1, r2)) :
  Calls Try.prog 33 #[.agg #[.slice A0_0 l0_0.length c0_0], .slice A1 l1.length c1] w fun e w' => ∃ v0_ : Value, e = .returned (.tuple #[.agg #[v0_], .bool r2]) ∧ Kd.R k30 30 w' w.heap.size (fun k_ => (w.heap.size ≤ k_)) v0_ r1 ∧ Below w.heap.size w w' := by
 have hu30 := Try.underlying30
 have HO0_0 := Aside0.mk (show Kd.V k30 30 w w.heap.size (fun k_ => (P0_0_ k_ ∨ w.heap.size ≤ k_)) (.slice A0_0 l0_0.length c0_0) l0_0 from Kd.V_mono hs0_0 (fun k_ hk => .inl hk))
 have HR1 := Aside0.mk hr1
 have HC1 := Aside0.mk hc1
 clear hr1 hc1
 have HB := Aside0.mk (Below.refl w.heap.size w)
 have H : ((spec_TypeOk.f k l0_0).bind fun t587 => (if t587 = true then (spec_TypeAt.l0 k l1 0 l0_0) else (some (([] : List (S30)), false)))) = some (r1, r2) := h
 clear h
 obtain ⟨t587, A30, H⟩ := ob H
 have A3 := Aside0.mk A30
 clear A30
 by_cases c4 : t587 = true
 ·subst c4
  rw [if_pos rfl] at H
  have H' := Aside0.mk H
  clear H
  go_enter Try.func33, Try.ntmps33
  go_wp2_with (first | ((with_reducible refine gate_dst (N := 2) rfl ?_); refine zbx 2 #[.slice A0_0 l0_0.length c0_0] 30 ?_; intro gb585 hg w5 hbox hb; replace HO0_0 := Aside0.mk (Kd.V_below (Kd.V_elderB (y13 HO0_0.out) gb585 (Nat.le_of_eq hg.symm)) hb); have BK585 := Aside0.mk hbox; have GW585 := Aside0.mk ((y5 hg HB.out : w.heap.size ≤ gb585)); have GE585 := Aside0.mk ((y5 hg HB.out : w.heap.size ≤ gb585)); replace HB := Aside0.mk (below_step (y2 HB.out) hb); clear hb hbox hg) | ((with_reducible refine gate_dst (N := 4) rfl ?_); refine zbx 4 #[.slice none 0 0] 30 ?_; intro gb586 hg w6 hbox hb; replace HO0_0 := Aside0.mk (Kd.V_below (Kd.V_elderB (y13 HO0_0.out) gb586 (Nat.le_of_eq hg.symm)) hb); have BK586 := Aside0.mk hbox; have GW586 := Aside0.mk ((y6 hg HB.out GE585.out : w.heap.size ≤ gb586)); have GE586 := Aside0.mk ((y6 hg HB.out GE585.out : w.heap.size ≤ gb586)); replace HB := Aside0.mk (below_step (y3 HB.out GE585.out) hb); have NB585_586 := zltn hg BK585; have NB586_585 := zgtn hg BK585; replace BK585 := zbb BK585 hb; clear hb hbox hg; have hnb7 := NB585_586.out; have hnc7 := NB586_585.out; have hcz8_0 := zh BK585; have hfz8_0 := zfr BK585 0) | ((with_reducible refine gate_callee (f := 16) rfl ?_); refine goesL_ (some 8) rfl rfl Try.func16 (by kernel_rfl) rfl #[.agg #[.slice A0_0 l0_0.length c0_0]] rfl y4 ?_; (with_reducible refine (spec_TypeOk.calls k _ _ l0_0 true _ ?side1 ?side2 A3.out).mono ?_); (case side1 => exact y31 HO0_0.out); (case side2 => exact (Kd.V_reads' HO0_0.out).2.1); rintro e w9 ⟨rfl, hb⟩; refine ⟨_, rfl, ?_⟩; replace HO0_0 := Aside0.mk (Kd.V_below (y13 HO0_0.out) hb); replace BK585 := zbb BK585 hb; replace BK586 := zbb BK586 hb; replace HB := Aside0.mk (below_step (y1 HB.out GE585.out GE586.out) hb); (try clear hb); (try clear hb2); (try clear hk); (try clear hi)))
  go_loopg [6] k (fun kq v6 w' => ∃ (x6_1 : Int) (x586000_1 : List (S30)) (u586000 : Value), v6 = .int .i64 x6_1 ∧ Aside0 (spec_TypeAt.l0 kq l1 x6_1 x586000_1 = some (r1, r2)) ∧ Aside0 (kq ≤ k) ∧ Aside0 (Kd.V k30 30 w' w.heap.size (fun k_ => (P0_0_ k_ ∨ w.heap.size ≤ k_) ∧ k_ ≠ gb585 ∧ k_ ≠ gb586) u586000 x586000_1) ∧ Aside0 (w'.heap[gb585]? = some (.cells #[u586000] 30 (0, 0))) ∧ Aside0 (w'.heap[gb586]? = some (.cells #[(.slice none 0 0)] 30 (0, 0))) ∧ Aside0 (Below w.heap.size w w'))
  case atStart => exact ⟨(0), (l0_0), (.slice A0_0 l0_0.length c0_0), y26, H', ⟨Nat.le_refl _⟩, ⟨(y63 HO0_0.out)⟩, ⟨(y0 BK585.out)⟩, ⟨(y0 BK586.out)⟩, ⟨(y1 HB.out GE585.out GE586.out)⟩⟩
  case round =>
   clear H'
   try clear c1
   try clear p2
   try clear c3
   try clear c4
   try clear c7
   try clear hcz8_0
   try clear hfz8_0
   obtain ⟨x6_1, x586000_1, u586000, rfl, HA, HK1, HO_586000, BK585, BK586, HB⟩ := hrel
   cases gk with
   | zero => exact absurd HA.out (by simp [spec_TypeAt.l0])
   | succ k1 =>
    have H := HA.out
    clear HA
    simp only [spec_TypeAt.l0] at H
    by_cases c10 : x6_1 < (l1.length : Int)
    ·rw [if_pos c10] at H
     have c10b0 : decide (x6_1 < (l1.length : Int)) = true := decide_eq_true c10
     clear c10
     by_cases c11 : 0 ≤ x6_1
     ·rw [if_pos c11] at H
      have c11b0 : decide (0 ≤ x6_1) = true := decide_eq_true c11
      clear c11
      obtain ⟨t589, A120, H⟩ := ob H
      have A12 := Aside0.mk A120
      clear A120
      by_cases c13 : t589 = true
      ·subst c13
       rw [if_pos rfl] at H
       by_cases c14 : 0 ≤ (rd l1 x6_1)
       ·rw [if_pos c14] at H
        have c14b0 : decide (0 ≤ (rd l1 x6_1)) = true := decide_eq_true c14
        clear c14
        by_cases c15 : (rd l1 x6_1) < (x586000_1.length : Int)
        ·rw [if_pos c15] at H
         have c15b0 : decide ((rd l1 x6_1) < (x586000_1.length : Int)) = true := decide_eq_true c15
         clear c15
         have H' := Aside0.mk H
         clear H
         try go_wp2
         replace HO_586000 := Aside0.mk (Kd.V_drew HO_586000.out)
         replace BK585 := Aside0.mk (blk_drew BK585.out)
         replace BK586 := Aside0.mk (blk_drew BK586.out)
         replace HB := Aside0.mk (below_drew1 HB.out)
         have p588 : 0 ≤ (x6_1 : Int) := of_decide_eq_true y19
         have q588 : x6_1 < (l1.length : Int) := of_decide_eq_true y19
         obtain ⟨ad588, e588, hx588_0⟩ := Kd.at_int HR1.out x6_1 p588 q588
         have hw588_0 := hx588_0
         cases e588
         replace hx588_0 := (HB.out.cell (World.block_lt_of_cell? w _ hx588_0)).trans hx588_0
         replace p588 := eq_true p588
         replace q588 := eq_true q588
         obtain ⟨Ao17, co17, eo17⟩ := Kd.V_slice HO_586000.out
         (first | subst eo17 | (injection eo17 with f1_ f2_ f3_; have f4_ := f1_.symm; have f5_ := f3_.symm; clear f1_ f2_ f3_; subst f4_; subst f5_))
         refine start_ (n := 10) (S := fun w' => w'.cell? ⟨gb585, 0, none⟩ = some (.slice Ao17 x586000_1.length co17) ∧ w'.cell? (ad588.add (x6_1).toNat) = some (.int .i64 (rd l1 x6_1))) (ds := []) #[false, false, false, false, false, false, false, false, false, false] (by kernel_rfl) rfl rfl ⟨(blk_cell BK585.out 0).trans rfl, ((HB.out.cell (World.block_lt_of_cell? w _ hw588_0)).trans hw588_0)⟩ (fun hHeld => ?_); refine with_tabW spec_TypeAt.tab6 spec_TypeAt.bits6 (fun HT_ HW_ => ?_)
         generalize wr.drew = w16 at HO_586000 BK585 BK586 HB hx588_0 hHeld ⊢
         refine zp 0 (some 17) HT_ ?_
         refine zp 1 (some 18) HT_ ?_
         refine zp 2 (some 19) HT_ ?_
         refine zp 4 (some 21) HT_ ?_
         refine zt2 3 (some 20) HT_ HW_ hHeld ?_
         refine zt2 5 (some 22) HT_ HW_ hHeld ?_
         refine zp 6 (some 23) HT_ ?_
         refine zp 7 (some 24) HT_ ?_
         refine one_ (i := 8) (N := some 25) #[true, true, true, true, true, true, true, true, true, false] rfl rfl (one_of HT_.out (by kernel_rfl)) (by decide) (fun K hK => ?_)
         refine goes_ Try.func65 (by kernel_rfl) rfl #[.int .i64 (rd l1 x6_1), .int .i64 0, .int .i64 (wrap64 ((x586000_1.length : Int) - 1))] (by rfl) rfl rfl y4 ?_
         with_reducible refine (spec_l6In.calls (rd l1 x6_1) 0 (wrap64 ((x586000_1.length : Int) - 1)) true _ A12.out).mono ?_
         rintro e w' ⟨rfl, ⟨nd, rfl⟩⟩
         refine ⟨_, rfl, ?_⟩
         refine hK.out _ _ ⟨(blk_cell BK585.out 0).trans rfl, ((HB.out.cell (World.block_lt_of_cell? w _ hw588_0)).trans hw588_0)⟩ (fun hHeld => ?_)
         clear hK K
         refine norm_ (a' := ?_) ?_ ?_
         rotate_left
         ·show Act.put _ (some 25) _ = _
          simp only [Act.put, List.setIfInBounds_toArray, List.set_cons_zero, List.set_cons_succ, i64_w, i32_w]
          rfl
         refine zp 9 (some 26) HT_ ?_
         refine done_ (done_of HT_.out (by kernel_rfl)) ?_
         try go_wp2
         (try (rw [drewN_self w16]; generalize hq_ : World.drewN w16 _ = w16; have n0_ : Aside0 (Kd.V k30 30 w16 w.heap.size (fun k_ => (P0_0_ k_ ∨ w.heap.size ≤ k_) ∧ k_ ≠ gb585 ∧ k_ ≠ gb586) (.slice Ao17 x586000_1.length co17) x586000_1) := ⟨(by rw [← hq_]; exact (y13 HO_586000.out))⟩; have n1_ : Aside0 (w16.heap[gb585]? = some (.cells #[.slice Ao17 x586000_1.length co17] 30 (0, 0))) := ⟨(by rw [← hq_]; exact (y0 BK585.out))⟩; have n2_ : Aside0 (w16.heap[gb586]? = some (.cells #[.slice none 0 0] 30 (0, 0))) := ⟨(by rw [← hq_]; exact (y0 BK586.out))⟩; have n3_ : Aside0 (Below w.heap.size w w16) := ⟨(by rw [← hq_]; exact (y1 HB.out GE585.out GE586.out))⟩; clear HO_586000 BK585 BK586 HB hq_; have HO_586000 := n0_; have BK585 := n1_; have BK586 := n2_; have HB := n3_; clear n0_ n1_ n2_ n3_))
         replace HO_586000 := Aside0.mk (Kd.V_drew HO_586000.out)
         replace BK585 := Aside0.mk (blk_drew BK585.out)
         replace BK586 := Aside0.mk (blk_drew BK586.out)
         replace HB := Aside0.mk (below_drew1 HB.out)
         have p590 : 0 ≤ (x6_1 : Int) := of_decide_eq_true y19
         have q590 : x6_1 < (l1.length : Int) := of_decide_eq_true y19
         obtain ⟨ad590, e590, hx590_0⟩ := Kd.at_int HR1.out x6_1 p590 q590
         have hw590_0 := hx590_0
         obtain rfl : ad588 = ad590 := (by injection e590)
         replace hx590_0 := (HB.out.cell (World.block_lt_of_cell? w _ hx590_0)).trans hx590_0
         replace p590 := eq_true p590
         replace q590 := eq_true q590
         have p591 : 0 ≤ ((rd l1 x6_1) : Int) := of_decide_eq_true y19
         have q591 : (rd l1 x6_1) < (x586000_1.length : Int) := of_decide_eq_true y19
         obtain ⟨ad591, A591_0, c591_0, e591, hx591_0, hl591_0, hi591_0⟩ := at_T30 (Kd.V_reads' HO_586000.out).2.2 (rd l1 x6_1) p591 q591
         cases e591
         obtain ⟨ce591, hce591, hMe591, hcc591⟩ := Kd.V_get HO_586000.out z30 (rd l1 x6_1) p591 (by first | exact q591 | exact of_decide_eq_true y19 | (have e_ := (Kd.V_reads' HO_586000.out).1; omega))
         obtain ⟨ua591_0, uc591_0, rfl, ul591_0, ge591_0⟩ := k30_openF hMe591
         have hv591_0 := hcc591 0 _ rfl
         rw [Nat.add_zero, show (k30).sz = 1 from rfl, Nat.mul_one] at hv591_0
         replace hv591_0 := Option.some.inj (hv591_0.symm.trans hx591_0)
         injection hv591_0 with hva_ hvn_ hvc_
         rw [hva_] at ge591_0
         rw [hvc_] at ul591_0
         have HL591_0 := Aside0.mk (show Kd.V k30 30 _ w.heap.size _ _ ((rd_T30 x586000_1 (rd l1 x6_1)).f0) from Kd.V_mk ul591_0 ge591_0)
         clear hva_ hvn_ hvc_ ge591_0 ul591_0
         clear hcc591 hce591
         have HR591_0 := Aside0.mk hi591_0
         have HC591_0 := Aside0.mk hl591_0
         clear hi591_0 hl591_0
         replace p591 := eq_true p591
         replace q591 := eq_true q591
         refine start_ (n := 9) (S := fun w' => w'.cell? ⟨gb585, 0, none⟩ = some (.slice (some ad591) x586000_1.length co17) ∧ w'.cell? (ad588.add (x6_1).toNat) = some (.int .i64 (rd l1 x6_1)) ∧ w'.cell? (ad591.add ((rd l1 x6_1)).toNat) = some (.slice A591_0 ((rd_T30 x586000_1 (rd l1 x6_1)).f0).length c591_0)) (ds := [8]) #[false, false, false, false, false, false, false, false, false] (by kernel_rfl) rfl rfl ⟨(blk_cell BK585.out 0).trans rfl, ((HB.out.cell (World.block_lt_of_cell? w _ hw590_0)).trans hw590_0), hx591_0⟩ (fun hHeld => ?_); refine with_tabW spec_TypeAt.tab8 spec_TypeAt.bits8 (fun HT_ HW_ => ?_)
         generalize w16.drew = w18 at HO_586000 BK585 BK586 HB HL591_0 HR591_0 hx590_0 hx591_0 hHeld ⊢
         refine zp 0 (some 28) HT_ ?_
         refine zp 2 (some 30) HT_ ?_
         refine zp 3 (some 31) HT_ ?_
         refine zp 4 (some 32) HT_ ?_
         refine zt3 1 (some 29) HT_ HW_ hHeld ?_
         refine zt3 5 (some 33) HT_ HW_ hHeld ?_
         refine zp 6 (some 34) HT_ ?_
         refine zt3 7 (some 35) HT_ HW_ hHeld ?_
         refine last_ (i := 8) (N := none) #[true, true, true, true, true, true, true, true, true] rfl rfl (one_of HT_.out (by kernel_rfl)) (by decide) (fun K hK => ?_)
         have hs19 : w18.cell? ⟨gb585, 0, none⟩ = some (.slice (some ad591) x586000_1.length co17) := (blk_cell BK585.out 0).trans rfl
         have hfs19 := zfr BK585 0
         have hns19_1 := NB586_585.out
         have hms19_1 := NB585_586.out
         refine skip_ (w1 := ?_) (by rfl) rfl ?_ ?_
         rotate_left
         ·go_simp
          rfl
         refine hK.out _ _ ?_
         clear hK K
         refine done_ (done_of HT_.out (by kernel_rfl)) ?_
         try go_wp2
         go_roundg k1
         case measure => have := HK1.out; omega
         case rel => exact ⟨(wrap64 (x6_1 + 1)), ((rd_T30 x586000_1 (rd l1 x6_1)).f0), (.slice A591_0 ((rd_T30 x586000_1 (rd l1 x6_1)).f0).length c591_0), y26, H', ⟨(y46 HK1.out)⟩, ⟨(by (with_reducible repeat (first | apply Kd.V_alloc | apply Kd.V_drewN | apply Kd.V_drew)); exact Kd.V_mono (Kd.V_far (p := ⟨gb585, 0, none⟩) (Kd.V_mono HL591_0.out (fun k_ hk => (⟨hk, hk.2.1⟩ : _ ∧ k_ ≠ gb585))) (fun _ hk => hk.2) (.slice A591_0 ((rd_T30 x586000_1 (rd l1 x6_1)).f0).length c591_0)) (fun _ hk => ⟨hk.1.1, ⟨hk.1.2.1, hk.1.2.2⟩⟩))⟩, ⟨(by (with_reducible repeat (first | refine blk_drewN ?_ _ | refine blk_drew ?_ | refine blk_alloc ?_ _)); refine blk_put (cs := #[.slice (some ad591) x586000_1.length co17]) ?_ 0 _ rfl; (with_reducible repeat (first | refine blk_drewN ?_ _ | refine blk_drew ?_ | refine blk_alloc ?_ _)); exact BK585.out)⟩, ⟨(y21 NB586_585.out BK586.out)⟩, ⟨(y1 HB.out GE585.out GE586.out)⟩⟩
        ·rw [if_neg c15] at H
         exact absurd H (by simp)
       ·rw [if_neg c14] at H
        exact absurd H (by simp)
      ·replace c13 := Bool.eq_false_iff.mpr c13
       subst c13
       rw [if_neg (show ¬ (false = true) by decide)] at H
       simp only [Option.some.injEq, Prod.mk.injEq] at H
       obtain ⟨rfl, rfl⟩ := H
       try go_wp2
       replace HO_586000 := Aside0.mk (Kd.V_drew HO_586000.out)
       replace BK585 := Aside0.mk (blk_drew BK585.out)
       replace BK586 := Aside0.mk (blk_drew BK586.out)
       replace HB := Aside0.mk (below_drew1 HB.out)
       have p588 : 0 ≤ (x6_1 : Int) := of_decide_eq_true y19
       have q588 : x6_1 < (l1.length : Int) := of_decide_eq_true y19
       obtain ⟨ad588, e588, hx588_0⟩ := Kd.at_int HR1.out x6_1 p588 q588
       have hw588_0 := hx588_0
       cases e588
       replace hx588_0 := (HB.out.cell (World.block_lt_of_cell? w _ hx588_0)).trans hx588_0
       replace p588 := eq_true p588
       replace q588 := eq_true q588
       obtain ⟨Ao21, co21, eo21⟩ := Kd.V_slice HO_586000.out
       (first | subst eo21 | (injection eo21 with f1_ f2_ f3_; have f4_ := f1_.symm; have f5_ := f3_.symm; clear f1_ f2_ f3_; subst f4_; subst f5_))
       refine start_ (n := 10) (S := fun w' => w'.cell? ⟨gb585, 0, none⟩ = some (.slice Ao21 x586000_1.length co21) ∧ w'.cell? (ad588.add (x6_1).toNat) = some (.int .i64 (rd l1 x6_1))) (ds := []) #[false, false, false, false, false, false, false, false, false, false] (by kernel_rfl) rfl rfl ⟨(blk_cell BK585.out 0).trans rfl, ((HB.out.cell (World.block_lt_of_cell? w _ hw588_0)).trans hw588_0)⟩ (fun hHeld => ?_); refine with_tabW spec_TypeAt.tab6 spec_TypeAt.bits6 (fun HT_ HW_ => ?_)
       generalize wr.drew = w20 at HO_586000 BK585 BK586 HB hx588_0 hHeld ⊢
       refine zp 0 (some 17) HT_ ?_
       refine zp 1 (some 18) HT_ ?_
       refine zp 2 (some 19) HT_ ?_
       refine zp 4 (some 21) HT_ ?_
       refine zt2 3 (some 20) HT_ HW_ hHeld ?_
       refine zt2 5 (some 22) HT_ HW_ hHeld ?_
       refine zp 6 (some 23) HT_ ?_
       refine zp 7 (some 24) HT_ ?_
       refine one_ (i := 8) (N := some 25) #[true, true, true, true, true, true, true, true, true, false] rfl rfl (one_of HT_.out (by kernel_rfl)) (by decide) (fun K hK => ?_)
       refine goes_ Try.func65 (by kernel_rfl) rfl #[.int .i64 (rd l1 x6_1), .int .i64 0, .int .i64 (wrap64 ((x586000_1.length : Int) - 1))] (by rfl) rfl rfl y4 ?_
       with_reducible refine (spec_l6In.calls (rd l1 x6_1) 0 (wrap64 ((x586000_1.length : Int) - 1)) false _ A12.out).mono ?_
       rintro e w' ⟨rfl, ⟨nd, rfl⟩⟩
       refine ⟨_, rfl, ?_⟩
       refine hK.out _ _ ⟨(blk_cell BK585.out 0).trans rfl, ((HB.out.cell (World.block_lt_of_cell? w _ hw588_0)).trans hw588_0)⟩ (fun hHeld => ?_)
       clear hK K
       refine norm_ (a' := ?_) ?_ ?_
       rotate_left
       ·show Act.put _ (some 25) _ = _
        simp only [Act.put, List.setIfInBounds_toArray, List.set_cons_zero, List.set_cons_succ, i64_w, i32_w]
        rfl
       refine zp 9 (some 26) HT_ ?_
       refine done_ (done_of HT_.out (by kernel_rfl)) ?_
       have hnb22 := NB586_585.out
       have hnc22 := NB585_586.out
       have hcz23_0 := zh BK586
       have hfz23_0 := zfr BK586 0
       try go_wp2
       refine bodyPost_ret (results_ct rfl _ _ gb586 30 #[.slice none 0 0] (0, 0) _ rfl (by (with_reducible repeat (first | refine blk_drewN ?_ _ | refine blk_drew ?_ | refine blk_alloc ?_ _)); apply blk_put (i := 0); (case h => exact y0 BK586.out); (case e => rfl)) Try.underlying30 rfl (by kernel_rfl)) rfl ?_
       exact ⟨_, y14, y36, (y1 HB.out GE585.out GE586.out)⟩
     ·rw [if_neg c11] at H
      exact absurd H (by simp)
    ·rw [if_neg c10] at H
     have c10b0 : decide (x6_1 < (l1.length : Int)) = false := decide_eq_false c10
     clear c10
     obtain ⟨t592, A240, H⟩ := ob H
     have A24 := Aside0.mk A240
     clear A240
     simp only [Option.some.injEq, Prod.mk.injEq] at H
     obtain ⟨rfl, rfl⟩ := H
     have hnb25 := NB585_586.out
     have hnc25 := NB586_585.out
     have hcz26_0 := zh BK585
     have hfz26_0 := zfr BK585 0
     obtain ⟨Ao27, co27, eo27⟩ := Kd.V_slice HO_586000.out
     subst eo27
     go_wp2_with (first | ((with_reducible refine gate_callee (f := 66) rfl ?_); refine goesL_ (some 37) rfl rfl Try.func66 (by kernel_rfl) rfl #[.agg #[.slice Ao27 x586000_1.length co27]] rfl y4 ?_; (with_reducible refine (spec_l1Copy.calls k1 _ _ x586000_1 t592 _ ?side1 ?side2 A24.out).mono ?_); (case side1 => exact y31 HO_586000.out); (case side2 => exact (Kd.V_reads' HO_586000.out).2.1); rintro e w28 ⟨v593, rfl, ho0, hb⟩; refine ⟨_, rfl, ?_⟩; replace HO_586000 := Aside0.mk (Kd.V_elder' (y13 HO_586000.out) (Kd.R_base ho0) hb); have HO594 := Aside0.mk (Kd.R_lower (Kd.R_newB (Kd.R_newB (Kd.R_newM (M := fun k_ => (w.heap.size ≤ k_)) ho0 (below_size (y1 HB.out GE585.out GE586.out)) (fun k_ h_ => h_)) (g := gb585) (o := .cells #[.slice Ao27 x586000_1.length co27] 30 (0, 0)) (y0 BK585.out)) (g := gb586) (o := .cells #[.slice none 0 0] 30 (0, 0)) (y0 BK586.out)) (below_size (y1 HB.out GE585.out GE586.out))); replace BK585 := zbb BK585 hb; replace BK586 := zbb BK586 hb; replace HB := Aside0.mk (below_step (y1 HB.out GE585.out GE586.out) hb); (try clear hb); (try clear hb2); (try clear hk); (try clear hi); (try clear ho0); obtain ⟨Ao29, co29, eo29⟩ := Kd.R_slice HO594.out; subst eo29; have hcz30_0 := zh BK586; have hfz30_0 := zfr BK586 0))
     refine bodyPost_ret (results_ct rfl _ _ gb586 30 #[.slice Ao29 t592.length co29] (0, 0) _ rfl (by (with_reducible repeat (first | refine blk_drewN ?_ _ | refine blk_drew ?_ | refine blk_alloc ?_ _)); apply blk_put (i := 0); (case h => exact y0 BK586.out); (case e => rfl)) Try.underlying30 rfl (by kernel_rfl)) rfl ?_
     exact ⟨_, y14, (by (with_reducible repeat (first | apply Kd.R_alloc | apply Kd.R_drewN | apply Kd.R_drew)); exact Kd.R_mono (Kd.R_far (p := ⟨gb586, 0, none⟩) (Kd.R_mono HO594.out (fun k_ hk => (⟨hk, hk.2⟩ : _ ∧ k_ ≠ gb586))) (fun _ hk => hk.2) (.slice Ao29 t592.length co29)) (fun _ hk => hk.1.1.1.1)), (y1 HB.out GE585.out GE586.out)⟩
 ·replace c4 := Bool.eq_false_iff.mpr c4
  subst c4
  rw [if_neg (show ¬ (false = true) by decide)] at H
  simp only [Option.some.injEq, Prod.mk.injEq] at H
  obtain ⟨rfl, rfl⟩ := H
  go_enter Try.func33, Try.ntmps33
  go_wp2_with (first | ((with_reducible refine gate_dst (N := 2) rfl ?_); refine zbx 2 #[.slice A0_0 l0_0.length c0_0] 30 ?_; intro gb585 hg w31 hbox hb; replace HO0_0 := Aside0.mk (Kd.V_below (Kd.V_elderB (y13 HO0_0.out) gb585 (Nat.le_of_eq hg.symm)) hb); have BK585 := Aside0.mk hbox; have GW585 := Aside0.mk ((y5 hg HB.out : w.heap.size ≤ gb585)); have GE585 := Aside0.mk ((y5 hg HB.out : w.heap.size ≤ gb585)); replace HB := Aside0.mk (below_step (y2 HB.out) hb); clear hb hbox hg) | ((with_reducible refine gate_dst (N := 4) rfl ?_); refine zbx 4 #[.slice none 0 0] 30 ?_; intro gb586 hg w32 hbox hb; replace HO0_0 := Aside0.mk (Kd.V_below (Kd.V_elderB (y13 HO0_0.out) gb586 (Nat.le_of_eq hg.symm)) hb); have BK586 := Aside0.mk hbox; have GW586 := Aside0.mk ((y6 hg HB.out GE585.out : w.heap.size ≤ gb586)); have GE586 := Aside0.mk ((y6 hg HB.out GE585.out : w.heap.size ≤ gb586)); replace HB := Aside0.mk (below_step (y3 HB.out GE585.out) hb); have NB585_586 := zltn hg BK585; have NB586_585 := zgtn hg BK585; replace BK585 := zbb BK585 hb; clear hb hbox hg; have hnb33 := NB585_586.out; have hnc33 := NB586_585.out; have hcz34_0 := zh BK585; have hfz34_0 := zfr BK585 0) | ((with_reducible refine gate_callee (f := 16) rfl ?_); refine goesL_ (some 8) rfl rfl Try.func16 (by kernel_rfl) rfl #[.agg #[.slice A0_0 l0_0.length c0_0]] rfl y4 ?_; (with_reducible refine (spec_TypeOk.calls k _ _ l0_0 false _ ?side1 ?side2 A3.out).mono ?_); (case side1 => exact y31 HO0_0.out); (case side2 => exact (Kd.V_reads' HO0_0.out).2.1); rintro e w35 ⟨rfl, hb⟩; refine ⟨_, rfl, ?_⟩; replace HO0_0 := Aside0.mk (Kd.V_below (y13 HO0_0.out) hb); replace BK585 := zbb BK585 hb; replace BK586 := zbb BK586 hb; replace HB := Aside0.mk (below_step (y1 HB.out GE585.out GE586.out) hb); (try clear hb); (try clear hb2); (try clear hk); (try clear hi); have hcz36_0 := zh BK586; have hfz36_0 := zfr BK586 0))
  refine bodyPost_ret (results_ct rfl _ _ gb586 30 #[.slice none 0 0] (0, 0) _ rfl (by (with_reducible repeat (first | refine blk_drewN ?_ _ | refine blk_drew ?_ | refine blk_alloc ?_ _)); apply blk_put (i := 0); (case h => exact y0 BK586.out); (case e => rfl)) Try.underlying30 rfl (by kernel_rfl)) rfl ?_
  exact ⟨_, y14, y36, (y1 HB.out GE585.out GE586.out)⟩
end Go.Proofs.Ytjhbhihfifhljaa.PA
end
section
namespace Go.Proofs.Ytjhbhihfifhljaa.PA
open Go.RowKit Go.Proofs.YtjhbhihfifhljaaW.PrintWords Go.Proofs.YtjhbhihfifhljaaW.PrintLast Go.Proofs.YtjhbhihfifhljaaW.PrintMore
attribute [local go_sem] max2_int min2_int max_two min_two max_three min_three max_four min_four
set_option linter.unusedVariables false
set_option linter.unusedSimpArgs false
mutual
def laws_markTypeS.l0 : Nat → List (S30) → Int → Int → Option (Int)
 | 0, _, _, _ => none
 | k + 1, x0, x1, x5 => if x5 < (x0.length : Int) then (if 0 ≤ x5 then ((laws_markTypeS.f k ((rd_T30 x0 x5).f0) x1).bind fun t777 => (laws_markTypeS.l0 k x0 t777 (wrap64 (x5 + 1)))) else (none)) else (some x1)
def laws_markTypeS.f : Nat → List (S30) → Int → Option (Int)
 | 0, _, _ => none
 | k + 1, l0, a1 => laws_markTypeS.l0 k l0 a1 0
end
theorem laws_markTypeS.mono_l : ∀ k, (∀ y0 y1, LeO (laws_markTypeS.f k y0 y1) (laws_markTypeS.f (k + 1) y0 y1)) ∧ (∀ y0 y1 y2, LeO (laws_markTypeS.l0 k y0 y1 y2) (laws_markTypeS.l0 (k + 1) y0 y1 y2))
 | 0 => ⟨fun _ _ r h => by simp [laws_markTypeS.f] at h, fun _ _ _ r h => by simp [laws_markTypeS.l0] at h⟩
 | k + 1 => by
  obtain ⟨ih0, ih1⟩ := laws_markTypeS.mono_l k
  refine ⟨?_, ?_⟩
  ·intro y0 y1
   unfold laws_markTypeS.f
   repeat' first
   | (with_reducible exact ih0 _ _)
   | (with_reducible exact ih1 _ _ _)
   | (with_reducible exact LeO.refl _)
   | (with_reducible exact LeO.none _)
   | (with_reducible refine LeO.ite ?_ ?_)
   | (with_reducible refine LeO.bind ?_ (fun _ => ?_))
   | exact ih0 _ _
   | exact ih1 _ _ _
   | exact LeO.none _
   | refine LeO.ite ?_ ?_
   | refine LeO.bind ?_ (fun _ => ?_)
  ·intro y0 y1 y2
   unfold laws_markTypeS.l0
   repeat' first
   | (with_reducible exact ih0 _ _)
   | (with_reducible exact ih1 _ _ _)
   | (with_reducible exact LeO.refl _)
   | (with_reducible exact LeO.none _)
   | (with_reducible refine LeO.ite ?_ ?_)
   | (with_reducible refine LeO.bind ?_ (fun _ => ?_))
   | exact ih0 _ _
   | exact ih1 _ _ _
   | exact LeO.none _
   | refine LeO.ite ?_ ?_
   | refine LeO.bind ?_ (fun _ => ?_)
theorem laws_markTypeS.mono : ∀ a0 a1 k, LeO (laws_markTypeS.f k a0 a1) (laws_markTypeS.f (k + 1) a0 a1) := by
 intro a0 a1 k
 obtain ⟨ih0, ih1⟩ := laws_markTypeS.mono_l k
 exact ih0 a0 a1
set_option maxHeartbeats 8000000 in
set_option maxRecDepth 100000 in
theorem laws_markTypeS.calls (k : Nat) : ∀ (A0 : Option Addr) (c0 : Nat) (l0 : List (S30)) (a1 : Int) (r : Int) (w : World) (hr0 : Kd.C k30 w A0 l0.length l0) (hc0 : l0.length ≤ c0) (h : laws_markTypeS.f k l0 a1 = some r),
  Calls Try.prog 72 #[.slice A0 l0.length c0, .int .i64 a1] w fun e w' => e = .returned (.int .i64 r) ∧ Drawn0 w w' := by
 induction k using Nat.strongRecOn with
 | _ k ih =>
 intro A0 c0 l0 a1 r w hr0 hc0 h
 cases k with
 | zero => exact absurd h (by simp [laws_markTypeS.f])
 | succ k =>
 simp only [laws_markTypeS.f] at h
 have HR0 := Aside0.mk hr0
 have HC0 := Aside0.mk hc0
 clear hr0 hc0
 have H : (laws_markTypeS.l0 k l0 a1 0) = some r := h
 clear h
 have H' := Aside0.mk H
 clear H
 go_enter Try.func72, Try.ntmps72
 go_wp2
 go_loopg [1, 5] k (fun kq v1 v5 w' => ∃ (x1_1 : Int) (x5_1 : Int), v1 = .int .i64 x1_1 ∧ v5 = .int .i64 x5_1 ∧ Aside0 (laws_markTypeS.l0 kq l0 x1_1 x5_1 = some r) ∧ Aside0 (kq ≤ k) ∧ Drawn0 w w')
 case atStart => exact ⟨(a1), (0), y26, y26, H', ⟨Nat.le_refl _⟩, y37⟩
 case round =>
  clear H'
  try clear p2
  obtain ⟨x1_1, x5_1, rfl, rfl, HA, HK1, ⟨m1, rfl⟩⟩ := hrel
  cases gk with
  | zero => exact absurd HA.out (by simp [laws_markTypeS.l0])
  | succ k1 =>
   have H := HA.out
   clear HA
   simp only [laws_markTypeS.l0] at H
   by_cases c3 : x5_1 < (l0.length : Int)
   ·rw [if_pos c3] at H
    have c3b0 : decide (x5_1 < (l0.length : Int)) = true := decide_eq_true c3
    clear c3
    by_cases c4 : 0 ≤ x5_1
    ·rw [if_pos c4] at H
     have c4b0 : decide (0 ≤ x5_1) = true := decide_eq_true c4
     clear c4
     obtain ⟨t777, A50, H⟩ := ob H
     have A5 := Aside0.mk A50
     clear A50
     have H' := Aside0.mk H
     clear H
     have p776 : 0 ≤ (x5_1 : Int) := of_decide_eq_true y19
     have q776 : x5_1 < (l0.length : Int) := of_decide_eq_true y19
     obtain ⟨ad776, A776_0, c776_0, e776, hx776_0, hl776_0, hi776_0⟩ := at_T30 HR0.out x5_1 p776 q776
     cases e776
     have HR776_0 := Aside0.mk hi776_0
     have HC776_0 := Aside0.mk hl776_0
     clear hi776_0 hl776_0
     replace p776 := eq_true p776
     replace q776 := eq_true q776
     go_wp2_with (first | ((with_reducible refine gate_callee (f := 72) rfl ?_); refine goesL_ (some 18) rfl rfl Try.func72 (by kernel_rfl) rfl #[.slice A776_0 ((rd_T30 l0 x5_1).f0).length c776_0, .int .i64 x1_1] rfl y4 ?_; (with_reducible refine (ih k1 (y46 HK1.out) _ _ ((rd_T30 l0 x5_1).f0) x1_1 t777 _ ?side1 ?side2 A5.out).mono ?_); (case side1 => exact y53 HR776_0.out); (case side2 => exact HC776_0.out); rintro e w' ⟨rfl, ⟨nd, rfl⟩⟩; refine ⟨_, rfl, ?_⟩))
     go_roundg k1
     case measure => have := HK1.out; omega
     case rel => exact ⟨(t777), (wrap64 (x5_1 + 1)), y26, y26, H', ⟨(y46 HK1.out)⟩, y37⟩
    ·rw [if_neg c4] at H
     exact absurd H (by simp)
   ·rw [if_neg c3] at H
    have c3b0 : decide (x5_1 < (l0.length : Int)) = false := decide_eq_false c3
    clear c3
    obtain rfl := Option.some.inj H
    go_wp2
    go_ret
    exact ⟨y26, y37⟩
end Go.Proofs.Ytjhbhihfifhljaa.PA
end
section
namespace Go.Proofs.Ytjhbhihfifhljaa.PA
open Go.RowKit Go.Proofs.YtjhbhihfifhljaaW.PrintWords Go.Proofs.YtjhbhihfifhljaaW.PrintLast Go.Proofs.YtjhbhihfifhljaaW.PrintMore
attribute [local go_sem] max2_int min2_int max_two min_two max_three min_three max_four min_four
set_option linter.unusedVariables false
set_option linter.unusedSimpArgs false
def laws_markType.f (k : Nat) (l0_0 : List (S30)) (a1 : Int) : Option (Int) := (laws_markTypeS.f k l0_0 a1).bind fun t779 => (some t779)
theorem laws_markType.mono : ∀ a0 a1 k, LeO (laws_markType.f k a0 a1) (laws_markType.f (k + 1) a0 a1) := by
 intro a0 a1 k
 unfold laws_markType.f
 repeat' first
   | (with_reducible exact laws_markTypeS.mono _ _ _)
   | (with_reducible exact LeO.refl _)
   | (with_reducible exact LeO.none _)
   | (with_reducible refine LeO.ite ?_ ?_)
   | (with_reducible refine LeO.bind ?_ (fun _ => ?_))
   | exact laws_markTypeS.mono _ _ _
   | exact LeO.none _
   | refine LeO.ite ?_ ?_
   | refine LeO.bind ?_ (fun _ => ?_)
set_option maxHeartbeats 8000000 in
set_option maxRecDepth 100000 in
theorem laws_markType.calls (k : Nat) (A0_0 : Option Addr) (c0_0 : Nat) (l0_0 : List (S30)) (a1 : Int) (r : Int) (w : World) (hr0_0 : Kd.C k30 w A0_0 l0_0.length l0_0) (hc0_0 : l0_0.length ≤ c0_0) (h : laws_markType.f k l0_0 a1 = some r) :
  Calls Try.prog 39 #[.agg #[.slice A0_0 l0_0.length c0_0], .int .i64 a1] w fun e w' => e = .returned (.int .i64 r) ∧ Below w.heap.size w w' := by
 have hu30 := Try.underlying30
 have HR0_0 := Aside0.mk hr0_0
 have HC0_0 := Aside0.mk hc0_0
 clear hr0_0 hc0_0
 have HB := Aside0.mk (Below.refl w.heap.size w)
 have H : ((laws_markTypeS.f k l0_0 a1).bind fun t779 => (some t779)) = some r := h
 clear h
 obtain ⟨t779, A30, H⟩ := ob H
 have A3 := Aside0.mk A30
 clear A30
 obtain rfl := Option.some.inj H
 go_enter Try.func39, Try.ntmps39
 go_wp2_with (first | ((with_reducible refine gate_dst (N := 2) rfl ?_); refine zbx 2 #[.slice A0_0 l0_0.length c0_0] 30 ?_; intro gb778 hg w4 hbox hb; have BK778 := Aside0.mk hbox; have GW778 := Aside0.mk ((y5 hg HB.out : w.heap.size ≤ gb778)); have GE778 := Aside0.mk ((y5 hg HB.out : w.heap.size ≤ gb778)); replace HB := Aside0.mk (below_step (y2 HB.out) hb); clear hb hbox hg; have hcz5_0 := zh BK778; have hfz5_0 := zfr BK778 0) | ((with_reducible refine gate_callee (f := 72) rfl ?_); refine goesL_ (some 8) rfl rfl Try.func72 (by kernel_rfl) rfl #[.slice A0_0 l0_0.length c0_0, .int .i64 a1] rfl y4 ?_; (with_reducible refine (laws_markTypeS.calls k _ _ l0_0 a1 t779 _ ?side1 ?side2 A3.out).mono ?_); (case side1 => exact y8 HR0_0.out HB.out); (case side2 => exact HC0_0.out); rintro e w' ⟨rfl, ⟨nd, rfl⟩⟩; refine ⟨_, rfl, ?_⟩))
 go_ret
 exact ⟨y14, (y3 HB.out GE778.out)⟩
end Go.Proofs.Ytjhbhihfifhljaa.PA
end
section
namespace Go.Proofs.Ytjhbhihfifhljaa.PA
open Go.RowKit Go.Proofs.YtjhbhihfifhljaaW.PrintWords Go.Proofs.YtjhbhihfifhljaaW.PrintLast Go.Proofs.YtjhbhihfifhljaaW.PrintMore
attribute [local go_sem] max2_int min2_int max_two min_two max_three min_three max_four min_four
set_option linter.unusedVariables false
set_option linter.unusedSimpArgs false
def laws_markIntS.l0 : Nat → List Int → Int → Int → Option (Int × List Int)
 | 0, _, _, _ => none
 | k + 1, x0, x1, x5 => if x5 < (x0.length : Int) then (if 0 ≤ x5 then (laws_markIntS.l0 k (x0.set (x5 : Int).toNat x1) (wrap64 (x1 + 1)) (wrap64 (x5 + 1))) else (none)) else (some (x1, x0))
def laws_markIntS.f (k : Nat) (l0 : List Int) (a1 : Int) : Option (Int × List Int) := laws_markIntS.l0 k l0 a1 0
theorem laws_markIntS.mono_l : ∀ k, (∀ y0 y1 y2, LeO (laws_markIntS.l0 k y0 y1 y2) (laws_markIntS.l0 (k + 1) y0 y1 y2))
 | 0 => fun _ _ _ r h => by simp [laws_markIntS.l0] at h
 | k + 1 => by
  have ih0 := laws_markIntS.mono_l k
  ·intro y0 y1 y2
   unfold laws_markIntS.l0
   repeat' first
   | (with_reducible exact ih0 _ _ _)
   | (with_reducible exact LeO.refl _)
   | (with_reducible exact LeO.none _)
   | (with_reducible refine LeO.ite ?_ ?_)
   | (with_reducible refine LeO.bind ?_ (fun _ => ?_))
   | exact ih0 _ _ _
   | exact LeO.none _
   | refine LeO.ite ?_ ?_
   | refine LeO.bind ?_ (fun _ => ?_)
theorem laws_markIntS.mono : ∀ a0 a1 k, LeO (laws_markIntS.f k a0 a1) (laws_markIntS.f (k + 1) a0 a1) := by
 intro a0 a1 k
 have ih0 := laws_markIntS.mono_l k
 unfold laws_markIntS.f
 repeat' first
   | (with_reducible exact ih0 _ _ _)
   | (with_reducible exact LeO.refl _)
   | (with_reducible exact LeO.none _)
   | (with_reducible refine LeO.ite ?_ ?_)
   | (with_reducible refine LeO.bind ?_ (fun _ => ?_))
   | exact ih0 _ _ _
   | exact LeO.none _
   | refine LeO.ite ?_ ?_
   | refine LeO.bind ?_ (fun _ => ?_)
set_option maxHeartbeats 8000000 in
set_option maxRecDepth 100000 in
theorem laws_markIntS.calls (k : Nat) (P0_ : Nat → Prop) (u9000_ : Value) (l0 : List Int) (a1 : Int) (r1 : Int) (r2 : List Int) (w0 w : World) (hB : Below w0.heap.size w0 w) (ho0 : Kd.R (Kd.int .i64) 3 w w0.heap.size P0_ u9000_ l0) (h : laws_markIntS.f k l0 a1 = some (r1, r2)) :
  Calls Try.prog 40 #[u9000_, .int .i64 a1] w fun e w' => e = .returned (.int .i64 r1) ∧ Kd.R (Kd.int .i64) 3 w' w0.heap.size (fun k_ => (P0_ k_ ∨ w.heap.size ≤ k_)) u9000_ r2 ∧ Below w0.heap.size w0 w' ∧ Kept w w' (fun k_ => P0_ k_) := by
 have HO0 := Aside0.mk (show Kd.R (Kd.int .i64) 3 w w0.heap.size (fun k_ => (P0_ k_ ∨ w.heap.size ≤ k_)) u9000_ l0 from Kd.R_mono ho0 (fun k_ hk => (.inl hk)))
 have HK := Aside0.mk (Kept.refl w (fun k_ => P0_ k_))
 have HW0 := Aside0.mk hB.size
 have HB := Aside0.mk hB
 clear hB
 have H : (laws_markIntS.l0 k l0 a1 0) = some (r1, r2) := h
 clear h
 have H' := Aside0.mk H
 clear H
 go_enter Try.func40, Try.ntmps40
 go_wp2
 go_loopg [1, 5] k (fun kq v1 v5 w' => ∃ (x0_1 : List Int) (x1_1 : Int) (x5_1 : Int), v1 = .int .i64 x1_1 ∧ v5 = .int .i64 x5_1 ∧ Aside0 (laws_markIntS.l0 kq x0_1 x1_1 x5_1 = some (r1, r2)) ∧ Aside0 (kq ≤ k) ∧ Aside0 (Kd.R (Kd.int .i64) 3 w' w0.heap.size (fun k_ => (P0_ k_ ∨ w.heap.size ≤ k_)) u9000_ x0_1) ∧ Aside0 (Kept w w' (fun k_ => P0_ k_)) ∧ Aside0 (Below w0.heap.size w0 w'))
 case atStart => exact ⟨(l0), (a1), (0), y26, y26, H', ⟨Nat.le_refl _⟩, ⟨(y10 HO0.out)⟩, ⟨(y60 HK.out)⟩, ⟨(y2 HB.out)⟩⟩
 case round =>
  clear H'
  try clear p2
  obtain ⟨x0_1, x1_1, x5_1, rfl, rfl, HA, HK1, HO_0, HK, HB⟩ := hrel
  cases gk with
  | zero => exact absurd HA.out (by simp [laws_markIntS.l0])
  | succ k1 =>
   have H := HA.out
   clear HA
   simp only [laws_markIntS.l0] at H
   by_cases c3 : x5_1 < (x0_1.length : Int)
   ·rw [if_pos c3] at H
    have c3b0 : decide (x5_1 < (x0_1.length : Int)) = true := decide_eq_true c3
    clear c3
    by_cases c4 : 0 ≤ x5_1
    ·rw [if_pos c4] at H
     have c4b0 : decide (0 ≤ x5_1) = true := decide_eq_true c4
     clear c4
     obtain ⟨y780, hy780⟩ : ∃ y_ : List Int, y_ = (x0_1.set (x5_1 : Int).toNat x1_1) := ⟨_, rfl⟩
     replace H : (laws_markIntS.l0 k1 y780 (wrap64 (x1_1 + 1)) (wrap64 (x5_1 + 1))) = some (r1, r2) := by first | (rw [hy780]; with_reducible exact H) | (have H2_ := (Option.bind_some _ _).symm.trans H; rw [hy780]; with_reducible exact H2_) | (have H2_ := (Option.bind_some _ _).symm.trans H; with_reducible exact H2_) | with_reducible exact H | (rw [hy780]; exact H) | exact H
     have Ny780 := Aside0.mk hy780
     clear hy780
     have H' := Aside0.mk H
     clear H
     obtain ⟨Ao6, co6, eo6⟩ := Kd.R_slice HO_0.out
     subst eo6
     have p5 : 0 ≤ (x5_1 : Int) := of_decide_eq_true y19
     have q5 : (x5_1 : Int) < ((x0_1.length : Int) : Int) := of_decide_eq_true y19
     obtain ⟨go5, co5, eo5, gb5, gl5, cl5, HG5⟩ := Kd.R_form HO_0.out (by omega)
     (first | cases eo5 | (injection eo5 with ea_ en_ ec_; (first | subst ea_ | (injection ea_ with ea_; subst ea_)); subst ec_; clear en_))
     have GB5 := Aside0.mk gb5
     have GG5 := Aside0.mk HG5
     clear gb5 gl5 HG5
     have HMgo5 := Aside0.mk (show (P0_ go5 ∨ w.heap.size ≤ go5) from (HO_0.out.1 _ rfl))
     obtain ⟨hx5_0, hf5_0⟩ := Kd.R_celln 0 HO_0.out (x5_1 : Int) p5 q5
     replace p5 := eq_true p5
     replace q5 := eq_true q5
     have HP7 := Kd.R_putg HO_0.out (x5_1 : Int) x1_1
     go_wp2_with (first | ((with_reducible refine gate_store (t := 3) (p := 15) rfl ?_); refine store_event (t := 3) (p := 15) (v := ?vo_w8) (w1 := (wr.setCell ⟨go5, (x5_1 : Int).toNat, none⟩ (.int .i64 x1_1))) ?hg ?ho ?hn ?hr ?_; (case ho => rfl); (case hg => rfl); (case hn => rfl); (case hr => first | (go_simp; done) | (go_simp; rfl)); intro w8 hw; have hg : wr.grownBy w8 (some go5) := (by rw [hw]; exact HP7.2); have hp_ : Kd.R (Kd.int .i64) 3 w8 w0.heap.size (fun k_ => (P0_ k_ ∨ w.heap.size ≤ k_)) (.slice (some ⟨go5, 0, none⟩) x0_1.length co6) y780 := (by rw [hw, Ny780.out]; exact HP7.1); clear HP7; replace HB := Aside0.mk ((by rw [hw]; exact below_set (HB.out) GB5.out : Below w0.heap.size w0 w8)); replace HK := Aside0.mk (Kept.of_grown (S := (fun k_ => P0_ k_)) hg (y60 HK.out) (fun k_ e_ => (HO_0.out.1 k_ e_))); replace HO_0 := Aside0.mk (hp_); clear hg hw hp_))
     go_roundg k1
     case measure => have := HK1.out; omega
     case rel => exact ⟨(y780), (wrap64 (x1_1 + 1)), (wrap64 (x5_1 + 1)), y26, y26, H', ⟨(y46 HK1.out)⟩, ⟨(y10 HO_0.out)⟩, ⟨(y60 HK.out)⟩, ⟨(y2 HB.out)⟩⟩
    ·rw [if_neg c4] at H
     exact absurd H (by simp)
   ·rw [if_neg c3] at H
    have c3b0 : decide (x5_1 < (x0_1.length : Int)) = false := decide_eq_false c3
    clear c3
    simp only [Option.some.injEq, Prod.mk.injEq] at H
    obtain ⟨rfl, rfl⟩ := H
    obtain ⟨Ao9, co9, eo9⟩ := Kd.R_slice HO_0.out
    subst eo9
    go_wp2
    go_ret
    exact ⟨y14, (y10 HO_0.out), (y2 HB.out), (y60 HK.out)⟩
end Go.Proofs.Ytjhbhihfifhljaa.PA
end
section
namespace Go.Proofs.Ytjhbhihfifhljaa.PA
open Go.RowKit Go.Proofs.YtjhbhihfifhljaaW.PrintWords Go.Proofs.YtjhbhihfifhljaaW.PrintLast Go.Proofs.YtjhbhihfifhljaaW.PrintMore
attribute [local go_sem] max2_int min2_int max_two min_two max_three min_three max_four min_four
set_option linter.unusedVariables false
set_option linter.unusedSimpArgs false
mutual
def laws_heldTypeS.l0 : Nat → List (S30) → Int → Int → Option (Int)
 | 0, _, _, _ => none
 | k + 1, x0, x1, x5 => if x5 < (x0.length : Int) then (if 0 ≤ x5 then ((laws_heldTypeS.f k ((rd_T30 x0 x5).f0) x1).bind fun t782 => (if t782 < 0 then (some (-1)) else (laws_heldTypeS.l0 k x0 t782 (wrap64 (x5 + 1))))) else (none)) else (some x1)
def laws_heldTypeS.f : Nat → List (S30) → Int → Option (Int)
 | 0, _, _ => none
 | k + 1, l0, a1 => laws_heldTypeS.l0 k l0 a1 0
end
theorem laws_heldTypeS.mono_l : ∀ k, (∀ y0 y1, LeO (laws_heldTypeS.f k y0 y1) (laws_heldTypeS.f (k + 1) y0 y1)) ∧ (∀ y0 y1 y2, LeO (laws_heldTypeS.l0 k y0 y1 y2) (laws_heldTypeS.l0 (k + 1) y0 y1 y2))
 | 0 => ⟨fun _ _ r h => by simp [laws_heldTypeS.f] at h, fun _ _ _ r h => by simp [laws_heldTypeS.l0] at h⟩
 | k + 1 => by
  obtain ⟨ih0, ih1⟩ := laws_heldTypeS.mono_l k
  refine ⟨?_, ?_⟩
  ·intro y0 y1
   unfold laws_heldTypeS.f
   repeat' first
   | (with_reducible exact ih0 _ _)
   | (with_reducible exact ih1 _ _ _)
   | (with_reducible exact LeO.refl _)
   | (with_reducible exact LeO.none _)
   | (with_reducible refine LeO.ite ?_ ?_)
   | (with_reducible refine LeO.bind ?_ (fun _ => ?_))
   | exact ih0 _ _
   | exact ih1 _ _ _
   | exact LeO.none _
   | refine LeO.ite ?_ ?_
   | refine LeO.bind ?_ (fun _ => ?_)
  ·intro y0 y1 y2
   unfold laws_heldTypeS.l0
   repeat' first
   | (with_reducible exact ih0 _ _)
   | (with_reducible exact ih1 _ _ _)
   | (with_reducible exact LeO.refl _)
   | (with_reducible exact LeO.none _)
   | (with_reducible refine LeO.ite ?_ ?_)
   | (with_reducible refine LeO.bind ?_ (fun _ => ?_))
   | exact ih0 _ _
   | exact ih1 _ _ _
   | exact LeO.none _
   | refine LeO.ite ?_ ?_
   | refine LeO.bind ?_ (fun _ => ?_)
theorem laws_heldTypeS.mono : ∀ a0 a1 k, LeO (laws_heldTypeS.f k a0 a1) (laws_heldTypeS.f (k + 1) a0 a1) := by
 intro a0 a1 k
 obtain ⟨ih0, ih1⟩ := laws_heldTypeS.mono_l k
 exact ih0 a0 a1
set_option maxHeartbeats 8000000 in
set_option maxRecDepth 100000 in
theorem laws_heldTypeS.calls (k : Nat) : ∀ (A0 : Option Addr) (c0 : Nat) (l0 : List (S30)) (a1 : Int) (r : Int) (w : World) (hr0 : Kd.C k30 w A0 l0.length l0) (hc0 : l0.length ≤ c0) (h : laws_heldTypeS.f k l0 a1 = some r),
  Calls Try.prog 73 #[.slice A0 l0.length c0, .int .i64 a1] w fun e w' => e = .returned (.int .i64 r) ∧ Drawn0 w w' := by
 induction k using Nat.strongRecOn with
 | _ k ih =>
 intro A0 c0 l0 a1 r w hr0 hc0 h
 cases k with
 | zero => exact absurd h (by simp [laws_heldTypeS.f])
 | succ k =>
 simp only [laws_heldTypeS.f] at h
 have HR0 := Aside0.mk hr0
 have HC0 := Aside0.mk hc0
 clear hr0 hc0
 have H : (laws_heldTypeS.l0 k l0 a1 0) = some r := h
 clear h
 have H' := Aside0.mk H
 clear H
 go_enter Try.func73, Try.ntmps73
 go_wp2
 go_loopg [1, 5] k (fun kq v1 v5 w' => ∃ (x1_1 : Int) (x5_1 : Int), v1 = .int .i64 x1_1 ∧ v5 = .int .i64 x5_1 ∧ Aside0 (laws_heldTypeS.l0 kq l0 x1_1 x5_1 = some r) ∧ Aside0 (kq ≤ k) ∧ Drawn0 w w')
 case atStart => exact ⟨(a1), (0), y26, y26, H', ⟨Nat.le_refl _⟩, y37⟩
 case round =>
  clear H'
  try clear p2
  obtain ⟨x1_1, x5_1, rfl, rfl, HA, HK1, ⟨m1, rfl⟩⟩ := hrel
  cases gk with
  | zero => exact absurd HA.out (by simp [laws_heldTypeS.l0])
  | succ k1 =>
   have H := HA.out
   clear HA
   simp only [laws_heldTypeS.l0] at H
   by_cases c3 : x5_1 < (l0.length : Int)
   ·rw [if_pos c3] at H
    have c3b0 : decide (x5_1 < (l0.length : Int)) = true := decide_eq_true c3
    clear c3
    by_cases c4 : 0 ≤ x5_1
    ·rw [if_pos c4] at H
     have c4b0 : decide (0 ≤ x5_1) = true := decide_eq_true c4
     clear c4
     obtain ⟨t782, A50, H⟩ := ob H
     have A5 := Aside0.mk A50
     clear A50
     by_cases c6 : t782 < 0
     ·rw [if_pos c6] at H
      have c6b0 : decide (t782 < 0) = true := decide_eq_true c6
      clear c6
      obtain rfl := Option.some.inj H
      have p781 : 0 ≤ (x5_1 : Int) := of_decide_eq_true y19
      have q781 : x5_1 < (l0.length : Int) := of_decide_eq_true y19
      obtain ⟨ad781, A781_0, c781_0, e781, hx781_0, hl781_0, hi781_0⟩ := at_T30 HR0.out x5_1 p781 q781
      cases e781
      have HR781_0 := Aside0.mk hi781_0
      have HC781_0 := Aside0.mk hl781_0
      clear hi781_0 hl781_0
      replace p781 := eq_true p781
      replace q781 := eq_true q781
      go_wp2_with (first | ((with_reducible refine gate_callee (f := 73) rfl ?_); refine goesL_ (some 18) rfl rfl Try.func73 (by kernel_rfl) rfl #[.slice A781_0 ((rd_T30 l0 x5_1).f0).length c781_0, .int .i64 x1_1] rfl y4 ?_; (with_reducible refine (ih k1 (y46 HK1.out) _ _ ((rd_T30 l0 x5_1).f0) x1_1 t782 _ ?side1 ?side2 A5.out).mono ?_); (case side1 => exact y53 HR781_0.out); (case side2 => exact HC781_0.out); rintro e w' ⟨rfl, ⟨nd, rfl⟩⟩; refine ⟨_, rfl, ?_⟩))
      go_ret
      exact ⟨y26, y37⟩
     ·rw [if_neg c6] at H
      have c6b0 : decide (t782 < 0) = false := decide_eq_false c6
      clear c6
      have H' := Aside0.mk H
      clear H
      have p781 : 0 ≤ (x5_1 : Int) := of_decide_eq_true y19
      have q781 : x5_1 < (l0.length : Int) := of_decide_eq_true y19
      obtain ⟨ad781, A781_0, c781_0, e781, hx781_0, hl781_0, hi781_0⟩ := at_T30 HR0.out x5_1 p781 q781
      cases e781
      have HR781_0 := Aside0.mk hi781_0
      have HC781_0 := Aside0.mk hl781_0
      clear hi781_0 hl781_0
      replace p781 := eq_true p781
      replace q781 := eq_true q781
      go_wp2_with (first | ((with_reducible refine gate_callee (f := 73) rfl ?_); refine goesL_ (some 18) rfl rfl Try.func73 (by kernel_rfl) rfl #[.slice A781_0 ((rd_T30 l0 x5_1).f0).length c781_0, .int .i64 x1_1] rfl y4 ?_; (with_reducible refine (ih k1 (y46 HK1.out) _ _ ((rd_T30 l0 x5_1).f0) x1_1 t782 _ ?side1 ?side2 A5.out).mono ?_); (case side1 => exact y53 HR781_0.out); (case side2 => exact HC781_0.out); rintro e w' ⟨rfl, ⟨nd, rfl⟩⟩; refine ⟨_, rfl, ?_⟩))
      go_roundg k1
      case measure => have := HK1.out; omega
      case rel => exact ⟨(t782), (wrap64 (x5_1 + 1)), y26, y26, H', ⟨(y46 HK1.out)⟩, y37⟩
    ·rw [if_neg c4] at H
     exact absurd H (by simp)
   ·rw [if_neg c3] at H
    have c3b0 : decide (x5_1 < (l0.length : Int)) = false := decide_eq_false c3
    clear c3
    obtain rfl := Option.some.inj H
    go_wp2
    go_ret
    exact ⟨y26, y37⟩
end Go.Proofs.Ytjhbhihfifhljaa.PA
end
section
namespace Go.Proofs.Ytjhbhihfifhljaa.PA
open Go.RowKit Go.Proofs.YtjhbhihfifhljaaW.PrintWords Go.Proofs.YtjhbhihfifhljaaW.PrintLast Go.Proofs.YtjhbhihfifhljaaW.PrintMore
attribute [local go_sem] max2_int min2_int max_two min_two max_three min_three max_four min_four
set_option linter.unusedVariables false
set_option linter.unusedSimpArgs false
def laws_heldType.f (k : Nat) (l0_0 : List (S30)) (a1 : Int) : Option (Int) := (laws_heldTypeS.f k l0_0 a1).bind fun t784 => (if t784 < 0 then (some (-1)) else (some t784))
theorem laws_heldType.mono : ∀ a0 a1 k, LeO (laws_heldType.f k a0 a1) (laws_heldType.f (k + 1) a0 a1) := by
 intro a0 a1 k
 unfold laws_heldType.f
 repeat' first
   | (with_reducible exact laws_heldTypeS.mono _ _ _)
   | (with_reducible exact LeO.refl _)
   | (with_reducible exact LeO.none _)
   | (with_reducible refine LeO.ite ?_ ?_)
   | (with_reducible refine LeO.bind ?_ (fun _ => ?_))
   | exact laws_heldTypeS.mono _ _ _
   | exact LeO.none _
   | refine LeO.ite ?_ ?_
   | refine LeO.bind ?_ (fun _ => ?_)
set_option maxHeartbeats 8000000 in
set_option maxRecDepth 100000 in
theorem laws_heldType.calls (k : Nat) (A0_0 : Option Addr) (c0_0 : Nat) (l0_0 : List (S30)) (a1 : Int) (r : Int) (w : World) (hr0_0 : Kd.C k30 w A0_0 l0_0.length l0_0) (hc0_0 : l0_0.length ≤ c0_0) (h : laws_heldType.f k l0_0 a1 = some r) :
  Calls Try.prog 41 #[.agg #[.slice A0_0 l0_0.length c0_0], .int .i64 a1] w fun e w' => e = .returned (.int .i64 r) ∧ Below w.heap.size w w' := by
 have hu30 := Try.underlying30
 have HR0_0 := Aside0.mk hr0_0
 have HC0_0 := Aside0.mk hc0_0
 clear hr0_0 hc0_0
 have HB := Aside0.mk (Below.refl w.heap.size w)
 have H : ((laws_heldTypeS.f k l0_0 a1).bind fun t784 => (if t784 < 0 then (some (-1)) else (some t784))) = some r := h
 clear h
 obtain ⟨t784, A30, H⟩ := ob H
 have A3 := Aside0.mk A30
 clear A30
 by_cases c4 : t784 < 0
 ·rw [if_pos c4] at H
  have c4b0 : decide (t784 < 0) = true := decide_eq_true c4
  clear c4
  obtain rfl := Option.some.inj H
  go_enter Try.func41, Try.ntmps41
  go_wp2_with (first | ((with_reducible refine gate_dst (N := 2) rfl ?_); refine zbx 2 #[.slice A0_0 l0_0.length c0_0] 30 ?_; intro gb783 hg w5 hbox hb; have BK783 := Aside0.mk hbox; have GW783 := Aside0.mk ((y5 hg HB.out : w.heap.size ≤ gb783)); have GE783 := Aside0.mk ((y5 hg HB.out : w.heap.size ≤ gb783)); replace HB := Aside0.mk (below_step (y2 HB.out) hb); clear hb hbox hg; have hcz6_0 := zh BK783; have hfz6_0 := zfr BK783 0) | ((with_reducible refine gate_callee (f := 73) rfl ?_); refine goesL_ (some 8) rfl rfl Try.func73 (by kernel_rfl) rfl #[.slice A0_0 l0_0.length c0_0, .int .i64 a1] rfl y4 ?_; (with_reducible refine (laws_heldTypeS.calls k _ _ l0_0 a1 t784 _ ?side1 ?side2 A3.out).mono ?_); (case side1 => exact y8 HR0_0.out HB.out); (case side2 => exact HC0_0.out); rintro e w' ⟨rfl, ⟨nd, rfl⟩⟩; refine ⟨_, rfl, ?_⟩))
  go_ret
  exact ⟨y14, (y3 HB.out GE783.out)⟩
 ·rw [if_neg c4] at H
  have c4b0 : decide (t784 < 0) = false := decide_eq_false c4
  clear c4
  obtain rfl := Option.some.inj H
  go_enter Try.func41, Try.ntmps41
  go_wp2_with (first | ((with_reducible refine gate_dst (N := 2) rfl ?_); refine zbx 2 #[.slice A0_0 l0_0.length c0_0] 30 ?_; intro gb783 hg w7 hbox hb; have BK783 := Aside0.mk hbox; have GW783 := Aside0.mk ((y5 hg HB.out : w.heap.size ≤ gb783)); have GE783 := Aside0.mk ((y5 hg HB.out : w.heap.size ≤ gb783)); replace HB := Aside0.mk (below_step (y2 HB.out) hb); clear hb hbox hg; have hcz8_0 := zh BK783; have hfz8_0 := zfr BK783 0) | ((with_reducible refine gate_callee (f := 73) rfl ?_); refine goesL_ (some 8) rfl rfl Try.func73 (by kernel_rfl) rfl #[.slice A0_0 l0_0.length c0_0, .int .i64 a1] rfl y4 ?_; (with_reducible refine (laws_heldTypeS.calls k _ _ l0_0 a1 t784 _ ?side1 ?side2 A3.out).mono ?_); (case side1 => exact y8 HR0_0.out HB.out); (case side2 => exact HC0_0.out); rintro e w' ⟨rfl, ⟨nd, rfl⟩⟩; refine ⟨_, rfl, ?_⟩))
  go_ret
  exact ⟨y14, (y3 HB.out GE783.out)⟩
end Go.Proofs.Ytjhbhihfifhljaa.PA
end
